/- The contracts of the codes' functions, second part: letters' worths, Parse, Near. -/
import Derived.Test.YtmmmehllfokjgaaDoorCod
import Derived.Test.YtmmmehllfokjgaaDoorShelf
namespace Go.Proofs.YtmmmehllfokjgaaDoor.Cod
open Go.RowKit

-- codes.worth
set_option maxHeartbeats 400000 in
theorem worth (c : Nat) (w : World) :
    Calls Tryd.prog 20 #[.int .u8 (c : Int)] w fun e w' => e = .returned (.int .i64 (wI c)) ∧ w = w' := by
  go_enter Tryd.func20, Tryd.ntmps20
  go_wp2_with fail
  refine (Tryd.strings_IndexByte _ (c : Int) _).mono ?_
  rintro e w' ⟨rfl, rfl⟩
  go_wp2_with fail
  go_ret
  exact ⟨rfl, rfl⟩

-- gangwayref15.Worth
set_option maxHeartbeats 400000 in
theorem rWorth (c : Nat) (hc : c < 256) (w : World) :
    Calls Tryd.prog 22 #[.int .u8 (c : Int)] w fun e w' => e = .returned (.int .i64 (wI c)) ∧ w = w' := by
  go_enter Tryd.func22, Tryd.ntmps22
  go_wp2
  go_loop [3] (fun i => ∃ k : Nat, i = .int .i64 k ∧ k ≤ 32 ∧ ∀ j, j < k → lt j ≠ c) (fun i => (32 - intOf i).toNat)
  case atStart => exact ⟨0, rfl, by omega, fun j hj => absurd hj (by omega)⟩
  case round =>
    obtain ⟨k, rfl, hk, hn⟩ := hrel
    have HN := Lib.hid hn; clear hn
    by_cases h : k < 32
    · have hl : (k : Int) < 32 := by omega
      by_cases he : lt k = c
      · have HE := Lib.hid he
        have h5 : ∀ hh, (((ByteArray.mk #[50, 51, 52, 53, 54, 55, 56, 57, 65, 66, 67, 68, 69, 70, 71, 72, 74, 75, 76, 77, 78, 80, 81, 82, 83, 84, 85, 86, 87, 88, 89, 90])[k]'hh).toNat : Int) = c := fun hh => by rw [lt_get k hh, he]
        clear he
        go_wp2
        go_ret
        exact ⟨ret_int (by rw [← HE.out, wI_lt h]), rfl⟩
      · have HE := Lib.hid he
        have h5 : ∀ hh, ((((ByteArray.mk #[50, 51, 52, 53, 54, 55, 56, 57, 65, 66, 67, 68, 69, 70, 71, 72, 74, 75, 76, 77, 78, 80, 81, 82, 83, 84, 85, 86, 87, 88, 89, 90])[k]'hh).toNat : Int) == (c : Int)) = false := fun hh => by
          rw [lt_get k hh]; simp; omega
        clear he
        go_wp2
        go_round
        case rel =>
          refine ⟨k + 1, by go_num, by omega, fun j hj => ?_⟩
          rcases Nat.lt_or_ge j k with h6 | h6
          · exact HN.out j h6
          · obtain rfl : j = k := by omega
            exact HE.out
        case measure => simp [intOf]; omega
    · obtain rfl : k = 32 := by omega
      go_wp2
      go_ret
      exact ⟨ret_int (wI_none hc HN.out).symm, rfl⟩

def codeA (n : Nat) : Array Value := #[.int .u8 (lt (dig n 0) : Nat), .int .u8 (lt (dig n 1) : Nat), .int .u8 (lt (dig n 2) : Nat), .int .u8 (lt (dig n 3) : Nat), .int .u8 (lt (dig n 4) : Nat), .int .u8 (lt (dig n 5) : Nat), .int .u8 (lt (dig n 6) : Nat), .int .u8 (lt (chk (dig n) 7) : Nat)]
theorem codeA_at (n k : Nat) (h : k < 8) : (codeA n)[k]? = some (.int .u8 (lt (wor n k) : Nat)) := by
  obtain rfl | rfl | rfl | rfl | rfl | rfl | rfl | rfl : k = 0 ∨ k = 1 ∨ k = 2 ∨ k = 3 ∨ k = 4 ∨ k = 5 ∨ k = 6 ∨ k = 7 := by omega
  all_goals rfl

-- codes.Near
set_option maxHeartbeats 1000000 in
theorem Near (a b : Nat) (ha : a < 4294967296) (hb : b < 4294967296) (w : World) (ht : Tab w) :
    Calls Tryd.prog 15 #[.int .u32 a, .int .u32 b] w fun e w' => e = .returned (.int .i64 (cnt (wor a) (wor b) 8 : Nat)) ∧ Below w.heap.size w w' := by
  have HT := Lib.hid ht; clear ht
  go_enter Tryd.func15, Tryd.ntmps15
  go_wp2_with fail
  refine (code a ha _ HT.out).mono ?_
  rintro e w1 ⟨rfl, hb1⟩
  have HT1 := Lib.hid (HT.out.keep hb1)
  go_wp2_with fail
  refine (code b hb _ HT1.out).mono ?_
  rintro e w2 ⟨rfl, hb2⟩
  unfold codeV
  go_wp2_with fail
  go_loopw [7, 13] (fun n i wr => ∃ k : Nat, k ≤ 8 ∧ i = .int .i64 k ∧ n = .int .i64 (cnt (wor a) (wor b) k : Nat) ∧ Arr wr w2.heap.size 39 (codeA a) ∧ Arr wr (w2.heap.size + 1) 39 (codeA b) ∧ Below w.heap.size w wr) (fun _ i _ => (8 - intOf i).toNat)
  case atStart =>
    refine ⟨0, by omega, rfl, rfl, (Arr.fresh _ _ _).alloc _, Arr.new (by simp), ?_⟩
    repeat (first | with_reducible exact Below.refl _ _ | with_reducible refine ext_alloc ?_ _ | with_reducible refine ext_drew ?_ | with_reducible refine ext_drewN ?_ _ | (refine ext_setCell ?_ (by simp at *; omega) _) | with_reducible refine ext_trans ?_ (by assumption))
  case round =>
    obtain ⟨k, hk, rfl, rfl, hA, hB, hw⟩ := hrel
    have hc := cnt_le (wor a) (wor b) k
    by_cases h : k < 8
    · have hx := (hA.cell k).trans (codeA_at a k h)
      have hy := (hB.cell k).trans (codeA_at b k h)
      have h0 : (0 : Int) ≤ (k : Int) := by omega
      have h8 : (k : Int) < 8 := by omega
      have HA := Lib.hid hA; have HB := Lib.hid hB
      clear hA hB
      by_cases he : lt (wor a k) = lt (wor b k)
      · have HE := Lib.hid he
        have hbb : ((lt (wor a k) : Int) != (lt (wor b k) : Int)) = false := by simp [he]
        clear he
        go_wp2_with fail
        go_quiet (fail)
        go_wp2_with fail
        go_roundw
        case rel =>
          refine ⟨k + 1, by omega, by go_num, ?_, HA.out.drewN _, HB.out.drewN _, ext_drewN hw _⟩
          rw [cnt, if_pos HE.out]; rfl
        case measure => simp [intOf]; omega
      · have HE := Lib.hid he
        have hbb : ((lt (wor a k) : Int) != (lt (wor b k) : Int)) = true := by simp; omega
        clear he
        go_wp2_with fail
        go_quiet (fail)
        go_wp2_with fail
        go_roundw
        case rel =>
          refine ⟨k + 1, by omega, by go_num, ?_, HA.out.drewN _, HB.out.drewN _, ext_drewN hw _⟩
          rw [cnt, if_neg HE.out]; rfl
        case measure => simp [intOf]; omega
    · obtain rfl : k = 8 := by omega
      go_wp2_with fail
      go_ret
      exact ⟨rfl, hw⟩

end Go.Proofs.YtmmmehllfokjgaaDoor.Cod
