/- The contracts of the codes' reference: doubled, Check, Text. -/
import Derived.Test.YtmmmehllfokjgaaDoorCod3
namespace Go.Proofs.YtmmmehllfokjgaaDoor.Cod
open Go.RowKit

theorem int_info : (Tryd.prog.info? 3).map (fun i => (i.zero, i.size, i.bytes)) = some (some (.int .i64 0), 1, 8) := by kernel_rfl

theorem xor64 (a b : Nat) (ha : a < 64) (hb : b < 64) : bits BinOp.xor IntKind.i64 (a : Int) (b : Int) = ((a ^^^ b : Nat) : Int) := by
  have hx : a ^^^ b < 64 := Nat.xor_lt_two_pow (n := 6) ha hb
  show IntKind.i64.wrap ((BitVec.ofInt 64 (a : Int) ^^^ BitVec.ofInt 64 (b : Int)).toNat : Int) = _
  have e : ∀ m : Nat, m < 64 → (BitVec.ofInt 64 (m : Int)).toNat = m := fun m hm => by
    rw [BitVec.ofInt_natCast, BitVec.toNat_ofNat]; exact Nat.mod_eq_of_lt (by omega)
  rw [BitVec.toNat_xor, e a ha, e b hb, IntKind.wrap_i64]
  omega

-- gangwayref15.doubled
set_option maxHeartbeats 400000 in
theorem rdoubled (d : Nat) (hd : d < 32) (w : World) :
    Calls Tryd.prog 23 #[.int .i64 (d : Int)] w fun e w' => e = .returned (.int .i64 (dbl d : Nat)) ∧ w = w' := by
  by_cases h : d < 16
  · have H := Lib.hid h
    have h1 : (d : Int) < 16 := by omega
    go_enter Tryd.func23, Tryd.ntmps23
    go_wp2
    go_ret
    exact ⟨ret_int (by unfold dbl; rw [if_pos H.out]; omega), rfl⟩
  · have H := Lib.hid h
    have h1 : (16 : Int) ≤ (d : Int) := by omega
    have h2 := xor64 (2 * d) 37 (by omega) (by omega)
    rw [show ((2 * d : Nat) : Int) = 2 * (d : Int) from by omega, show ((37 : Nat) : Int) = 37 from rfl] at h2
    go_enter Tryd.func23, Tryd.ntmps23
    go_wp2
    go_ret
    exact ⟨ret_int (by unfold dbl; rw [if_neg H.out]), rfl⟩

-- gangwayref15.Check
set_option maxHeartbeats 400000 in
theorem rCheck (g n cap : Nat) (f : Nat → Nat) (hf : ∀ j, f j < 32) (hn : n ≤ 8) (w : World) (hc : ∀ j, j < n → w.cell? ⟨g, j, none⟩ = some (.int .i64 (f j : Nat))) :
    Calls Tryd.prog 19 #[.slice (some ⟨g, 0, none⟩) n cap] w fun e w' => e = .returned (.int .i64 (chk f n : Nat)) ∧ w = w' := by
  have HC := Lib.hid hc; clear hc
  have HF := Lib.hid hf; clear hf
  go_enter Tryd.func19, Tryd.ntmps19
  go_wp2_with fail
  go_loop [3, 4] (fun c i => ∃ k : Nat, i = .int .i64 k ∧ k ≤ n ∧ c = .int .i64 (chk f k : Nat)) (fun _ i => (n - intOf i).toNat)
  case atStart => exact ⟨0, rfl, by omega, rfl⟩
  case round =>
    obtain ⟨k, rfl, hk, rfl⟩ := hrel
    by_cases h : k < n
    · have h1 : (k : Int) < (n : Int) := by omega
      have h2 : (0 : Int) ≤ (k : Int) := by omega
      have hcell := HC.out k h
      have hcl := chk_lt HF.out k
      have hfl := HF.out k
      have hx := xor64 (chk f k) (f k) (by omega) (by omega)
      have hxl := xor_lt hcl hfl
      go_wp2_with fail
      refine (rdoubled _ hxl _).mono ?_
      rintro e w1 ⟨rfl, rfl⟩
      go_wp2_with fail
      go_round
      case rel => exact ⟨k + 1, by go_num, by omega, rfl⟩
      case measure => simp [intOf]; omega
    · obtain rfl : k = n := by omega
      go_wp2_with fail
      go_ret
      exact ⟨rfl, rfl⟩

def pw (k : Nat) : Nat := 1073741824 / 32 ^ k
theorem pw_next (k : Nat) : pw (k + 1) = pw k / 32 := by unfold pw; rw [Nat.pow_succ, Nat.div_div_eq_div_mul]
theorem pw_dig (n k : Nat) (h : k < 7) : n / pw k % 32 = dig n k := by
  unfold dig
  obtain rfl | rfl | rfl | rfl | rfl | rfl | rfl : k = 0 ∨ k = 1 ∨ k = 2 ∨ k = 3 ∨ k = 4 ∨ k = 5 ∨ k = 6 := by omega
  all_goals rfl
theorem pw_pos {k : Nat} (h : k < 7) : 1 ≤ pw k := by
  obtain rfl | rfl | rfl | rfl | rfl | rfl | rfl : k = 0 ∨ k = 1 ∨ k = 2 ∨ k = 3 ∨ k = 4 ∨ k = 5 ∨ k = 6 := by omega
  all_goals decide
theorem pw_hi (k : Nat) : pw k ≤ 1073741824 := Nat.div_le_self _ _

def digL (n k : Nat) : List Value := (List.range k).map fun i => .int .i64 (wor n i : Nat)
theorem digL_next (n k : Nat) : digL n (k + 1) = digL n k ++ [.int .i64 (wor n k : Nat)] := by
  unfold digL; rw [List.range_succ, List.map_append]; rfl
theorem digL_at {n k j : Nat} (h : j < k) : (digL n k)[j]? = some (.int .i64 (wor n j : Nat)) := by
  unfold digL; simp [h]

-- gangwayref15.Text
set_option maxHeartbeats 1000000 in
theorem rText (n : Nat) (hn : n < 4294967296) (w : World) :
    Calls Tryd.prog 11 #[.int .u32 n] w fun e w' => e = .returned (.string ⟨(txt n).toArray⟩) ∧ Below w.heap.size w w' := by
  obtain ⟨i0, hi, hz0, hz1, hz2⟩ := info_parts int_info
  go_enter Tryd.func11, Tryd.ntmps11
  go_wp2_with fail
  go_loopw [3, 4, 5] (fun v p i wr => ∃ (k c : Nat) (A : Option Addr), k ≤ 7 ∧ i = .int .i64 k ∧ p = .int .i64 (pw k : Nat) ∧ v = .slice A k c ∧ wr.ownsRow w.heap.size 3 1 (.slice A k c) k (digL n k) ∧ Below w.heap.size w wr) (fun _ _ i _ => (7 - intOf i).toNat)
  case atStart => exact ⟨0, 0, none, by omega, rfl, rfl, rfl, ⟨by simp [digL], .inl ⟨rfl, rfl⟩⟩, Below.refl _ _⟩
  case round =>
    obtain ⟨k, c, A, hk, rfl, rfl, rfl, hown, hb⟩ := hrel
    have hp := pw_hi k
    by_cases h : k < 7
    · have hp1 := pw_pos h
      have hd : ((n : Int) / (pw k : Int)) % 32 = ((wor n k : Nat) : Int) := by
        unfold wor; rw [if_pos h, ← pw_dig n k h]; omega
      have hq0 : 0 ≤ (n : Int) / (pw k : Int) := Int.ediv_nonneg (by omega) (by omega)
      have hq1 : (n : Int) / (pw k : Int) ≤ (n : Int) := Int.ediv_le_self _ (by omega)
      have hn1 : (n : Int) ≤ 4294967295 := by omega
      have hz := hb.size
      go_wp2_with (at_builtin; go_must (refine wpList_append_lies _ rfl (.tmp 12) (.tmp 18) 33 rfl w.heap.size 3 i0 (.int .i64 0) 1 8 Tryd.underlying33 hi hz0 hz1 hz2 rfl (by decide) (.slice A k c) k (digL n k) (by rfl) (hown.alloc _) ⟨wr.heap.size, 0, none⟩ 1 1 [.int .i64 (wor n k : Nat)] (by rfl) rfl (cell_one_new _ _ _) (by simp [Value.oneCell']) (by omega) (by unfold maxLen; omega) (by omega) (by simp; omega) (wr.heap.size + 1) (by simp) ?_); intro g cap w2 hown2 hgrow hat hlt)
      go_roundw
      case rel =>
        refine ⟨k + 1, cap, some ⟨g, 0, none⟩, by omega, by go_num, ?_, rfl, ?_, ext_append (ext_alloc hb _) (hown.alloc _) hgrow⟩
        · rw [pw_next]; rfl
        · rw [digL_next]; exact hown2
      case measure => simp [intOf]; omega
    · obtain rfl : k = 7 := by omega
      obtain ⟨g, cap, hv, hbg, hlt⟩ := hown.form (by omega)
      obtain ⟨rfl, rfl⟩ : A = some ⟨g, 0, none⟩ ∧ c = cap := by simpa using hv
      clear hv
      have hcells : ∀ j, j < 7 → wr.cell? ⟨g, j, none⟩ = some (.int .i64 (dig n j : Nat)) := fun j hj => by
        rw [hown.cellAt j (by omega), digL_at hj]; unfold wor; rw [if_pos hj]
      have HC := Lib.hid hcells; clear hcells
      have HO := Lib.hid hown; clear hown
      have hz := hb.size
      go_wp2_with fail
      refine (rCheck g 7 _ (dig n) (dig_lt n) (by omega) _ HC.out).mono ?_
      rintro e w1 ⟨rfl, rfl⟩
      go_wp2_with (at_builtin; go_must (refine wpList_append_lies _ rfl (.tmp 22) (.tmp 25) 33 rfl w.heap.size 3 i0 (.int .i64 0) 1 8 Tryd.underlying33 hi hz0 hz1 hz2 rfl (by decide) (.slice (some ⟨g, 0, none⟩) 7 _) 7 (digL n 7) (by rfl) (HO.out.alloc _) ⟨wr.heap.size, 0, none⟩ 1 1 [.int .i64 (chk (dig n) 7 : Nat)] (by rfl) rfl (cell_one_new _ _ _) (by simp [Value.oneCell']) (by omega) (by unfold maxLen; omega) (by omega) (by simp; omega) (wr.heap.size + 1) (by simp) ?_); intro g2 cap2 w2 hown2 hgrow hat hlt2)
      have hbw : Below w.heap.size w w2 := ext_append (ext_alloc hb _) (HO.out.alloc _) hgrow
      have hc2 : ∀ j, j < 8 → w2.cell? ⟨g2, j, none⟩ = some (.int .i64 (wor n j : Nat)) := fun j hj => by
        rw [hown2.cellAt j (by omega)]
        exact (congrArg (·[j]?) (digL_next n 7).symm).trans (digL_at hj)
      have HC2 := Lib.hid hc2
      clear hc2 hgrow hat HC HO hown2 hp hk h hlt
      go_loopw [6, 7] (fun s i wr => ∃ k m : Nat, k ≤ 8 ∧ i = .int .i64 k ∧ s = .string ⟨((txt n).take k).toArray⟩ ∧ wr = w2.drewN m) (fun _ i _ => (8 - intOf i).toNat)
      case atStart => exact ⟨0, 0, by omega, rfl, rfl, rfl⟩
      case round =>
        obtain ⟨k, m, hk, rfl, rfl, rfl⟩ := hrel
        by_cases h : k < 8
        · have hcell := HC2.out k h
          have h0 : (0 : Int) ≤ (k : Int) := by omega
          have h8 : (k : Int) < 8 := by omega
          have hwl := wor_lt n k
          go_wp2_with fail
          go_quiet (fail)
          go_wp2_with fail
          go_roundw
          case rel =>
            refine ⟨k + 1, m + nq, by omega, by go_num, ?_, rfl⟩
            rw [cut_letter hwl, glue, txt_take n k h]
          case measure => simp [intOf]; omega
        · obtain rfl : k = 8 := by omega
          go_wp2_with fail
          go_ret
          exact ⟨rfl, ext_drewN hbw m⟩

-- gangwayref15.Near
set_option maxHeartbeats 1000000 in
theorem rNear (a b : Nat) (ha : a < 4294967296) (hb : b < 4294967296) (w : World) :
    Calls Tryd.prog 16 #[.int .u32 a, .int .u32 b] w fun e w' => e = .returned (.int .i64 (cnt (wor a) (wor b) 8 : Nat)) ∧ Below w.heap.size w w' := by
  go_enter Tryd.func16, Tryd.ntmps16
  go_wp2_with fail
  refine (rText a ha _).mono ?_
  rintro e w1 ⟨rfl, hb1⟩
  go_wp2_with fail
  refine (rText b hb _).mono ?_
  rintro e w2 ⟨rfl, hb2⟩
  have hbw := ext_trans hb1 hb2
  have hs : ∀ n k (h : k < 8) hh, (((ByteArray.mk (txt n).toArray)[k]'hh).toNat : Int) = (lt (wor n k) : Nat) := fun n k h hh => by
    have h1 := txt_at n k h
    have h2 : (ByteArray.mk (txt n).toArray)[k]'hh = (txt n)[k]'(by rw [txt_len]; exact h) := rfl
    rw [List.getElem?_eq_getElem (by rw [txt_len]; exact h)] at h1
    rw [h2, Option.some.inj h1, ltB_toNat (wor_lt n k)]
  have HS := Lib.hid hs; clear hs
  have hz : ∀ n, (ByteArray.mk (txt n).toArray).size = 8 := fun n => rfl
  go_wp2_with fail
  go_loopw [7, 8] (fun n i wr => ∃ k m : Nat, wr = w2.drewN m ∧ k ≤ 8 ∧ i = .int .i64 k ∧ n = .int .i64 (cnt (wor a) (wor b) k : Nat)) (fun _ i _ => (8 - intOf i).toNat)
  case atStart => exact ⟨0, 0, rfl, by omega, rfl, rfl⟩
  case round =>
    obtain ⟨k, m, rfl, hk, rfl, rfl⟩ := hrel
    have hc := cnt_le (wor a) (wor b) k
    by_cases h : k < 8
    · have h0 : (0 : Int) ≤ (k : Int) := by omega
      have h8 : (k : Int) < 8 := by omega
      have hx := HS.out a k h
      have hy := HS.out b k h
      by_cases he : lt (wor a k) = lt (wor b k)
      · have HE := Lib.hid he
        have hbb : ((lt (wor a k) : Int) != (lt (wor b k) : Int)) = false := by simp [he]
        clear he
        go_wp2_with fail
        go_quiet (fail)
        go_wp2_with fail
        go_roundw
        case rel =>
          refine ⟨k + 1, m + nq, rfl, by omega, by go_num, ?_⟩
          rw [cnt, if_pos HE.out]; rfl
        case measure => simp [intOf]; omega
      · have HE := Lib.hid he
        have hbb : ((lt (wor a k) : Int) != (lt (wor b k) : Int)) = true := by simp; omega
        clear he
        go_wp2_with fail
        go_quiet (fail)
        go_wp2_with fail
        go_roundw
        case rel =>
          refine ⟨k + 1, m + nq, rfl, by omega, by go_num, ?_⟩
          rw [cnt, if_neg HE.out]; rfl
        case measure => simp [intOf]; omega
    · obtain rfl : k = 8 := by omega
      go_wp2_with fail
      go_ret
      exact ⟨rfl, ext_drewN hbw m⟩

end Go.Proofs.YtmmmehllfokjgaaDoor.Cod
