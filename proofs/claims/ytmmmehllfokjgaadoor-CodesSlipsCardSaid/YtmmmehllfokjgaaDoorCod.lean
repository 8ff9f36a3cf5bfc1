/- The contracts of the codes' functions: what each returns; the world gets at most new blocks. 'Tab w': the table of the doubles lies in block 0. -/
import Derived.Test.YtmmmehllfokjgaaDoorProg
import Derived.Test.YtmmmehllfokjgaaDoorCodPlain
namespace Go.Proofs.YtmmmehllfokjgaaDoor.Cod
open Go.RowKit

/-- the package's table of the doubles, as it lies when the call begins -/
def Tab (w : World) : Prop := ∀ i, i < 32 → w.cell? ⟨0, i, none⟩ = some (.int .u8 (dbl i : Nat))
theorem Tab.pos {w : World} (h : Tab w) : 0 < w.heap.size := by
  have h0 := h 0 (by omega)
  rcases Nat.lt_or_ge 0 w.heap.size with h1 | h1
  · exact h1
  · simp only [World.cell?] at h0
    rw [Array.getElem?_eq_none h1] at h0; simp at h0
theorem Tab.keep {w w' : World} (h : Tab w) (hb : Below w.heap.size w w') : Tab w' := fun i hi => (hb.cell (p := ⟨0, i, none⟩) h.pos).trans (h i hi)

-- codes.doubled
set_option maxHeartbeats 400000 in
theorem doubled (d : Nat) (hd : d < 32) (w : World) (ht : Tab w) :
    Calls Tryd.prog 21 #[.int .u8 (d : Int)] w fun e w' => e = .returned (.int .u8 (dbl d : Nat)) ∧ w = w' := by
  have h0 := ht d hd
  have h1 : (d : Int) < 32 := by omega
  have h2 : (0 : Int) ≤ (d : Int) := by omega
  clear ht
  go_enter Tryd.func21, Tryd.ntmps21
  go_wp2
  go_ret
  exact ⟨rfl, rfl⟩

def arrL (n k : Nat) : Array Value := #[.int .u8 ((if 0 < k then lt (dig n 0) else 0 : Nat) : Int), .int .u8 ((if 1 < k then lt (dig n 1) else 0 : Nat) : Int), .int .u8 ((if 2 < k then lt (dig n 2) else 0 : Nat) : Int), .int .u8 ((if 3 < k then lt (dig n 3) else 0 : Nat) : Int), .int .u8 ((if 4 < k then lt (dig n 4) else 0 : Nat) : Int), .int .u8 ((if 5 < k then lt (dig n 5) else 0 : Nat) : Int), .int .u8 ((if 6 < k then lt (dig n 6) else 0 : Nat) : Int), .int .u8 0]
theorem arrL_at (n k : Nat) (h : k < 7) : (arrL n k)[k]? = some (.int .u8 0) := by
  obtain rfl | rfl | rfl | rfl | rfl | rfl | rfl : k = 0 ∨ k = 1 ∨ k = 2 ∨ k = 3 ∨ k = 4 ∨ k = 5 ∨ k = 6 := by omega
  all_goals rfl
theorem arrL_set (n k : Nat) (h : k < 7) : (arrL n k).setIfInBounds k (.int .u8 (lt (dig n k) : Nat)) = arrL n (k + 1) := by
  obtain rfl | rfl | rfl | rfl | rfl | rfl | rfl : k = 0 ∨ k = 1 ∨ k = 2 ∨ k = 3 ∨ k = 4 ∨ k = 5 ∨ k = 6 := by omega
  all_goals rfl
theorem lt_get (d : Nat) (h : d < (ByteArray.mk #[50, 51, 52, 53, 54, 55, 56, 57, 65, 66, 67, 68, 69, 70, 71, 72, 74, 75, 76, 77, 78, 80, 81, 82, 83, 84, 85, 86, 87, 88, 89, 90]).size) : ((ByteArray.mk #[50, 51, 52, 53, 54, 55, 56, 57, 65, 66, 67, 68, 69, 70, 71, 72, 74, 75, 76, 77, 78, 80, 81, 82, 83, 84, 85, 86, 87, 88, 89, 90])[d]'h).toNat = lt d := by
  have hh : ∀ d : Fin 32, ((ByteArray.mk #[50, 51, 52, 53, 54, 55, 56, 57, 65, 66, 67, 68, 69, 70, 71, 72, 74, 75, 76, 77, 78, 80, 81, 82, 83, 84, 85, 86, 87, 88, 89, 90])[d.val]'d.isLt).toNat = lt d.val := by decide
  exact hh ⟨d, h⟩

def codeV (n : Nat) : Value := .agg #[.int .u8 (lt (dig n 0) : Nat), .int .u8 (lt (dig n 1) : Nat), .int .u8 (lt (dig n 2) : Nat), .int .u8 (lt (dig n 3) : Nat), .int .u8 (lt (dig n 4) : Nat), .int .u8 (lt (dig n 5) : Nat), .int .u8 (lt (dig n 6) : Nat), .int .u8 (lt (chk (dig n) 7) : Nat)]

-- codes.code
set_option maxHeartbeats 1000000 in
theorem code (n : Nat) (hn : n < 4294967296) (w : World) (ht : Tab w) :
    Calls Tryd.prog 18 #[.int .u32 n] w fun e w' => e = .returned (codeV n) ∧ Below w.heap.size w w' := by
  have HT := Lib.hid ht; clear ht
  go_enter Tryd.func18, Tryd.ntmps18
  go_wp2_with fail
  go_loopw [4, 7] (fun s i wr => ∃ k : Nat, k ≤ 7 ∧ i = .int .i64 k ∧ s = .int .u8 (chk (dig n) k : Nat) ∧ Arr wr w.heap.size 39 (Array.replicate 8 (.int .u8 0)) ∧ Arr wr (w.heap.size + 1) 39 (arrL n k) ∧ Below w.heap.size w wr) (fun _ i _ => (7 - intOf i).toNat)
  case atStart =>
    refine ⟨0, by omega, rfl, rfl, ?_, ?_, ?_⟩
    · exact (Arr.fresh _ _ _).alloc _
    · exact Arr.new (by simp)
    · repeat (first | with_reducible exact Below.refl _ _ | with_reducible refine ext_alloc ?_ _ | with_reducible refine ext_drew ?_ | with_reducible refine ext_drewN ?_ _ | (refine ext_setCell ?_ (by simp at *; omega) _) | with_reducible refine ext_trans ?_ (by assumption))
  case round =>
    obtain ⟨k, hk, rfl, rfl, hA, hB, hb⟩ := hrel
    have hT := HT.out.keep hb
    have hd := dig_lt n k
    have hs := chk_lt (dig_lt n) k
    by_cases h : k < 7
    · have hw := cut_dig n k hn
      have hx := xor8 (chk (dig n) k) (dig n k) hs hd
      have hxl := xor_lt hs hd
      generalize hq : dig n k = q at *
      have hl : ((q : Nat) : Int) < 32 := by omega
      have hcell : wr.cell? ⟨w.heap.size + 1, k, none⟩ = some (.int .u8 0) := (hB.cell k).trans (arrL_at n k h)
      have hmark := hB.mark k
      have HA := Lib.hid hA; have HB := Lib.hid hB; have HTT := Lib.hid hT; have HQ := Lib.hid hq
      clear hA hB hT hq
      go_wp2_with fail
      refine (doubled (chk (dig n) k ^^^ q) hxl _ ?_).mono ?_
      · exact HT.out.keep (ext_setCell hb (by simp) _)
      rintro e w2 ⟨rfl, rfl⟩
      go_wp2_with fail
      go_roundw
      case rel =>
        refine ⟨k + 1, by omega, by go_num, ?_, HA.out.other (by simp) _, ?_, ext_setCell hb (by simp) _⟩
        · rw [← HQ.out]; rfl
        · have h5 := HB.out.put k (.int .u8 (lt (dig n k) : Nat))
          rw [arrL_set n k h] at h5
          rw [lt_get, ← HQ.out]
          exact h5
      case measure => simp [intOf]; omega
    · obtain rfl : k = 7 := by omega
      have hl : ((chk (dig n) 7 : Nat) : Int) < 32 := by omega
      have a0 : wr.cell? ⟨w.heap.size, 0, none⟩ = some (.int .u8 0) := hA.cell 0
      have a1 : wr.cell? ⟨w.heap.size, 1, none⟩ = some (.int .u8 0) := hA.cell 1
      have a2 : wr.cell? ⟨w.heap.size, 2, none⟩ = some (.int .u8 0) := hA.cell 2
      have a3 : wr.cell? ⟨w.heap.size, 3, none⟩ = some (.int .u8 0) := hA.cell 3
      have a4 : wr.cell? ⟨w.heap.size, 4, none⟩ = some (.int .u8 0) := hA.cell 4
      have a5 : wr.cell? ⟨w.heap.size, 5, none⟩ = some (.int .u8 0) := hA.cell 5
      have a6 : wr.cell? ⟨w.heap.size, 6, none⟩ = some (.int .u8 0) := hA.cell 6
      have a7 : wr.cell? ⟨w.heap.size, 7, none⟩ = some (.int .u8 0) := hA.cell 7
      have am := hA.mark
      have b0 : wr.cell? ⟨w.heap.size + 1, 0, none⟩ = some (.int .u8 (lt (dig n 0) : Nat)) := hB.cell 0
      have b1 : wr.cell? ⟨w.heap.size + 1, 1, none⟩ = some (.int .u8 (lt (dig n 1) : Nat)) := hB.cell 1
      have b2 : wr.cell? ⟨w.heap.size + 1, 2, none⟩ = some (.int .u8 (lt (dig n 2) : Nat)) := hB.cell 2
      have b3 : wr.cell? ⟨w.heap.size + 1, 3, none⟩ = some (.int .u8 (lt (dig n 3) : Nat)) := hB.cell 3
      have b4 : wr.cell? ⟨w.heap.size + 1, 4, none⟩ = some (.int .u8 (lt (dig n 4) : Nat)) := hB.cell 4
      have b5 : wr.cell? ⟨w.heap.size + 1, 5, none⟩ = some (.int .u8 (lt (dig n 5) : Nat)) := hB.cell 5
      have b6 : wr.cell? ⟨w.heap.size + 1, 6, none⟩ = some (.int .u8 (lt (dig n 6) : Nat)) := hB.cell 6
      have b7 : wr.cell? ⟨w.heap.size + 1, 7, none⟩ = some (.int .u8 0) := hB.cell 7
      have bm := hB.mark
      have HB := Lib.hid hB; have HA := Lib.hid hA; have HTT := Lib.hid hT
      clear hA hB hT
      go_wp2_with fail
      refine bodyPost_ret (v := codeV n) (by simp [results, Tryd.results18, go_sem, a0, a1, a2, a3, a4, a5, a6, a7, codeV, lt_get]) rfl ⟨rfl, ?_⟩
      repeat refine ext_setCell ?_ (by simp) _
      exact hb

-- codes.Text
set_option maxHeartbeats 400000 in
theorem Text (n : Nat) (hn : n < 4294967296) (w : World) (ht : Tab w) :
    Calls Tryd.prog 10 #[.int .u32 n] w fun e w' => e = .returned (.string ⟨(txt n).toArray⟩) ∧ Below w.heap.size w w' := by
  have HT := Lib.hid ht; clear ht
  go_enter Tryd.func10, Tryd.ntmps10
  go_wp2_with fail
  refine (code n hn _ HT.out).mono ?_
  rintro e w1 ⟨rfl, hb⟩
  have hcv := fun W (h : ∀ j (hj : j < (txt n).length), W.cell? ((⟨w1.heap.size, 0, none⟩ : Addr).add j) = some (.int .u8 ((txt n)[j].toNat : Int))) =>
    run_convert_bytes_back (P := Tryd.prog) W 37 9 5 ⟨w1.heap.size, 0, none⟩ 8 (txt n) Tryd.underlying37 Tryd.underlying5 Tryd.underlying9 h
  have hcv2 := hcv (w1.alloc (.cells #[.int .u8 (lt (dig n 0) : Nat), .int .u8 (lt (dig n 1) : Nat), .int .u8 (lt (dig n 2) : Nat), .int .u8 (lt (dig n 3) : Nat), .int .u8 (lt (dig n 4) : Nat), .int .u8 (lt (dig n 5) : Nat), .int .u8 (lt (dig n 6) : Nat), .int .u8 (lt (chk (dig n) 7) : Nat)] 39)) (by
    intro j hj
    have hj8 : j < 8 := hj
    have h0 : (⟨w1.heap.size, 0, none⟩ : Addr).add j = ⟨w1.heap.size, j, none⟩ := by
      unfold Addr.add; split
      · subst_vars; rfl
      · simp
    rw [h0, World.cell?_alloc_new]
    obtain rfl | rfl | rfl | rfl | rfl | rfl | rfl | rfl : j = 0 ∨ j = 1 ∨ j = 2 ∨ j = 3 ∨ j = 4 ∨ j = 5 ∨ j = 6 ∨ j = 7 := by omega
    all_goals simp [txt, ltB_toNat (dig_lt _ _), ltB_toNat (chk_lt (dig_lt n) 7)])
  clear hcv
  rw [show (txt n).length = 8 from rfl] at hcv2
  unfold codeV
  go_wp2_with fail
  go_ret
  refine ⟨rfl, ?_⟩
  repeat (first | with_reducible exact Below.refl _ _ | with_reducible refine ext_alloc ?_ _ | with_reducible refine ext_drew ?_ | with_reducible refine ext_drewN ?_ _ | (refine ext_setCell ?_ (by simp at *; omega) _) | with_reducible refine ext_trans ?_ (by assumption))

end Go.Proofs.YtmmmehllfokjgaaDoor.Cod
