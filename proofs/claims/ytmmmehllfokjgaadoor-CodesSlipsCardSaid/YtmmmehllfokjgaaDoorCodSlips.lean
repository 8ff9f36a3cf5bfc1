/- The walk of CodesSlips. -/
import Derived.Test.YtmmmehllfokjgaaDoorCodLaws2
import Derived.Test.YtmmmehllfokjgaaDoorKit2
import Derived.OpenShut
namespace Go.Proofs.YtmmmehllfokjgaaDoor.Cod
open Go.RowKit

/-- bytes turned back to a text, whatever the world -/
theorem back8 {W : World} {g cap : Nat} {f : Nat → Nat} (hf : ∀ i, f i < 32) (h : ∀ j, j < 8 → W.cell? ⟨g, j, none⟩ = some (.int .u8 (lt (f j) : Nat))) :
    (convert 37 9 (.slice (some ⟨g, 0, none⟩) 8 cap)).run Tryd.prog W = .ok (.string ⟨(let8 f).toArray⟩) W :=
  run_convert_bytes_back (P := Tryd.prog) W 37 9 5 ⟨g, 0, none⟩ cap (let8 f) Tryd.underlying37 Tryd.underlying5 Tryd.underlying9 (by
    intro j hj
    have hj8 : j < 8 := hj
    rw [add_zero_off, h j hj8]
    have h1 := let8_at f hj8
    rw [List.getElem?_eq_getElem hj] at h1
    rw [Option.some.inj h1, ltB_toNat (hf j)])
theorem txt_byte (n : Nat) {j : Nat} (h : j < 8) : ((ByteArray.mk (txt n).toArray).data.toList.getD j 0).toNat = lt (wor n j) := by
  show (((txt n).toArray).toList.getD j 0).toNat = _
  rw [List.getD_eq_getElem?_getD]
  have := txt_at n j h
  simp only [List.toList_toArray]
  rw [this]
  exact ltB_toNat (wor_lt n j)

-- CodesSlips
set_option maxRecDepth 100000 in
set_option maxHeartbeats 1000000 in
theorem Slips (n : Nat) (hn : n < 4294967296) (x y z : Int) (hx : (Lit.int .i64 x).wf = true) (hy : (Lit.int .i64 y).wf = true) (hz : (Lit.int .i64 z).wf = true) (w : World) (ht : Tab w) :
    Calls Tryd.prog 9 #[.int .u32 (n : Int), .int .i64 x, .int .i64 y, .int .i64 z] w fun e w' => e = .returned (.bool true) ∧ Below w.heap.size w w' := by
  have HT := Lib.hid ht; clear ht
  have HN := Lib.hid hn; clear hn
  obtain ⟨i, hi, hi8⟩ : ∃ i : Nat, x % 8 = i ∧ i < 8 := ⟨(x % 8).toNat, by omega, by omega⟩
  obtain ⟨k, hk, hk8⟩ : ∃ k : Nat, y % 8 = k ∧ k < 8 := ⟨(y % 8).toNat, by omega, by omega⟩
  obtain ⟨v, hv, hv32⟩ : ∃ v : Nat, z % 32 = v ∧ v < 32 := ⟨(z % 32).toNat, by omega, by omega⟩
  have HI := Lib.hid hi; have HK := Lib.hid hk; have HV := Lib.hid hv
  have HXW := Lib.hid hx; have HYW := Lib.hid hy; have HZW := Lib.hid hz
  clear hi hk hv hx hy hz
  go_enter Tryd.func9, Tryd.ntmps9
  go_wp2_with fail
  refine (awake _ HT.out).mono ?_
  rintro e w1 ⟨rfl, hb1⟩
  have HT1 := Lib.hid (HT.out.keep hb1)
  go_wp2_with fail
  refine (Text n HN.out _ HT1.out).mono ?_
  rintro e w2 ⟨rfl, hb2⟩
  have HT2 := Lib.hid (HT1.out.keep hb2)
  have hsz : (ByteArray.mk (txt n).toArray).size = 8 := rfl
  go_wp2_with fail
  refine (Pick_at x 8 i HI.out (bounds_i64 HXW.out).1 (bounds_i64 HXW.out).2 (by omega) (by omega) _).mono ?_
  rintro e w3 ⟨rfl, rfl⟩
  go_wp2_with fail
  refine (Pick_at y 8 k HK.out (bounds_i64 HYW.out).1 (bounds_i64 HYW.out).2 (by omega) (by omega) _).mono ?_
  rintro e w3 ⟨rfl, rfl⟩
  go_wp2_with fail
  refine upon_bytes Tryd.underlying9 Tryd.underlying37 Tryd.underlying5 ?_
  rw [hsz]
  intro cap w3 hcap hb3 hlt3 hcell hmark
  have hc3 : ∀ j, j < 8 → w3.cell? ⟨w2.heap.size, j, none⟩ = some (.int .u8 (lt (wor n j) : Nat)) := fun j hj => by rw [hcell j hj, txt_byte n hj]
  have hci := hc3 i hi8
  have hmi := hmark i hi8
  have hi0 : (0 : Int) ≤ (i : Int) := by omega
  have hi8' : (i : Int) < 8 := by omega
  have hk0 : (0 : Int) ≤ (k : Int) := by omega
  have hk8' : (k : Int) < 8 := by omega
  have hv0 : (0 : Int) ≤ (v : Int) := by omega
  have hv8' : (v : Int) < 32 := by omega
  have h5 : ∀ hh, (((ByteArray.mk #[50, 51, 52, 53, 54, 55, 56, 57, 65, 66, 67, 68, 69, 70, 71, 72, 74, 75, 76, 77, 78, 80, 81, 82, 83, 84, 85, 86, 87, 88, 89, 90])[v]'hh).toNat : Int) = (lt v : Nat) := fun hh => by rw [lt_get v hh]
  have HC3 := Lib.hid hc3
  clear hc3 hcell hmark
  go_wp2_with fail
  refine (Pick_at z 32 v HV.out (bounds_i64 HZW.out).1 (bounds_i64 HZW.out).2 (by omega) (by omega) _).mono ?_
  rintro e w4 ⟨rfl, rfl⟩
  have hpl := putAt_lt (i := i) (wor_lt n) hv32
  have hcv : (convert 37 9 (.slice (some ⟨w2.heap.size, 0, none⟩) 8 cap)).run Tryd.prog (w3.setCell ⟨w2.heap.size, i, none⟩ (.int .u8 (lt v : Nat))) = .ok (.string ⟨(let8 (putAt (wor n) i v)).toArray⟩) (w3.setCell ⟨w2.heap.size, i, none⟩ (.int .u8 (lt v : Nat))) := by
    refine back8 hpl (fun j hj => ?_)
    rw [cell_put HC3.out hi8 hj]
    unfold putAt
    split <;> rfl
  have hbw : Below w.heap.size w (w3.setCell ⟨w2.heap.size, i, none⟩ (.int .u8 (lt v : Nat))) := ext_setCell (ext_trans (ext_trans hb1 hb2) hb3) (Nat.le_trans hb1.size hb2.size) _
  have HT4 := Lib.hid (HT.out.keep hbw)
  clear hpl HC3
  rcases slip HN.out hi8 hv32 with ⟨hs, ha⟩ | ⟨hs, p, ha⟩
  · rw [hs] at hcv ha
    have HA := Lib.hid ha; clear ha hs
    go_wp2_with fail
    refine (Parse_at _ n 0 0 HA.out _ HT4.out).mono ?_
    rintro e w4 ⟨rfl, rfl⟩
    go_wp2_with fail
    refine upon_bytes Tryd.underlying9 Tryd.underlying37 Tryd.underlying5 ?_
    rw [hsz]
    intro cap2 w5 hcap2 hb5 hlt5 hcell hmark
    have hgb : w.heap.size ≤ (w3.setCell ⟨w2.heap.size, i, none⟩ (.int .u8 (lt v : Nat))).heap.size := hbw.size
    have hbx := ext_trans hbw hb5
    generalize hg : (w3.setCell ⟨w2.heap.size, i, none⟩ (.int .u8 (lt v : Nat))).heap.size = g at *
    have hc5 : ∀ j, j < 8 → w5.cell? ⟨g, j, none⟩ = some (.int .u8 (lt (wor n j) : Nat)) := fun j hj => by rw [hcell j hj, txt_byte n hj]
    have e1 := hc5 i hi8
    have e2 := hc5 k hk8
    have e3 := hmark i hi8
    have e4 := hmark k hk8
    have HC5 := Lib.hid hc5
    clear hc5 hcell hmark hg hci hmi hcv
    obtain ⟨u1, f1⟩ := cell?_setCell_some (w := w5) (p := ⟨g, i, none⟩) (x := .int .u8 (lt (wor n k) : Nat)) (q := ⟨g, k, none⟩) (v := .int .u8 (lt (wor n k) : Nat)) e2
    go_wp2_with fail
    go_region
    have hcx : (convert 37 9 (.slice (some ⟨g, 0, none⟩) 8 cap2)).run Tryd.prog ((w5.setCell ⟨g, i, none⟩ (.int .u8 (lt (wor n k) : Nat))).setCell ⟨g, k, none⟩ (.int .u8 (lt (wor n i) : Nat))).drew = .ok (.string ⟨(let8 (swapAt (wor n) i k)).toArray⟩) ((w5.setCell ⟨g, i, none⟩ (.int .u8 (lt (wor n k) : Nat))).setCell ⟨g, k, none⟩ (.int .u8 (lt (wor n i) : Nat))).drew := by
      refine back8 (swapAt_lt (wor_lt n)) (fun j hj => ?_)
      have h1 := cell_put (c := fun j => if j = i then .int .u8 (lt (wor n k) : Nat) else .int .u8 (lt (wor n j) : Nat)) (fun j hj => cell_put HC5.out hi8 hj (.int .u8 (lt (wor n k) : Nat))) hk8 hj (.int .u8 (lt (wor n i) : Nat))
      refine Eq.trans h1 ?_
      unfold swapAt
      by_cases q1 : j = k
      · simp only [if_pos q1]
      · simp only [if_neg q1]
        by_cases q2 : j = i
        · simp only [if_pos q2]
        · simp only [if_neg q2]
    have hby : Below w.heap.size w ((w5.setCell ⟨g, i, none⟩ (.int .u8 (lt (wor n k) : Nat))).setCell ⟨g, k, none⟩ (.int .u8 (lt (wor n i) : Nat))).drew := ext_drew (ext_setCell (ext_setCell hbx hgb _) hgb _)
    have HT6 := Lib.hid (HT.out.keep hby)
    clear e1 e2 e3 e4 f1
    rcases exchange HN.out hi8 hk8 with ⟨hs, ha⟩ | ⟨hs, p2, ha⟩
    · rw [hs] at hcx ha
      have HA2 := Lib.hid ha; clear ha hs
      go_wp2_with fail
      refine (Parse_at _ n 0 0 HA2.out _ HT6.out).mono ?_
      rintro e w6 ⟨rfl, rfl⟩
      go_wp2_with fail
      go_ret
      exact ⟨rfl, hby⟩
    · obtain ⟨L2, hL2⟩ : ∃ L, let8 (swapAt (wor n) i k) = L := ⟨_, rfl⟩
      rw [hL2] at hcx ha hs
      have hsc : (L2 == txt n) = false := by simpa using hs
      have HA2 := Lib.hid ha; clear ha hL2 hs
      go_wp2_with fail
      refine (Parse_at _ 0 p2 150 HA2.out _ HT6.out).mono ?_
      rintro e w6 ⟨rfl, rfl⟩
      go_wp2_with fail
      go_ret
      exact ⟨rfl, hby⟩
  · obtain ⟨L, hL⟩ : ∃ L, let8 (putAt (wor n) i v) = L := ⟨_, rfl⟩
    rw [hL] at hcv ha hs
    have hsb : (L == txt n) = false := by simpa using hs
    have HA := Lib.hid ha; clear ha hL hs
    go_wp2_with fail
    refine (Parse_at _ 0 p 150 HA.out _ HT4.out).mono ?_
    rintro e w4 ⟨rfl, rfl⟩
    go_wp2_with fail
    refine upon_bytes Tryd.underlying9 Tryd.underlying37 Tryd.underlying5 ?_
    rw [hsz]
    intro cap2 w5 hcap2 hb5 hlt5 hcell hmark
    have hgb : w.heap.size ≤ (w3.setCell ⟨w2.heap.size, i, none⟩ (.int .u8 (lt v : Nat))).heap.size := hbw.size
    have hbx := ext_trans hbw hb5
    generalize hg : (w3.setCell ⟨w2.heap.size, i, none⟩ (.int .u8 (lt v : Nat))).heap.size = g at *
    have hc5 : ∀ j, j < 8 → w5.cell? ⟨g, j, none⟩ = some (.int .u8 (lt (wor n j) : Nat)) := fun j hj => by rw [hcell j hj, txt_byte n hj]
    have e1 := hc5 i hi8
    have e2 := hc5 k hk8
    have e3 := hmark i hi8
    have e4 := hmark k hk8
    have HC5 := Lib.hid hc5
    clear hc5 hcell hmark hg hci hmi hcv
    obtain ⟨u1, f1⟩ := cell?_setCell_some (w := w5) (p := ⟨g, i, none⟩) (x := .int .u8 (lt (wor n k) : Nat)) (q := ⟨g, k, none⟩) (v := .int .u8 (lt (wor n k) : Nat)) e2
    go_wp2_with fail
    go_region
    have hcx : (convert 37 9 (.slice (some ⟨g, 0, none⟩) 8 cap2)).run Tryd.prog ((w5.setCell ⟨g, i, none⟩ (.int .u8 (lt (wor n k) : Nat))).setCell ⟨g, k, none⟩ (.int .u8 (lt (wor n i) : Nat))).drew = .ok (.string ⟨(let8 (swapAt (wor n) i k)).toArray⟩) ((w5.setCell ⟨g, i, none⟩ (.int .u8 (lt (wor n k) : Nat))).setCell ⟨g, k, none⟩ (.int .u8 (lt (wor n i) : Nat))).drew := by
      refine back8 (swapAt_lt (wor_lt n)) (fun j hj => ?_)
      have h1 := cell_put (c := fun j => if j = i then .int .u8 (lt (wor n k) : Nat) else .int .u8 (lt (wor n j) : Nat)) (fun j hj => cell_put HC5.out hi8 hj (.int .u8 (lt (wor n k) : Nat))) hk8 hj (.int .u8 (lt (wor n i) : Nat))
      refine Eq.trans h1 ?_
      unfold swapAt
      by_cases q1 : j = k
      · simp only [if_pos q1]
      · simp only [if_neg q1]
        by_cases q2 : j = i
        · simp only [if_pos q2]
        · simp only [if_neg q2]
    have hby : Below w.heap.size w ((w5.setCell ⟨g, i, none⟩ (.int .u8 (lt (wor n k) : Nat))).setCell ⟨g, k, none⟩ (.int .u8 (lt (wor n i) : Nat))).drew := ext_drew (ext_setCell (ext_setCell hbx hgb _) hgb _)
    have HT6 := Lib.hid (HT.out.keep hby)
    clear e1 e2 e3 e4 f1
    rcases exchange HN.out hi8 hk8 with ⟨hs, ha⟩ | ⟨hs, p2, ha⟩
    · rw [hs] at hcx ha
      have HA2 := Lib.hid ha; clear ha hs
      go_wp2_with fail
      refine (Parse_at _ n 0 0 HA2.out _ HT6.out).mono ?_
      rintro e w6 ⟨rfl, rfl⟩
      go_wp2_with fail
      go_ret
      exact ⟨rfl, hby⟩
    · obtain ⟨L2, hL2⟩ : ∃ L, let8 (swapAt (wor n) i k) = L := ⟨_, rfl⟩
      rw [hL2] at hcx ha hs
      have hsc : (L2 == txt n) = false := by simpa using hs
      have HA2 := Lib.hid ha; clear ha hL2 hs
      go_wp2_with fail
      refine (Parse_at _ 0 p2 150 HA2.out _ HT6.out).mono ?_
      rintro e w6 ⟨rfl, rfl⟩
      go_wp2_with fail
      go_ret
      exact ⟨rfl, hby⟩

end Go.Proofs.YtmmmehllfokjgaaDoor.Cod
