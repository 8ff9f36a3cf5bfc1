/- Packed: Region5. -/
import Derived.Test.YtkmpchffflemcaaGreatDoorPk1
import Derived.Test.YtkmpchffflemcaaGreatDoorPk3
import Derived.StillTailTactics
set_option linter.unusedVariables false
set_option linter.unusedSimpArgs false
/- Layer 7: region.New. -/
section
set_option linter.unusedVariables false
set_option linter.unusedSimpArgs false
namespace Go.Proofs.YtkmpchffflemcaaGreatDoor.En
open Go.RowKit

def RnOut (p : Nat) (g : Rg) (size : Nat) (w : World) (e : Ending) (w' : World) : Prop := ∃ r, e = .returned (.tuple #[.pointer (some ⟨r, 0, none⟩), .int .i64 0]) ∧ w.heap.size ≤ r ∧ RgAt w' r p g size ∧ Below w.heap.size w w'
set_option maxRecDepth 100000 in
set_option maxHeartbeats 4000000 in
theorem RNew_in {S : Nat → Prop} {w : World} {p : Nat} {g : Rg} {d : Dev} (hD : DvIn p d S w) (h1 : 1 ≤ g.count) (h2 : g.from_ + g.count ≤ d.dk.dur.length) :
    Calls Tryz.prog 34 #[.pointer (some ⟨p, 0, none⟩), .agg #[.int .i64 g.from_, .int .i64 g.count]] w (RnOut p g d.dk.size w) := by
  have hok : d.dk.Ok := by obtain ⟨kp, SK, h1⟩ := hD; obtain ⟨q, h2⟩ := h1.disk; exact h2.ok
  have hsz := hok.size
  have hsm := hok.some
  have HSC := Lib.hid fun (W : World) (hW : Below w.heap.size w W) => PSectors_in ((DvIn_loc p d).below hD hW)
  have HSI := Lib.hid fun (W : World) (hW : Below w.heap.size w W) => PSize_in ((DvIn_loc p d).below hD hW)
  obtain ⟨fr, hfr⟩ : ∃ fr, g.from_ = fr := ⟨_, rfl⟩
  obtain ⟨ct, hct⟩ : ∃ ct, g.count = ct := ⟨_, rfl⟩
  obtain ⟨n, hn⟩ : ∃ n, d.dk.dur.length = n := ⟨_, rfl⟩
  obtain ⟨size, hsize⟩ : ∃ size, d.dk.size = size := ⟨_, rfl⟩
  rw [hfr, hct, hn] at h2
  rw [hct] at h1
  rw [hn] at HSC hsm
  rw [hsize] at HSI hsz ⊢
  rw [hfr, hct]
  obtain ⟨bx, hbx⟩ : ∃ bx, w.heap.size = bx := ⟨_, rfl⟩
  obtain ⟨w1, hw1⟩ : ∃ w1, w.alloc (.cells #[.int .i64 fr, .int .i64 ct] 95) = w1 := ⟨_, rfl⟩
  have hb1 : Below w.heap.size w w1 := by rw [← hw1]; exact ext_alloc (Below.refl _ _) _
  have ha1 : Arr w1 bx 95 #[.int .i64 fr, .int .i64 ct] := by rw [← hw1, ← hbx]; exact Arr.fresh w _ _
  have x0 : w1.cell? ⟨bx, 0, none⟩ = some (.int .i64 fr) := ha1.cell 0
  have x1 : w1.cell? ⟨bx, 1, none⟩ = some (.int .i64 ct) := ha1.cell 1
  have hq : ((n : Int) == 0) = false := by rw [beq_eq_false_iff_ne]; omega
  have hq2 : (n == 0) = false := by rw [beq_eq_false_iff_ne]; omega
  have e1 : ¬ (fr : Int) < 0 := by omega
  have e2 : ¬ (ct : Int) < 1 := by omega
  have e2a : decide ((ct : Int) < 1) = false := by simp; omega
  have e2b : ¬ ct = 0 := by omega
  have e2c : decide (ct = 0) = false := by simp; omega
  have e3 : ¬ (n : Int) < (fr : Int) := by omega
  have hnf : (n : Int) - (fr : Int) = ((n - fr : Nat) : Int) := by omega
  have e4 : ¬ ((n - fr : Nat) : Int) < (ct : Int) := by omega
  have e3a : decide ((n : Int) < (fr : Int)) = false := by simp; omega
  have e3c : decide (n < fr) = false := by simp; omega
  have e4a : decide (((n - fr : Nat) : Int) < (ct : Int)) = false := by rw [decide_eq_false_iff_not]; exact e4
  have e4c : decide (n - fr < ct) = false := by rw [decide_eq_false_iff_not]; omega
  have e5 : (n : Int) ≤ 65536 := by omega
  have hwr : IntKind.i64.wrap ((n - fr : Nat) : Int) = ((n - fr : Nat) : Int) := IntWalk.i64_in _ (by omega)
  have HB1 := Lib.hid hb1; have HW1 := Lib.hid hw1; have HBX := Lib.hid hbx; have HFR := Lib.hid hfr; have HCT := Lib.hid hct; have HSZ := Lib.hid hsz; have HSM := Lib.hid hsm; have H1 := Lib.hid h1; have H2 := Lib.hid h2
  clear hD hok hsz hsm h1 h2 hfr hct hn hsize hbx hw1 hb1 ha1
  go_enter Tryz.func34, Tryz.ntmps34
  go_wp2_with fail
  rw [HW1.out, HBX.out]
  refine (HSC.out w1 HB1.out).mono ?_
  rintro e w2 ⟨rfl, hw2⟩
  rw [hw2]
  clear hw2 w2
  go_wp2_with fail
  refine wp_region_held_drew (S := (fun w' => w'.cell? ⟨bx, 0, none⟩ = some (.int .i64 fr) ∧ w'.cell? ⟨bx, 1, none⟩ = some (.int .i64 ct))) (by kernel_rfl) (by exact ⟨x0, x1⟩) (fun hHeld => ?_)
  refine tky 0 (some 11) hHeld ?_
  try simp only [Act.put, List.setIfInBounds_toArray, List.set_cons_zero, List.set_cons_succ]
  refine tky 1 (some 12) hHeld ?_
  try simp only [Act.put, List.setIfInBounds_toArray, List.set_cons_zero, List.set_cons_succ]
  refine tky 2 (some 13) hHeld ?_
  try simp only [Act.put, List.setIfInBounds_toArray, List.set_cons_zero, List.set_cons_succ]
  refine tky 3 (some 14) hHeld ?_
  try simp only [Act.put, List.setIfInBounds_toArray, List.set_cons_zero, List.set_cons_succ]
  refine tky 4 (some 15) hHeld ?_
  try simp only [Act.put, List.setIfInBounds_toArray, List.set_cons_zero, List.set_cons_succ]
  refine tky 5 (some 16) hHeld ?_
  try simp only [Act.put, List.setIfInBounds_toArray, List.set_cons_zero, List.set_cons_succ]
  refine tky 6 (some 17) hHeld ?_
  try simp only [Act.put, List.setIfInBounds_toArray, List.set_cons_zero, List.set_cons_succ]
  refine tky 7 (some 18) hHeld ?_
  try simp only [Act.put, List.setIfInBounds_toArray, List.set_cons_zero, List.set_cons_succ]
  refine tky 8 (some 19) hHeld ?_
  try simp only [Act.put, List.setIfInBounds_toArray, List.set_cons_zero, List.set_cons_succ]
  refine tky 9 (some 20) hHeld ?_
  try simp only [Act.put, List.setIfInBounds_toArray, List.set_cons_zero, List.set_cons_succ]
  refine tky 10 (some 21) hHeld ?_
  try simp only [Act.put, List.setIfInBounds_toArray, List.set_cons_zero, List.set_cons_succ]
  refine tky 11 (some 22) hHeld ?_
  try simp only [Act.put, List.setIfInBounds_toArray, List.set_cons_zero, List.set_cons_succ]
  refine wpAnyH_ready (rs := [12]) (by kernel_rfl) (by simp) ?_
  refine AllReadyH.cons rfl (fun K hK => ?_) AllReadyH.nil
  go_simp
  refine (HSC.out w1.drew (ext_drew HB1.out)).mono ?_
  rintro e w2 ⟨rfl, hw2⟩
  rw [hw2]
  clear hw2 w2
  go_wp2_with fail
  refine hK.out _ _ (by exact ⟨x0, x1⟩) (fun hHeld12 => ?_)
  clear hK K
  try simp only [Act.put, List.setIfInBounds_toArray, List.set_cons_zero, List.set_cons_succ]
  refine tky 13 (some 24) hHeld12 ?_
  try simp only [Act.put, List.setIfInBounds_toArray, List.set_cons_zero, List.set_cons_succ]
  refine tky 14 (some 25) hHeld12 ?_
  try simp only [Act.put, List.setIfInBounds_toArray, List.set_cons_zero, List.set_cons_succ]
  refine tky 15 (some 26) hHeld12 ?_
  try simp only [Act.put, List.setIfInBounds_toArray, List.set_cons_zero, List.set_cons_succ]
  refine tky 16 (some 27) hHeld12 ?_
  try simp only [Act.put, List.setIfInBounds_toArray, List.set_cons_zero, List.set_cons_succ]
  refine tky 17 (some 28) hHeld12 ?_
  try simp only [Act.put, List.setIfInBounds_toArray, List.set_cons_zero, List.set_cons_succ]
  refine tky 18 (some 29) hHeld12 ?_
  try simp only [Act.put, List.setIfInBounds_toArray, List.set_cons_zero, List.set_cons_succ]
  refine tky 20 (some 31) hHeld12 ?_
  try simp only [Act.put, List.setIfInBounds_toArray, List.set_cons_zero, List.set_cons_succ]
  refine tky 21 (some 32) hHeld12 ?_
  try simp only [Act.put, List.setIfInBounds_toArray, List.set_cons_zero, List.set_cons_succ]
  refine wpAnyH_ready (rs := [19]) (by kernel_rfl) (by simp) ?_
  refine AllReadyH.cons rfl (fun K hK => ?_) AllReadyH.nil
  go_simp
  refine (HSC.out w1.drew (ext_drew HB1.out)).mono ?_
  rintro e w2 ⟨rfl, hw2⟩
  rw [hw2]
  clear hw2 w2
  go_wp2_with fail
  refine hK.out _ _ (by exact ⟨x0, x1⟩) (fun hHeld19 => ?_)
  clear hK K
  try simp only [Act.put, List.setIfInBounds_toArray, List.set_cons_zero, List.set_cons_succ]
  refine tky 22 (some 33) hHeld19 ?_
  try simp only [Act.put, List.setIfInBounds_toArray, List.set_cons_zero, List.set_cons_succ]
  refine tky 23 (some 34) hHeld19 ?_
  try simp only [Act.put, List.setIfInBounds_toArray, List.set_cons_zero, List.set_cons_succ]
  refine tky 24 (some 35) hHeld19 ?_
  try simp only [Act.put, List.setIfInBounds_toArray, List.set_cons_zero, List.set_cons_succ]
  refine tky 25 (some 10) hHeld19 ?_
  try simp only [Act.put, List.setIfInBounds_toArray, List.set_cons_zero, List.set_cons_succ]
  refine wpAnyH_done (by kernel_rfl) ?_ _
  go_wp2_with fail
  refine wp_region_held_drew (S := (fun w' => w'.cell? ⟨bx, 0, none⟩ = some (.int .i64 fr) ∧ w'.cell? ⟨bx, 1, none⟩ = some (.int .i64 ct))) (by kernel_rfl) (by exact ⟨x0, x1⟩) (fun hHeld => ?_)
  refine tky 0 (some 36) hHeld ?_
  try simp only [Act.put, List.setIfInBounds_toArray, List.set_cons_zero, List.set_cons_succ]
  refine tky 1 (some 37) hHeld ?_
  try simp only [Act.put, List.setIfInBounds_toArray, List.set_cons_zero, List.set_cons_succ]
  refine tky 2 (some 38) hHeld ?_
  try simp only [Act.put, List.setIfInBounds_toArray, List.set_cons_zero, List.set_cons_succ]
  refine wpAnyH_ready (rs := [3]) (by kernel_rfl) (by simp) ?_
  refine AllReadyH.cons rfl (fun K hK => ?_) AllReadyH.nil
  go_simp
  refine (HSI.out w1.drew.drew (ext_drew (ext_drew HB1.out))).mono ?_
  rintro e w2 ⟨rfl, hw2⟩
  rw [hw2]
  clear hw2 w2
  go_wp2_with fail
  refine hK.out _ _ (by exact ⟨x0, x1⟩) (fun hHeld3 => ?_)
  clear hK K
  try simp only [Act.put, List.setIfInBounds_toArray, List.set_cons_zero, List.set_cons_succ]
  refine tky 4 (some 40) hHeld3 ?_
  try simp only [Act.put, List.setIfInBounds_toArray, List.set_cons_zero, List.set_cons_succ]
  refine tky 5 (some 41) hHeld3 ?_
  try simp only [Act.put, List.setIfInBounds_toArray, List.set_cons_zero, List.set_cons_succ]
  refine wpAnyH_ready (rs := [6]) (by kernel_rfl) (by simp) ?_
  refine AllReadyH.cons rfl (fun K hK => ?_) AllReadyH.nil
  go_simp
  obtain ⟨w9, hw9⟩ : ∃ w9, (w1.alloc (.cells #[.pointer (some ⟨p, 0, none⟩), .int .i64 fr, .int .i64 ct, .int .i64 size] 176)).drew.drew = w9 := ⟨_, rfl⟩
  have hb9 : Below w1.heap.size w1 w9 := by rw [← hw9]; exact ext_drew (ext_drew (ext_alloc (Below.refl _ _) _))
  obtain ⟨rb, hrb⟩ : ∃ rb, w1.heap.size = rb := ⟨_, rfl⟩
  have ha9 : Arr w9 rb 176 #[.pointer (some ⟨p, 0, none⟩), .int .i64 fr, .int .i64 ct, .int .i64 size] := by rw [← hw9, ← hrb]; exact Arr.fresh w1 _ _
  rw [hw9, hrb]
  have y0 : w9.cell? ⟨bx, 0, none⟩ = some (.int .i64 fr) := (hb9.cell (p := ⟨bx, 0, none⟩) (World.block_lt_of_cell? _ _ x0)).trans x0
  have y1 : w9.cell? ⟨bx, 1, none⟩ = some (.int .i64 ct) := (hb9.cell (p := ⟨bx, 1, none⟩) (World.block_lt_of_cell? _ _ x1)).trans x1
  have HB9 := Lib.hid hb9; have HA9 := Lib.hid ha9; have HRB := Lib.hid hrb
  clear hw9 hb9 ha9 hrb
  refine hK.out _ _ (by exact ⟨y0, y1⟩) (fun hHeld6 => ?_)
  clear hK K
  try simp only [Act.put, List.setIfInBounds_toArray, List.set_cons_zero, List.set_cons_succ]
  refine tky 7 (some 4) hHeld6 ?_
  try simp only [Act.put, List.setIfInBounds_toArray, List.set_cons_zero, List.set_cons_succ]
  refine tky 8 (some 5) hHeld6 ?_
  try simp only [Act.put, List.setIfInBounds_toArray, List.set_cons_zero, List.set_cons_succ]
  refine wpAnyH_done (by kernel_rfl) ?_ _
  go_wp2_with fail
  go_ret2
  refine ⟨rb, rfl, by rw [← HRB.out]; exact HB1.out.size, ⟨by rw [HFR.out, HCT.out]; exact HA9.out, HSZ.out, by rw [HCT.out]; exact H1.out, by rw [HFR.out, HCT.out]; have h1 := H2.out; have h2 := HSM.out; omega⟩, ext_trans HB1.out HB9.out⟩

end Go.Proofs.YtkmpchffflemcaaGreatDoor.En
end
