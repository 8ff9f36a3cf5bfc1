/- Packed: Disk5, Disk7, Power, Power2, Power3, Region, Region2, Concat. -/
import Derived.Test.YtbnkanehjnepbaaGreatDoorPk7
import Derived.StillTailTactics
import Derived.Lib.AppendZeros
set_option linter.unusedVariables false
set_option linter.unusedSimpArgs false
/- Layer 5: settle, Sync, Crash. -/
section
set_option linter.unusedVariables false
set_option linter.unusedSimpArgs false
namespace Go.Proofs.YtbnkanehjnepbaaGreatDoor.En
open Go.RowKit
open Go.Proofs.YtbnkanehjnepbaaGreatDoor.Oc (Bs bytesV byteV okA okA_some okA_none ClOut)

theorem clamp_if (s : Nat) (o : Int) : (if (s : Int) < (if o < 0 then 0 else o) then (s : Int) else (if o < 0 then 0 else o)) = ((clamp s o : Nat) : Int) := by
  unfold clamp; split <;> split <;> omega
theorem clamp_le (s : Nat) (o : Int) : clamp s o ≤ s := by unfold clamp; omega
-- disk.Disk.settle with (*gangway/disk.Disk).Sync$1
set_option maxRecDepth 100000 in
set_option maxHeartbeats 4000000 in
theorem settle_sync {S : Nat → Prop} {w : World} {p : Nat} {d : Dk} {q : DkP} (h : DkLies S w p d q) (lb : Array Value) (oi : Nat → Int) (hrow : d.row.length ≤ 1000000)
    (hof : ∀ (W : World) (i : Nat), i < d.row.length → w.heap.size ≤ W.heap.size → (∀ k, k < w.heap.size → (∀ a, a < d.dur.length → k ≠ q.ad a) → W.heap[k]? = w.heap[k]?) → Calls Tryz.prog 226 (#[.int .i64 i] ++ lb) W fun e W' => e = .returned (.int .i64 (oi i)) ∧ Below W.heap.size W W') :
    Calls Tryz.prog 151 #[.pointer (some ⟨p, 0, none⟩), .func (.func 226) #[] lb] w fun e w' => e = .returned (.int .i64 0) ∧ (∃ q', DkLies S w' p (d.settle fun i => clamp d.size (oi i)) q') ∧ Tch S w w' := by
  obtain ⟨A, c, hv⟩ := h.row.any
  have x0 : w.cell? ⟨p, 0, none⟩ = some (.int .i64 d.size) := h.own.cell 0
  have x2 : w.cell? ⟨p, 2, none⟩ = some (.slice A d.row.length c) := by rw [← hv]; exact h.own.cell 2
  have hm : (d.row.length : Int) ≤ 1000000 := by omega
  have HH := Lib.hid h; have HV := Lib.hid hv; have HOF := Lib.hid hof; have HS := Lib.hid h.ok.size.1
  clear h hv hof
  go_enter Tryz.func151, Tryz.ntmps151
  go_wp2_with fail
  refine (there_in p d.size HS.out w x0).mono ?_
  rintro e w1 ⟨rfl, hw⟩
  rw [hw]
  clear hw w1
  go_wp2_with fail
  go_loopw [15] (fun i wr => ∃ j : Nat, j ≤ d.row.length ∧ i = .int .i64 j ∧ DkLies S wr p { d with dur := settleL (fun i => clamp d.size (oi i)) d.dur 0 (d.row.take j) } q ∧ Tch (fun k => ∃ a, a < d.dur.length ∧ k = q.ad a) w wr) (fun i _ => (d.row.length - intOf i).toNat)
  case atStart => exact ⟨0, by omega, rfl, by simpa [settleL] using HH.out, Tch.refl _ _⟩
  case round =>
    obtain ⟨j, hj, rfl, hD, hT⟩ := hrel
    obtain ⟨dur, hdur⟩ : ∃ dur, settleL (fun i => clamp d.size (oi i)) d.dur 0 (d.row.take j) = dur := ⟨_, rfl⟩
    have hdl : dur.length = d.dur.length := by rw [← hdur]; exact settleL_len _ _ _ _
    rw [hdur] at hD
    have HD := Lib.hid hD; have HT := Lib.hid hT; have HDUR := Lib.hid hdur; have HDL := Lib.hid hdl
    clear hD hT hdur hdl
    by_cases hlt : j < d.row.length
    · have hlt' : (j : Int) < (d.row.length : Int) := by omega
      have hj0 : (0 : Int) ≤ (j : Int) := by omega
      obtain ⟨gr, cr, hvr, _⟩ := HD.out.row.form (show 0 < d.row.length by omega)
      have hA : A = some ⟨gr, 0, none⟩ ∧ c = cr := by
        have := HV.out.symm.trans hvr
        injection this with a1 _ a2
        exact ⟨a1, a2⟩
      obtain ⟨rfl, rfl⟩ := hA
      have hrow' := HD.out.row
      rw [show q.rv = _ from hvr] at hrow'
      have HROW := Lib.hid hrow'
      clear hrow' hvr
      obtain ⟨at_, hat⟩ : ∃ at_, (d.row.getD j (0, [])).1 = at_ := ⟨_, rfl⟩
      have hain : at_ < d.dur.length := by
        rw [← hat, ← HDL.out]
        exact (HD.out.ok.waits (d.row.getD j (0, [])) (by rw [List.getD_eq_getElem?_getD, List.getElem?_eq_getElem hlt]; exact List.getElem_mem hlt)).1
      have hrc : rowC { d with dur := dur } q j = [.int .i64 (at_ : Nat), .slice (some ⟨q.wg j, 0, none⟩) d.size (q.wc j)] := by unfold rowC; rw [← hat]
      have HRC := Lib.hid hrc; have HAT := Lib.hid hat
      clear hrc hat
      go_wp2_with (refine wpList_load_elem rfl 326 _ rfl HROW.out (fun _ => rfl) j hlt (by rfl) _ Tryz.underlying326 rfl (by kernel_rfl) ?_; rw [HRC.out])
      obtain ⟨vb, hvb⟩ : ∃ vb, wr.heap.size = vb := ⟨_, rfl⟩
      obtain ⟨w1, hw1⟩ : ∃ w1, wr.alloc (.cells #[.int .i64 (at_ : Nat), .slice (some ⟨q.wg j, 0, none⟩) d.size (q.wc j)] 326) = w1 := ⟨_, rfl⟩
      have hb1 : Below wr.heap.size wr w1 := by rw [← hw1]; exact ext_alloc (Below.refl _ _) _
      have ha1 : Arr w1 vb 326 #[.int .i64 (at_ : Nat), .slice (some ⟨q.wg j, 0, none⟩) d.size (q.wc j)] := by rw [← hw1, ← hvb]; exact Arr.fresh wr _ _
      rw [hw1, hvb]
      have L := DkIn_loc p { d with dur := dur }
      have y0 : w1.drew.cell? ⟨p, 0, none⟩ = some (.int .i64 d.size) := (HD.out.own.keep hb1).cell 0
      have y1 : w1.drew.cell? ⟨p, 1, none⟩ = some (.slice (some ⟨q.gd, 0, none⟩) d.dur.length q.cd) := by have := (HD.out.own.keep hb1).cell 1; rw [HDL.out] at this; exact this
      have y4 : w1.drew.cell? ⟨q.gd, at_, none⟩ = some (.slice (some ⟨q.ad at_, 0, none⟩) d.size (q.cp at_)) := (hb1.cell (p := ⟨q.gd, at_, none⟩) (HD.out.lt _ (HD.out.dur.block q.gd rfl))).trans (row1_cell HD.out.dur (fun _ => rfl) (by rw [HDL.out]; exact hain) rfl)
      have hS1 : w1.drew.cell? ⟨p, 0, none⟩ = some (.int .i64 d.size) ∧ w1.drew.cell? ⟨p, 1, none⟩ = some (.slice (some ⟨q.gd, 0, none⟩) d.dur.length q.cd) ∧ w1.drew.cell? ⟨vb, 0, none⟩ = some (.int .i64 (at_ : Nat)) ∧ w1.drew.cell? ⟨vb, 1, none⟩ = some (.slice (some ⟨q.wg j, 0, none⟩) d.size (q.wc j)) ∧ w1.drew.cell? ⟨q.gd, at_, none⟩ = some (.slice (some ⟨q.ad at_, 0, none⟩) d.size (q.cp at_)) := ⟨y0, y1, ha1.cell 0, ha1.cell 1, y4⟩
      have hat0 : (0 : Int) ≤ (at_ : Int) := by omega
      have hat1 : (at_ : Int) < (d.dur.length : Int) := by omega
      have HS1 := Lib.hid hS1; have HB1 := Lib.hid hb1; have HA1 := Lib.hid ha1; have HVB := Lib.hid hvb; have HAIN := Lib.hid hain
      clear hS1 hb1 ha1 hvb hw1 y0 y1 y4 L hain
      refine wp_region_held_drew (S := (fun w' => w'.cell? ⟨p, 0, none⟩ = some (.int .i64 d.size) ∧ w'.cell? ⟨p, 1, none⟩ = some (.slice (some ⟨q.gd, 0, none⟩) d.dur.length q.cd) ∧ w'.cell? ⟨vb, 0, none⟩ = some (.int .i64 (at_ : Nat)) ∧ w'.cell? ⟨vb, 1, none⟩ = some (.slice (some ⟨q.wg j, 0, none⟩) d.size (q.wc j)) ∧ w'.cell? ⟨q.gd, at_, none⟩ = some (.slice (some ⟨q.ad at_, 0, none⟩) d.size (q.cp at_)))) (by kernel_rfl) (by exact HS1.out) (fun hHeld => ?_)
      refine take_yes (i := 0) (oi := ?o1) (d := (some 20)) (v := ?v1) ?hi1 (by kernel_rfl) (by kernel_rfl) (by kernel_rfl) (fun _ _ _ h => h) ?hd1 ?hw1 ?hy1 hHeld ?_
      case hi1 => (simp only [List.getElem?_toArray, List.getElem?_cons_zero]; exact rfl)
      case hd1 => rfl
      case hw1 => rfl
      case hy1 => (intro w hSw; (try dsimp only at hSw); obtain ⟨hSa, hSb, hSc, hSd, hSe⟩ := hSw; go_simp; try with_reducible rfl)
      try simp only [Act.put, List.setIfInBounds_toArray, List.set_cons_zero, List.set_cons_succ]
      refine take_yes (i := 1) (oi := ?o2) (d := (some 21)) (v := ?v2) ?hi2 (by kernel_rfl) (by kernel_rfl) (by kernel_rfl) (fun _ _ _ h => h) ?hd2 ?hw2 ?hy2 hHeld ?_
      case hi2 => (simp only [List.getElem?_toArray, List.getElem?_cons_zero, List.getElem?_cons_succ]; exact rfl)
      case hd2 => rfl
      case hw2 => rfl
      case hy2 => (intro w hSw; (try dsimp only at hSw); obtain ⟨hSa, hSb, hSc, hSd, hSe⟩ := hSw; go_simp; try with_reducible rfl)
      try simp only [Act.put, List.setIfInBounds_toArray, List.set_cons_zero, List.set_cons_succ]
      refine take_yes (i := 2) (oi := ?o3) (d := (some 22)) (v := ?v3) ?hi3 (by kernel_rfl) (by kernel_rfl) (by kernel_rfl) (fun _ _ _ h => h) ?hd3 ?hw3 ?hy3 hHeld ?_
      case hi3 => (simp only [List.getElem?_toArray, List.getElem?_cons_zero, List.getElem?_cons_succ]; exact rfl)
      case hd3 => rfl
      case hw3 => rfl
      case hy3 => (intro w hSw; (try dsimp only at hSw); obtain ⟨hSa, hSb, hSc, hSd, hSe⟩ := hSw; go_simp; try with_reducible rfl)
      try simp only [Act.put, List.setIfInBounds_toArray, List.set_cons_zero, List.set_cons_succ]
      refine take_yes (i := 3) (oi := ?o4) (d := (some 23)) (v := ?v4) ?hi4 (by kernel_rfl) (by kernel_rfl) (by kernel_rfl) (fun _ _ _ h => h) ?hd4 ?hw4 ?hy4 hHeld ?_
      case hi4 => (simp only [List.getElem?_toArray, List.getElem?_cons_zero, List.getElem?_cons_succ]; exact rfl)
      case hd4 => rfl
      case hw4 => rfl
      case hy4 => (intro w hSw; (try dsimp only at hSw); obtain ⟨hSa, hSb, hSc, hSd, hSe⟩ := hSw; go_simp; try with_reducible rfl)
      try simp only [Act.put, List.setIfInBounds_toArray, List.set_cons_zero, List.set_cons_succ]
      refine take_yes (i := 4) (oi := ?o5) (d := (some 24)) (v := ?v5) ?hi5 (by kernel_rfl) (by kernel_rfl) (by kernel_rfl) (fun _ _ _ h => h) ?hd5 ?hw5 ?hy5 hHeld ?_
      case hi5 => (simp only [List.getElem?_toArray, List.getElem?_cons_zero, List.getElem?_cons_succ]; exact rfl)
      case hd5 => rfl
      case hw5 => rfl
      case hy5 => (intro w hSw; (try dsimp only at hSw); obtain ⟨hSa, hSb, hSc, hSd, hSe⟩ := hSw; go_simp; try with_reducible rfl)
      try simp only [Act.put, List.setIfInBounds_toArray, List.set_cons_zero, List.set_cons_succ]
      refine take_yes (i := 5) (oi := ?o6) (d := (some 25)) (v := ?v6) ?hi6 (by kernel_rfl) (by kernel_rfl) (by kernel_rfl) (fun _ _ _ h => h) ?hd6 ?hw6 ?hy6 hHeld ?_
      case hi6 => (simp only [List.getElem?_toArray, List.getElem?_cons_zero, List.getElem?_cons_succ]; exact rfl)
      case hd6 => rfl
      case hw6 => rfl
      case hy6 => (intro w hSw; (try dsimp only at hSw); obtain ⟨hSa, hSb, hSc, hSd, hSe⟩ := hSw; go_simp; try with_reducible rfl)
      try simp only [Act.put, List.setIfInBounds_toArray, List.set_cons_zero, List.set_cons_succ]
      refine take_yes (i := 6) (oi := ?o7) (d := (some 26)) (v := ?v7) ?hi7 (by kernel_rfl) (by kernel_rfl) (by kernel_rfl) (fun _ _ _ h => h) ?hd7 ?hw7 ?hy7 hHeld ?_
      case hi7 => (simp only [List.getElem?_toArray, List.getElem?_cons_zero, List.getElem?_cons_succ]; exact rfl)
      case hd7 => rfl
      case hw7 => rfl
      case hy7 => (intro w hSw; (try dsimp only at hSw); obtain ⟨hSa, hSb, hSc, hSd, hSe⟩ := hSw; go_simp; try with_reducible rfl)
      try simp only [Act.put, List.setIfInBounds_toArray, List.set_cons_zero, List.set_cons_succ]
      refine take_yes (i := 7) (oi := ?o8) (d := (some 27)) (v := ?v8) ?hi8 (by kernel_rfl) (by kernel_rfl) (by kernel_rfl) (fun _ _ _ h => h) ?hd8 ?hw8 ?hy8 hHeld ?_
      case hi8 => (simp only [List.getElem?_toArray, List.getElem?_cons_zero, List.getElem?_cons_succ]; exact rfl)
      case hd8 => rfl
      case hw8 => rfl
      case hy8 => (intro w hSw; (try dsimp only at hSw); obtain ⟨hSa, hSb, hSc, hSd, hSe⟩ := hSw; go_simp; try with_reducible rfl)
      try simp only [Act.put, List.setIfInBounds_toArray, List.set_cons_zero, List.set_cons_succ]
      refine take_yes (i := 8) (oi := ?o9) (d := (some 28)) (v := ?v9) ?hi9 (by kernel_rfl) (by kernel_rfl) (by kernel_rfl) (fun _ _ _ h => h) ?hd9 ?hw9 ?hy9 hHeld ?_
      case hi9 => (simp only [List.getElem?_toArray, List.getElem?_cons_zero, List.getElem?_cons_succ]; exact rfl)
      case hd9 => rfl
      case hw9 => rfl
      case hy9 => (intro w hSw; (try dsimp only at hSw); obtain ⟨hSa, hSb, hSc, hSd, hSe⟩ := hSw; go_simp; try with_reducible rfl)
      try simp only [Act.put, List.setIfInBounds_toArray, List.set_cons_zero, List.set_cons_succ]
      refine take_yes (i := 9) (oi := ?o10) (d := (some 29)) (v := ?v10) ?hi10 (by kernel_rfl) (by kernel_rfl) (by kernel_rfl) (fun _ _ _ h => h) ?hd10 ?hw10 ?hy10 hHeld ?_
      case hi10 => (simp only [List.getElem?_toArray, List.getElem?_cons_zero, List.getElem?_cons_succ]; exact rfl)
      case hd10 => rfl
      case hw10 => rfl
      case hy10 => (intro w hSw; (try dsimp only at hSw); obtain ⟨hSa, hSb, hSc, hSd, hSe⟩ := hSw; go_simp; try with_reducible rfl)
      try simp only [Act.put, List.setIfInBounds_toArray, List.set_cons_zero, List.set_cons_succ]
      refine take_yes (i := 10) (oi := ?o11) (d := (some 30)) (v := ?v11) ?hi11 (by kernel_rfl) (by kernel_rfl) (by kernel_rfl) (fun _ _ _ h => h) ?hd11 ?hw11 ?hy11 hHeld ?_
      case hi11 => (simp only [List.getElem?_toArray, List.getElem?_cons_zero, List.getElem?_cons_succ]; exact rfl)
      case hd11 => rfl
      case hw11 => rfl
      case hy11 => (intro w hSw; (try dsimp only at hSw); obtain ⟨hSa, hSb, hSc, hSd, hSe⟩ := hSw; go_simp; try with_reducible rfl)
      try simp only [Act.put, List.setIfInBounds_toArray, List.set_cons_zero, List.set_cons_succ]
      refine take_yes (i := 11) (oi := ?o12) (d := (some 31)) (v := ?v12) ?hi12 (by kernel_rfl) (by kernel_rfl) (by kernel_rfl) (fun _ _ _ h => h) ?hd12 ?hw12 ?hy12 hHeld ?_
      case hi12 => (simp only [List.getElem?_toArray, List.getElem?_cons_zero, List.getElem?_cons_succ]; exact rfl)
      case hd12 => rfl
      case hw12 => rfl
      case hy12 => (intro w hSw; (try dsimp only at hSw); obtain ⟨hSa, hSb, hSc, hSd, hSe⟩ := hSw; go_simp; try with_reducible rfl)
      try simp only [Act.put, List.setIfInBounds_toArray, List.set_cons_zero, List.set_cons_succ]
      refine take_yes (i := 14) (oi := ?o13) (d := (some 34)) (v := ?v13) ?hi13 (by kernel_rfl) (by kernel_rfl) (by kernel_rfl) (fun _ _ _ h => h) ?hd13 ?hw13 ?hy13 hHeld ?_
      case hi13 => (simp only [List.getElem?_toArray, List.getElem?_cons_zero, List.getElem?_cons_succ]; exact rfl)
      case hd13 => rfl
      case hw13 => rfl
      case hy13 => (intro w hSw; (try dsimp only at hSw); obtain ⟨hSa, hSb, hSc, hSd, hSe⟩ := hSw; go_simp; try with_reducible rfl)
      try simp only [Act.put, List.setIfInBounds_toArray, List.set_cons_zero, List.set_cons_succ]
      refine take_yes (i := 15) (oi := ?o14) (d := (some 35)) (v := ?v14) ?hi14 (by kernel_rfl) (by kernel_rfl) (by kernel_rfl) (fun _ _ _ h => h) ?hd14 ?hw14 ?hy14 hHeld ?_
      case hi14 => (simp only [List.getElem?_toArray, List.getElem?_cons_zero, List.getElem?_cons_succ]; exact rfl)
      case hd14 => rfl
      case hw14 => rfl
      case hy14 => (intro w hSw; (try dsimp only at hSw); obtain ⟨hSa, hSb, hSc, hSd, hSe⟩ := hSw; go_simp; try with_reducible rfl)
      try simp only [Act.put, List.setIfInBounds_toArray, List.set_cons_zero, List.set_cons_succ]
      refine take_yes (i := 16) (oi := ?o15) (d := (some 36)) (v := ?v15) ?hi15 (by kernel_rfl) (by kernel_rfl) (by kernel_rfl) (fun _ _ _ h => h) ?hd15 ?hw15 ?hy15 hHeld ?_
      case hi15 => (simp only [List.getElem?_toArray, List.getElem?_cons_zero, List.getElem?_cons_succ]; exact rfl)
      case hd15 => rfl
      case hw15 => rfl
      case hy15 => (intro w hSw; (try dsimp only at hSw); obtain ⟨hSa, hSb, hSc, hSd, hSe⟩ := hSw; go_simp; try with_reducible rfl)
      try simp only [Act.put, List.setIfInBounds_toArray, List.set_cons_zero, List.set_cons_succ]
      refine take_yes (i := 17) (oi := ?o16) (d := (some 37)) (v := ?v16) ?hi16 (by kernel_rfl) (by kernel_rfl) (by kernel_rfl) (fun _ _ _ h => h) ?hd16 ?hw16 ?hy16 hHeld ?_
      case hi16 => (simp only [List.getElem?_toArray, List.getElem?_cons_zero, List.getElem?_cons_succ]; exact rfl)
      case hd16 => rfl
      case hw16 => rfl
      case hy16 => (intro w hSw; (try dsimp only at hSw); obtain ⟨hSa, hSb, hSc, hSd, hSe⟩ := hSw; go_simp; try with_reducible rfl)
      try simp only [Act.put, List.setIfInBounds_toArray, List.set_cons_zero, List.set_cons_succ]
      refine wpAnyH_ready (rs := [12]) (by kernel_rfl) (by simp) ?_
      refine AllReadyH.cons rfl (fun K hK => ?_) AllReadyH.nil
      go_simp
      refine (HOF.out w1.drew j hlt (by have := HT.out.size; have := HB1.out.size; show w.heap.size ≤ w1.heap.size; omega) (fun k hk hne => (HB1.out.block k (Nat.lt_of_lt_of_le hk HT.out.size)).trans (HT.out.block k hk (fun ⟨a, ha, e⟩ => hne a ha e)))).mono ?_
      rintro e w2 ⟨rfl, hb2⟩
      have hS2 : w2.cell? ⟨p, 0, none⟩ = some (.int .i64 d.size) ∧ w2.cell? ⟨p, 1, none⟩ = some (.slice (some ⟨q.gd, 0, none⟩) d.dur.length q.cd) ∧ w2.cell? ⟨vb, 0, none⟩ = some (.int .i64 (at_ : Nat)) ∧ w2.cell? ⟨vb, 1, none⟩ = some (.slice (some ⟨q.wg j, 0, none⟩) d.size (q.wc j)) ∧ w2.cell? ⟨q.gd, at_, none⟩ = some (.slice (some ⟨q.ad at_, 0, none⟩) d.size (q.cp at_)) := by
        obtain ⟨a0, a1, a2, a3, a4⟩ := HS1.out
        exact ⟨(hb2.cell (p := ⟨p, 0, none⟩) (World.block_lt_of_cell? _ _ a0)).trans a0, (hb2.cell (p := ⟨p, 1, none⟩) (World.block_lt_of_cell? _ _ a1)).trans a1, (hb2.cell (p := ⟨vb, 0, none⟩) (World.block_lt_of_cell? _ _ a2)).trans a2, (hb2.cell (p := ⟨vb, 1, none⟩) (World.block_lt_of_cell? _ _ a3)).trans a3, (hb2.cell (p := ⟨q.gd, at_, none⟩) (World.block_lt_of_cell? _ _ a4)).trans a4⟩
      have HB2 := Lib.hid hb2
      clear hb2
      go_wp2_with fail
      refine hK.out _ _ (by exact hS2) (fun hHeld12 => ?_)
      clear hK K
      try simp only [Act.put, List.setIfInBounds_toArray, List.set_cons_zero, List.set_cons_succ]
      refine take_yes (i := 13) (oi := ?o17) (d := (some 33)) (v := ?v17) ?hi17 (by kernel_rfl) (by kernel_rfl) (by kernel_rfl) (fun _ _ _ h => h) ?hd17 ?hw17 ?hy17 hHeld12 ?_
      case hi17 => (simp only [List.getElem?_toArray, List.getElem?_cons_zero, List.getElem?_cons_succ]; exact rfl)
      case hd17 => rfl
      case hw17 => rfl
      case hy17 => (intro w hSw; (try dsimp only at hSw); obtain ⟨hSa, hSb, hSc, hSd, hSe⟩ := hSw; go_simp; try with_reducible rfl)
      try simp only [Act.put, List.setIfInBounds_toArray, List.set_cons_zero, List.set_cons_succ]
      refine take_yes (i := 18) (oi := ?o18) (d := (some 38)) (v := ?v18) ?hi18 (by kernel_rfl) (by kernel_rfl) (by kernel_rfl) (fun _ _ _ h => h) ?hd18 ?hw18 ?hy18 hHeld12 ?_
      case hi18 => (simp only [List.getElem?_toArray, List.getElem?_cons_zero, List.getElem?_cons_succ]; exact rfl)
      case hd18 => rfl
      case hw18 => rfl
      case hy18 => (intro w hSw; (try dsimp only at hSw); obtain ⟨hSa, hSb, hSc, hSd, hSe⟩ := hSw; go_simp; try with_reducible rfl)
      try simp only [Act.put, List.setIfInBounds_toArray, List.set_cons_zero, List.set_cons_succ]
      rw [clamp_if]
      obtain ⟨kk, hkk⟩ : ∃ kk, clamp d.size (oi j) = kk := ⟨_, rfl⟩
      have hks : kk ≤ d.size := by rw [← hkk]; exact clamp_le _ _
      have hkc : (kk : Int) ≤ (q.wc j : Int) := by have := (HD.out.waits j hlt).2; simp only at this; omega
      have hk0 : (0 : Int) ≤ (kk : Int) := by omega
      rw [hkk]
      have HKK := Lib.hid hkk; have HKS := Lib.hid hks
      clear hkk hks
      refine take_yes (i := 19) (oi := ?o19) (d := (some 39)) (v := ?v19) ?hi19 (by kernel_rfl) (by kernel_rfl) (by kernel_rfl) (fun _ _ _ h => h) ?hd19 ?hw19 ?hy19 hHeld12 ?_
      case hi19 => (simp only [List.getElem?_toArray, List.getElem?_cons_zero, List.getElem?_cons_succ]; exact rfl)
      case hd19 => rfl
      case hw19 => rfl
      case hy19 => (intro w hSw; (try dsimp only at hSw); obtain ⟨hSa, hSb, hSc, hSd, hSe⟩ := hSw; go_simp; try with_reducible rfl)
      try simp only [Act.put, List.setIfInBounds_toArray, List.set_cons_zero, List.set_cons_succ]
      refine wpAnyH_ready (rs := [20]) (by kernel_rfl) (by simp) ?_
      refine AllReadyH.cons rfl (fun K hK => ?_) AllReadyH.nil
      have hblk := (HD.out.each at_ (by rw [HDL.out]; exact HAIN.out)).1.same ((HB2.out.block _ (by have := (HD.out.each at_ (by rw [HDL.out]; exact HAIN.out)).1.lt; have := HB1.out.size; show q.ad at_ < w1.heap.size; omega)).trans (HB1.out.block _ (HD.out.each at_ (by rw [HDL.out]; exact HAIN.out)).1.lt))
      have hwb := (HD.out.waits j hlt).1.same ((HB2.out.block _ (by have := (HD.out.waits j hlt).1.lt; have := HB1.out.size; show q.wg j < w1.heap.size; omega)).trans (HB1.out.block _ (HD.out.waits j hlt).1.lt))
      have hdl : (dur.getD at_ []).length = d.size := HD.out.ok.each _ (by rw [List.getD_eq_getElem?_getD, List.getElem?_eq_getElem (by rw [HDL.out]; exact HAIN.out)]; exact List.getElem_mem _)
      have hwl : (d.row.getD j (0, [])).2.length = d.size := (HD.out.ok.waits (d.row.getD j (0, [])) (by rw [List.getD_eq_getElem?_getD, List.getElem?_eq_getElem hlt]; exact List.getElem_mem hlt)).2
      refine wp_copyB w2 (.tmp 27) (.tmp 39) rfl (q.ad at_) d.size (q.cp at_) kk (q.wc j) ⟨q.wg j, 0, none⟩ (dur.getD at_ []) (d.row.getD j (0, [])).2 rfl rfl hblk hdl HKS.out hwb.bs (by rw [hwl]; exact HKS.out) ?_
      intro w3 v3 hb3 hg3 hz3
      have hbw2 : Below wr.heap.size wr w2 := ext_trans HB1.out (ext_trans (ext_drew (Below.refl _ w1)) HB2.out)
      have hvbad : vb ≠ q.ad at_ := fun e => by have := (HD.out.each at_ (by rw [HDL.out]; exact HAIN.out)).1.lt; have := HVB.out; omega
      have hpad : p ≠ q.ad at_ := fun e => by
        obtain ⟨cur, h1, _⟩ := (HD.out.each at_ (by rw [HDL.out]; exact HAIN.out)).1
        have h2 := HD.out.own
        rw [Arr, e, h1] at h2
        injection h2 with h2
        injection h2 with _ h3
        revert h3; decide
      have hgad : q.gd ≠ q.ad at_ := fun e => by
        obtain ⟨cur, h1, _⟩ := (HD.out.each at_ (by rw [HDL.out]; exact HAIN.out)).1
        rcases HD.out.dur.own.2 with ⟨hv, _⟩ | ⟨g', cap', cc, hv, _, hh, _⟩
        · cases hv
        · injection hv with e2 _ _
          injection e2 with e2
          injection e2 with e2
          rw [← e2, e, h1] at hh
          injection hh with hh
          injection hh with _ h3
          revert h3; decide
      have hc3 : ∀ (k o : Nat), k < w2.heap.size → k ≠ q.ad at_ → w3.cell? ⟨k, o, none⟩ = w2.cell? ⟨k, o, none⟩ := fun k o hk hne => World.cell?_of_block (a := ⟨k, o, none⟩) (hg3.block k hk (fun e => hne (by injection e)))
      have hS3 : w3.cell? ⟨p, 0, none⟩ = some (.int .i64 d.size) ∧ w3.cell? ⟨p, 1, none⟩ = some (.slice (some ⟨q.gd, 0, none⟩) d.dur.length q.cd) ∧ w3.cell? ⟨vb, 0, none⟩ = some (.int .i64 (at_ : Nat)) ∧ w3.cell? ⟨vb, 1, none⟩ = some (.slice (some ⟨q.wg j, 0, none⟩) d.size (q.wc j)) ∧ w3.cell? ⟨q.gd, at_, none⟩ = some (.slice (some ⟨q.ad at_, 0, none⟩) d.size (q.cp at_)) := by
        obtain ⟨a0, a1, a2, a3, a4⟩ := hHeld12
        exact ⟨(hc3 p 0 (World.block_lt_of_cell? _ _ a0) hpad).trans a0, (hc3 p 1 (World.block_lt_of_cell? _ _ a1) hpad).trans a1, (hc3 vb 0 (World.block_lt_of_cell? _ _ a2) hvbad).trans a2, (hc3 vb 1 (World.block_lt_of_cell? _ _ a3) hvbad).trans a3, (hc3 q.gd at_ (World.block_lt_of_cell? _ _ a4) hgad).trans a4⟩
      have hD3 := HD.out.turn (w' := w3) (a := at_) (b := over (dur.getD at_ []) (d.row.getD j (0, [])).2 kk) (by rw [HDL.out]; exact HAIN.out) (by rw [over_len (by rw [hwl, hdl]), hdl]) hb3 (by have := hbw2.size; omega) (fun k hk hne => (hg3.block k (Nat.lt_of_lt_of_le hk hbw2.size) (fun e => hne (by injection e))).trans (hbw2.block k hk))
      have hT3 : Tch (fun k => ∃ a, a < d.dur.length ∧ k = q.ad a) w w3 := (HT.out.below hbw2).grown hg3 (fun k e => .inl ⟨at_, HAIN.out, by injection e with e; exact e.symm⟩)
      have HD3 := Lib.hid hD3; have HT3 := Lib.hid hT3
      clear hblk hwb hdl hwl hb3 hg3 hz3 hbw2 hvbad hpad hgad hc3 hD3 hT3
      refine hK.out _ _ (by exact hS3) (fun hHeld20 => ?_)
      clear hK K
      try simp only [Act.put, List.setIfInBounds_toArray, List.set_cons_zero, List.set_cons_succ]
      refine wpAnyH_done (by kernel_rfl) ?_ _
      have hnx : settleL (fun i => clamp d.size (oi i)) d.dur 0 (d.row.take (j + 1)) = dur.set at_ (over (dur.getD at_ []) (d.row.getD j (0, [])).2 kk) := by
        have e1 : d.row[j] = (at_, (d.row.getD j (0, [])).2) := by
          have e0 : d.row.getD j (0, []) = d.row[j] := by rw [List.getD_eq_getElem?_getD, List.getElem?_eq_getElem hlt]; rfl
          rw [← HAT.out, e0]
        rw [List.take_add_one, List.getElem?_eq_getElem hlt, Option.toList_some, settleL_snoc, HDUR.out, e1, List.length_take, Nat.min_eq_left hj, Nat.zero_add, HKK.out]
      have HNX := Lib.hid hnx
      clear hnx
      go_wp2_with fail
      go_roundw
      case rel => exact ⟨j + 1, by omega, by go_num, by rw [HNX.out]; exact HD3.out, HT3.out⟩
      case measure => simp [intOf]; omega
    · have hlt' : ¬ (j : Int) < (d.row.length : Int) := by omega
      have hjm : j = d.row.length := by omega
      have hfull : d.row.take j = d.row := by rw [hjm]; exact List.take_length
      have x0' : wr.cell? ⟨p, 0, none⟩ = some (.int .i64 d.size) := HD.out.own.cell 0
      have x2' : wr.cell? ⟨p, 2, none⟩ = some q.rv := HD.out.own.cell 2
      have m2' := HD.out.own.mark 2
      have hp2 : Arr (wr.setCell ⟨p, 2, none⟩ (.slice none 0 0)) p 185 #[.int .i64 d.size, .slice (some ⟨q.gd, 0, none⟩) dur.length q.cd, .slice none 0 0, .map (some q.mb)] := by simpa using HD.out.own.put 2 (.slice none 0 0)
      have x3' : (wr.setCell ⟨p, 2, none⟩ (.slice none 0 0)).cell? ⟨p, 3, none⟩ = some (.map (some q.mb)) := hp2.cell 3
      have hmp : q.mb ≠ p := fun e => HD.out.newest.ne_arr HD.out.own e.symm
      have hm2 := HD.out.newest.same (w' := wr.setCell ⟨p, 2, none⟩ (.slice none 0 0)) (Below.heap_setCell wr ⟨p, 2, none⟩ _ q.mb hmp)
      have HP2 := Lib.hid hp2; have HM2 := Lib.hid hm2; have HMP := Lib.hid hmp; have HFULL := Lib.hid hfull
      clear hp2 hm2 hmp hfull hjm
      go_wp2_with (refine wpList_clear_v rfl _ 182 rfl 3 51 .i64 Tryz.underlying182 q.mb q.mn (newV { d with dur := dur } q) rfl HM2.out ?_; intro w4 hm4 hg4; have HM4 := Lib.hid hm4; have HG4 := Lib.hid hg4; clear hm4 hg4)
      go_ret
      have hT4 : Tch S w w4 := (((HT.out.mono (fun k _ ⟨a, ha, e⟩ => by rw [e]; exact HH.out.foot.2.2.1 a ha)).put (p := ⟨p, 2, none⟩) (.inl HH.out.foot.1) _).grown HG4.out (fun k e => .inl (by injection e with e; exact e ▸ HH.out.foot.2.1)))
      have hp4 := HP2.out.grownTo HG4.out (fun e => by injection e with e; exact HMP.out e)
      refine ⟨rfl, ⟨{ q with rv := .slice none 0 0, mn := 0 }, ?_⟩, hT4⟩
      have := HD.out.dry (w' := w4) (fun k hk h1 h2 => (HG4.out.block k (by rw [World.size_setCell]; exact HD.out.lt k hk) (fun e => h2 (by injection e))).trans (Below.heap_setCell wr ⟨p, 2, none⟩ _ k h1)) hp4 HM4.out (by have := HG4.out.size; rw [World.size_setCell] at this; exact this)
      unfold Dk.settle
      have e5 : settleL (fun i => clamp d.size (oi i)) d.dur 0 d.row = dur := by rw [← HDUR.out, HFULL.out]
      rw [e5]
      exact this
theorem DkLies.ne_ad {S : Nat → Prop} {w : World} {p : Nat} {d : Dk} {q : DkP} (h : DkLies S w p d q) {a : Nat} (ha : a < d.dur.length) {k : Nat} {t : TypeId} {cs : Array Value} (hA : Arr w k t cs) (ht : t ≠ 5) : k ≠ q.ad a := fun e => by
  obtain ⟨cur, h1, _⟩ := (h.each a ha).1
  subst e
  rw [Arr, h1] at hA
  injection hA with hA
  injection hA with _ e2
  exact ht e2.symm
-- disk.Disk.Sync
set_option maxRecDepth 100000 in
set_option maxHeartbeats 1000000 in
theorem Sync1_in (p bx i : Nat) (s : Nat) (w : World) (h0 : w.cell? ⟨bx, 0, none⟩ = some (.pointer (some ⟨p, 0, none⟩))) (h1 : w.cell? ⟨p, 0, none⟩ = some (.int .i64 s)) : Calls Tryz.prog 226 #[.int .i64 i, .pointer (some ⟨bx, 0, none⟩)] w fun e w' => e = .returned (.int .i64 s) ∧ w' = w := by
  go_enter Tryz.func226, Tryz.ntmps226
  go_wp2_with fail
  go_ret
  exact ⟨rfl, rfl⟩
set_option maxRecDepth 100000 in
set_option maxHeartbeats 1000000 in
theorem Sync_in {p : Nat} {d : Dk} {S : Nat → Prop} {w : World} (h : DkIn p d S w) (hrow : d.row.length ≤ 1000000) : Calls Tryz.prog 194 #[.pointer (some ⟨p, 0, none⟩)] w fun e w' => e = .returned (.int .i64 0) ∧ DkIn p (d.settle fun _ => d.size) (Gr S w w') w' ∧ Tch S w w' := by
  have L := DkIn_loc p d
  have L2 := DkIn_loc p (d.settle fun _ => d.size)
  have hS := fun k hk => L.lt h k hk
  obtain ⟨w1, hw1⟩ : ∃ w1, w.alloc (.cells #[.pointer (some ⟨p, 0, none⟩)] 25) = w1 := ⟨_, rfl⟩
  have hb1 : Below w.heap.size w w1 := by rw [← hw1]; exact ext_alloc (Below.refl _ _) _
  have ha1 : Arr w1 w.heap.size 25 #[.pointer (some ⟨p, 0, none⟩)] := by rw [← hw1]; exact Arr.fresh w _ _
  obtain ⟨q, hD⟩ := L.below h hb1
  have hof : ∀ (W : World) (i : Nat), i < d.row.length → w1.heap.size ≤ W.heap.size → (∀ k, k < w1.heap.size → (∀ a, a < d.dur.length → k ≠ q.ad a) → W.heap[k]? = w1.heap[k]?) → Calls Tryz.prog 226 (#[.int .i64 i] ++ #[.pointer (some ⟨w.heap.size, 0, none⟩)]) W fun e W' => e = .returned (.int .i64 ((fun _ : Nat => (d.size : Int)) i)) ∧ Below W.heap.size W W' := fun W i _ _ hk => by
    have k1 := hk w.heap.size ha1.lt (fun a ha => hD.ne_ad ha ha1 (by decide))
    have k2 := hk p hD.own.lt (fun a ha => hD.ne_ad ha hD.own (by decide))
    refine (Sync1_in p w.heap.size i d.size W ?_ ?_).mono ?_
    · exact (World.cell?_of_block (a := ⟨w.heap.size, 0, none⟩) k1).trans (ha1.cell 0)
    · exact (World.cell?_of_block (a := ⟨p, 0, none⟩) k2).trans (hD.own.cell 0)
    · rintro e W' ⟨rfl, rfl⟩; exact ⟨rfl, Below.refl _ _⟩
  have HST := Lib.hid (settle_sync hD #[.pointer (some ⟨w.heap.size, 0, none⟩)] (fun _ => (d.size : Int)) hrow hof)
  have HX := Lib.hid ha1; have HB := Lib.hid hb1; have HSS := Lib.hid hS; have HL2 := Lib.hid L2; have HW1 := Lib.hid hw1
  clear hD hof hb1 hS L L2 h hw1
  have x0 : w1.cell? ⟨w.heap.size, 0, none⟩ = some (.pointer (some ⟨p, 0, none⟩)) := ha1.cell 0
  clear ha1
  go_enter Tryz.func194, Tryz.ntmps194
  go_wp2_with fail
  rw [HW1.out]
  refine HST.out.mono ?_
  rintro e w2 ⟨rfl, ⟨q', hq⟩, hT⟩
  have hcl : (fun i : Nat => clamp d.size ((fun _ : Nat => (d.size : Int)) i)) = fun _ => d.size := by funext i; simp [clamp]
  rw [hcl] at hq
  have hT2 : Tch S w w2 := (Tch.of_below HB.out).trans hT
  have hin : DkIn p (d.settle fun _ => d.size) (Gr S w w2) w2 := HL2.out.toGr ⟨q', hq⟩ HSS.out hT2.size
  have HIN := Lib.hid hin; have HT2 := Lib.hid hT2
  clear hq hT hT2 hin HST
  go_wp2_with fail
  go_ret
  exact ⟨rfl, HIN.out, HT2.out⟩

end Go.Proofs.YtbnkanehjnepbaaGreatDoor.En
end

/- Layer 5: may, New. -/
section
set_option linter.unusedVariables false
set_option linter.unusedSimpArgs false
namespace Go.Proofs.YtbnkanehjnepbaaGreatDoor.En
open Go.RowKit
open Go.Proofs.YtbnkanehjnepbaaGreatDoor.Oc (Bs bytesV byteV okA okA_some okA_none ClOut)

set_option maxRecDepth 100000 in
set_option maxHeartbeats 1000000 in
theorem may_yes (n s : Nat) (hn : 1 ≤ n ∧ n ≤ 65536) (hs : s = 64 ∨ s = 128) (w : World) : Calls Tryz.prog 81 #[.int .i64 n, .int .i64 s] w fun e w' => e = .returned (.bool true) ∧ Below w.heap.size w w' := by
  have h1 : (1 : Int) ≤ (n : Int) := by omega
  have h2 : (n : Int) ≤ 65536 := by omega
  have e1 : Go.bits BinOp.and IntKind.i64 64 63 = 0 := by decide
  have e2 : Go.bits BinOp.and IntKind.i64 128 127 = 0 := by decide
  rcases hs with rfl | rfl
  · go_enter Tryz.func81, Tryz.ntmps81
    go_wp2_with fail
    go_ret
    exact ⟨ret_bool (a := decide ((n : Int) * 64 ≤ 67108864)) (decide_eq_true (by omega)), Below.refl _ _⟩
  · go_enter Tryz.func81, Tryz.ntmps81
    go_wp2_with fail
    go_ret
    exact ⟨ret_bool (a := decide ((n : Int) * 128 ≤ 67108864)) (decide_eq_true (by omega)), Below.refl _ _⟩
/-- a disk of noughts -/
def dk0 (n s : Nat) : Dk := ⟨s, List.replicate n (List.replicate s 0), []⟩
def DNew (n s : Nat) (w : World) (e : Ending) (w' : World) : Prop := ∃ p S, e = .returned (.tuple #[.pointer (some ⟨p, 0, none⟩), .int .i64 0]) ∧ DkIn p (dk0 n s) S w' ∧ (∀ k, S k → w.heap.size ≤ k) ∧ Below w.heap.size w w'
theorem rows_info : (Tryz.prog.info? 51).map (fun i => (i.zero, i.size, i.bytes)) = some (some (.slice none 0 0), 1, 24) := by kernel_rfl
theorem newV_nil (s : Nat) (dur : List By) (q : DkP) : newV ⟨s, dur, []⟩ q = fun _ => none := by funext z; unfold newV; split <;> rfl
/-- what New has made behind k rounds -/
structure NwSt (w wr : World) (p mb s k : Nat) (v : Value) (ad cp : Nat → Nat) : Prop where
  own : Arr wr p 185 #[.int .i64 s, v, .slice none 0 0, .map (some mb)]
  row : RowIn (fun g => w.heap.size ≤ g) wr 51 1 v k (fun i => [.slice (some ⟨ad i, 0, none⟩) s (cp i)])
  each : ∀ i, i < k → Blk wr 5 (ad i) (List.replicate s 0) ∧ s ≤ cp i ∧ w.heap.size ≤ ad i
  alone : ∀ i j, i < k → j < k → ad i = ad j → i = j
  map : MapV Tryz.prog 3 .i64 wr mb 0 (fun _ => none)
  below : Below w.heap.size w wr
  news : w.heap.size ≤ p ∧ w.heap.size ≤ mb
theorem NwSt.done {w wr : World} {p mb s n : Nat} {v : Value} {ad cp : Nat → Nat} (h : NwSt w wr p mb s n v ad cp) (hn : 1 ≤ n ∧ n ≤ 65536) (hs : 1 ≤ s ∧ s ≤ 4096) : DkIn p (dk0 n s) (fun k => w.heap.size ≤ k ∧ k < wr.heap.size) wr := by
  obtain ⟨gd, cd, rfl, _, _, _, hgl⟩ := h.row.form (by omega)
  have hl : (dk0 n s).dur.length = n := List.length_replicate
  have hg : ∀ i, i < n → (dk0 n s).dur.getD i [] = List.replicate s 0 := fun i hi => by
    unfold dk0; simp only; rw [List.getD_eq_getElem?_getD, List.getElem?_replicate, if_pos hi]; rfl
  refine ⟨⟨gd, cd, ad, cp, .slice none 0 0, mb, 0, fun _ => 0, fun _ => 0⟩, ?_, ?_, fun i hi => ?_, RowIn.nil _ _ _ _ _, fun i hi => absurd hi (Nat.not_lt_zero i), ?_, ⟨hs, by rw [hl]; exact hn, fun b hb => ?_, fun x hx => by cases hx⟩, ⟨⟨h.news.1, h.own.lt⟩, ⟨h.news.2, h.map.lt⟩, fun i hi => ?_, fun i hi => absurd hi (Nat.not_lt_zero i)⟩, ⟨fun i j hi hj => ?_, fun i j _ hj => absurd hj (Nat.not_lt_zero j)⟩, fun k hk => hk.2, Nat.le_refl _⟩
  · show Arr wr p _ #[.int .i64 s, .slice (some ⟨gd, 0, none⟩) (dk0 n s).dur.length cd, .slice none 0 0, .map (some mb)]
    rw [hl]; exact h.own
  · show RowIn _ wr _ 1 (.slice (some ⟨gd, 0, none⟩) (dk0 n s).dur.length cd) (dk0 n s).dur.length _
    rw [hl]; exact h.row.mono fun g hg hg2 => ⟨hg, hg2⟩
  · rw [hl] at hi
    rw [hg i hi]
    exact ⟨(h.each i hi).1, (h.each i hi).2.1⟩
  · rw [show newV (dk0 n s) _ = fun _ => none from newV_nil s _ _]; exact h.map
  · obtain rfl := List.eq_of_mem_replicate hb; exact List.length_replicate
  · rw [hl] at hi; exact ⟨(h.each i hi).2.2, (h.each i hi).1.lt⟩
  · rw [hl] at hi hj; exact h.alone i j hi hj
theorem bytes_rep (s : Nat) : bytesV (List.replicate s 0) = List.replicate s (.int .u8 0) := by unfold bytesV; rw [List.map_replicate]; rfl
theorem flat_rep (s : Nat) : flat (fun _ => (Value.int .u8 0).cells.toList) s = List.replicate s (.int .u8 0) := by
  induction s with
  | zero => rfl
  | succ s ih => rw [flat, ih, List.replicate_succ']; rfl
set_option maxRecDepth 100000 in
set_option maxHeartbeats 2000000 in
theorem New_in (n s : Nat) (hn : 1 ≤ n ∧ n ≤ 65536) (hs : s = 64 ∨ s = 128) (w : World) : Calls Tryz.prog 31 #[.int .i64 n, .int .i64 s] w (DNew n s w) := by
  obtain ⟨i0, hi0, hz0, hz1, hz2⟩ := info_parts Oc.u8_info
  obtain ⟨j0, hj0, hy0, hy1, hy2⟩ := info_parts rows_info
  have HM := Lib.hid (may_yes n s hn hs)
  have hmm := @run_makeMap Tryz.prog
  have hn1 : (n : Int) ≤ 65536 := by omega
  have hs0 : (0 : Int) ≤ (s : Int) := by omega
  have hs1 : (s : Int) ≤ 128 := by rcases hs with rfl | rfl <;> simp
  have HN := Lib.hid hn; have HS := Lib.hid hs; have HS0 := Lib.hid (show 0 < s by rcases hs with rfl | rfl <;> decide)
  clear hs hn
  go_enter Tryz.func31, Tryz.ntmps31
  go_wp2_with fail
  refine (HM.out w).mono ?_
  rintro e w1 ⟨rfl, hb1⟩
  have HB1 := Lib.hid hb1
  clear hb1 HM
  go_wp2_with fail
  obtain ⟨p, hp⟩ : ∃ p, w1.heap.size + 1 = p := ⟨_, rfl⟩
  obtain ⟨mb, hmb⟩ : ∃ mb, w1.heap.size = mb := ⟨_, rfl⟩
  obtain ⟨w2, hw2⟩ : ∃ w2, (w1.alloc (.map #[] 0)).alloc (.cells #[.int .i64 s, .slice none 0 0, .slice none 0 0, .map (some w1.heap.size)] 185) = w2 := ⟨_, rfl⟩
  have hst : NwSt w w2 p mb s 0 (.slice none 0 0) (fun _ => 0) (fun _ => 0) := by
    have hz := HB1.out.size
    refine ⟨?_, RowIn.nil _ _ _ _ _, fun i hi => absurd hi (Nat.not_lt_zero i), fun i j hi => absurd hi (Nat.not_lt_zero i), ?_, ?_, by omega, by omega⟩
    · rw [← hw2, ← hmb]; exact Arr.new (by simp; omega)
    · rw [← hw2, ← hmb]; exact (MapV.made Tryz.prog _ _ w1).keep (ext_alloc (Below.refl _ _) _)
    · rw [← hw2]; exact ext_alloc (ext_alloc HB1.out _) _
  rw [hw2, hp]
  have HST := Lib.hid hst
  clear hst hw2 hp hmb HB1
  go_loopw [16] (fun i wr => ∃ (k : Nat) (v : Value) (ad cp : Nat → Nat), k ≤ n ∧ i = .int .i64 k ∧ NwSt w wr p mb s k v ad cp) (fun i _ => (n - intOf i).toNat)
  case atStart => exact ⟨0, _, _, _, by omega, rfl, HST.out⟩
  case round =>
    obtain ⟨k, v, ad, cp, hk, rfl, hI⟩ := hrel
    have HI := Lib.hid hI
    clear hI
    by_cases h : k < n
    · have h' : (k : Int) < (n : Int) := by omega
      have x1 : wr.cell? ⟨p, 1, none⟩ = some v := HI.out.own.cell 1
      go_wp2_with fail
      refine region_any_drew (by kernel_rfl) ?_
      refine AnyTill.any (S := (fun w' => w'.cell? ⟨p, 1, none⟩ = some v)) (t := 11) _ _ _ _ ?_
      have hHeld := (show (fun w' => w'.cell? ⟨p, 1, none⟩ = some v) wr.drew from x1)
      refine till_take (i := 0) (oi := ?o1) (d := (some 18)) (v := ?v1) ?hi1 (by kernel_rfl) (by kernel_rfl) (by kernel_rfl) (by kernel_rfl) (by kernel_rfl) (fun _ _ _ h => h) ?hd1 ?hw1 ?hy1 hHeld ?_
      case hi1 => (simp only [List.getElem?_toArray, List.getElem?_cons_zero]; exact rfl)
      case hd1 => rfl
      case hw1 => rfl
      case hy1 => (intro w hSw; (try dsimp only at hSw); go_simp; try with_reducible rfl)
      try simp only [Act.put, List.setIfInBounds_toArray, List.set_cons_zero, List.set_cons_succ]
      refine till_take (i := 1) (oi := ?o2) (d := (some 19)) (v := ?v2) ?hi2 (by kernel_rfl) (by kernel_rfl) (by kernel_rfl) (by kernel_rfl) (by kernel_rfl) (fun _ _ _ h => h) ?hd2 ?hw2 ?hy2 hHeld ?_
      case hi2 => (simp only [List.getElem?_toArray, List.getElem?_cons_zero, List.getElem?_cons_succ]; exact rfl)
      case hd2 => rfl
      case hw2 => rfl
      case hy2 => (intro w hSw; (try dsimp only at hSw); go_simp; try with_reducible rfl)
      try simp only [Act.put, List.setIfInBounds_toArray, List.set_cons_zero, List.set_cons_succ]
      refine till_take (i := 2) (oi := ?o3) (d := (some 20)) (v := ?v3) ?hi3 (by kernel_rfl) (by kernel_rfl) (by kernel_rfl) (by kernel_rfl) (by kernel_rfl) (fun _ _ _ h => h) ?hd3 ?hw3 ?hy3 hHeld ?_
      case hi3 => (simp only [List.getElem?_toArray, List.getElem?_cons_zero, List.getElem?_cons_succ]; exact rfl)
      case hd3 => rfl
      case hw3 => rfl
      case hy3 => (intro w hSw; (try dsimp only at hSw); go_simp; try with_reducible rfl)
      try simp only [Act.put, List.setIfInBounds_toArray, List.set_cons_zero, List.set_cons_succ]
      refine till_take (i := 3) (oi := ?o4) (d := (some 21)) (v := ?v4) ?hi4 (by kernel_rfl) (by kernel_rfl) (by kernel_rfl) (by kernel_rfl) (by kernel_rfl) (fun _ _ _ h => h) ?hd4 ?hw4 ?hy4 hHeld ?_
      case hi4 => (simp only [List.getElem?_toArray, List.getElem?_cons_zero, List.getElem?_cons_succ]; exact rfl)
      case hd4 => rfl
      case hw4 => rfl
      case hy4 => (intro w hSw; (try dsimp only at hSw); go_simp; try with_reducible rfl)
      try simp only [Act.put, List.setIfInBounds_toArray, List.set_cons_zero, List.set_cons_succ]
      refine till_take (i := 4) (oi := ?o5) (d := (some 22)) (v := ?v5) ?hi5 (by kernel_rfl) (by kernel_rfl) (by kernel_rfl) (by kernel_rfl) (by kernel_rfl) (fun _ _ _ h => h) ?hd5 ?hw5 ?hy5 hHeld ?_
      case hi5 => (simp only [List.getElem?_toArray, List.getElem?_cons_zero, List.getElem?_cons_succ]; exact rfl)
      case hd5 => rfl
      case hw5 => rfl
      case hy5 => (intro w hSw; (try dsimp only at hSw); go_simp; try with_reducible rfl)
      try simp only [Act.put, List.setIfInBounds_toArray, List.set_cons_zero, List.set_cons_succ]
      refine till_take (i := 5) (oi := ?o6) (d := (some 23)) (v := ?v6) ?hi6 (by kernel_rfl) (by kernel_rfl) (by kernel_rfl) (by kernel_rfl) (by kernel_rfl) (fun _ _ _ h => h) ?hd6 ?hw6 ?hy6 hHeld ?_
      case hi6 => (simp only [List.getElem?_toArray, List.getElem?_cons_zero, List.getElem?_cons_succ]; exact rfl)
      case hd6 => rfl
      case hw6 => rfl
      case hy6 => (intro w hSw; (try dsimp only at hSw); go_simp; try with_reducible rfl)
      try simp only [Act.put, List.setIfInBounds_toArray, List.set_cons_zero, List.set_cons_succ]
      refine AnyTill.step (i := 6) (by kernel_rfl) (by kernel_rfl) rfl (fun K hK => ?_)
      rw [if_pos (by rfl)]
      refine wp_make_rows _ (.tmp 23) (.tmp 23) 51 rfl 5 i0 (.int .u8 0) 1 Tryz.underlying51 hi0 hz0 hz1 rfl (by decide) s rfl rfl (by rw [hz2]; omega) (by unfold maxLen; omega) ?_
      intro w4 hr4 hg4
      have hbw4 : Below wr.heap.size wr w4 := Below.grown (ext_drew (Below.refl _ _)) hg4 (Nat.le_refl _) (by simp)
      have x4 : w4.cell? ⟨p, 1, none⟩ = some v := (hbw4.cell (p := ⟨p, 1, none⟩) HI.out.own.lt).trans x1
      have hz4 : wr.heap.size < w4.heap.size := by obtain ⟨g, cap, e, he, _, _, hlt⟩ := hr4.form HS0.out; injection e with e; injection e with e; have e2 : g = wr.heap.size := he; omega
      have HR4 := Lib.hid hr4; have HB4 := Lib.hid hbw4; have HZ4 := Lib.hid hz4
      clear hr4 hg4 hbw4 hz4
      refine hK.out _ _ (by first | exact x4 | exact x5 | exact z6) (fun hHeld6 => ?_)
      clear hK K
      try simp only [Act.put, List.setIfInBounds_toArray, List.set_cons_zero, List.set_cons_succ]
      refine AnyTill.step (i := 7) (by kernel_rfl) (by kernel_rfl) rfl (fun K hK => ?_)
      have hb5 : Below wr.heap.size wr (w4.alloc (.cells #[.slice (some ⟨wr.heap.size, 0, none⟩) s s] 51)) := ext_alloc HB4.out _
      have x5 : (w4.alloc (.cells #[.slice (some ⟨wr.heap.size, 0, none⟩) s s] 51)).cell? ⟨p, 1, none⟩ = some v := (hb5.cell (p := ⟨p, 1, none⟩) HI.out.own.lt).trans x1
      have HB5 := Lib.hid hb5
      clear hb5
      go_simp
      go_wp2_with fail
      refine hK.out _ _ (by first | exact x4 | exact x5 | exact z6) (fun hHeld7 => ?_)
      clear hK K
      try simp only [Act.put, List.setIfInBounds_toArray, List.set_cons_zero, List.set_cons_succ]
      refine AnyTill.step (i := 8) (by kernel_rfl) (by kernel_rfl) rfl (fun K hK => ?_)
      rw [if_pos (by rfl)]
      refine wp_append_elem _ (.tmp 22) (.tmp 25) 41 rfl 51 j0 (.slice none 0 0) 1 24 Tryz.underlying41 hj0 hy0 hy1 hy2 rfl (by decide) v k (fun i => [.slice (some ⟨ad i, 0, none⟩) s (cp i)]) rfl (HI.out.row.keep HB5.out) ⟨w4.heap.size, 0, none⟩ 1 [.slice (some ⟨wr.heap.size, 0, none⟩) s s] rfl rfl (news_any w4 _ _) (by intro u hu; simp at hu; subst hu; rfl) (by unfold maxLen; omega) (by omega) ?_
      intro ga ca w6 hr6 hg6
      have hz5 := HB5.out.size
      have hob : ∀ {g : Nat} {o : Obj}, wr.heap[g]? = some o → (∀ c, o ≠ .cells c 51 (0, 0)) → w6.heap[g]? = wr.heap[g]? := fun {g o} ho hne => by
        have hgl := (Array.getElem?_eq_some_iff.1 ho).1
        exact (hg6.block g (by omega) (fun e => HI.out.row.ne_obj e.symm ho hne rfl)).trans (HB5.out.block g hgl)
      have hp6 : Arr w6 p 185 #[.int .i64 s, v, .slice none 0 0, .map (some mb)] := (hob HI.out.own (fun c e => by injection e with _ e2; revert e2; decide)).trans HI.out.own
      have hm6 : MapV Tryz.prog 3 .i64 w6 mb 0 (fun _ => none) := HI.out.map.same (by obtain ⟨es, c, hb⟩ := HI.out.map.obj; exact hob hb (fun c e => by injection e))
      have he6 : ∀ i, i < k → Blk w6 5 (ad i) (List.replicate s 0) := fun i hi => (HI.out.each i hi).1.same (by obtain ⟨cur, hc, _⟩ := (HI.out.each i hi).1; exact hob hc (fun c e => by injection e with _ e2; revert e2; decide))
      have hn6 : Blk w6 5 wr.heap.size (List.replicate s 0) := by
        have ho4 := HR4.out.own
        have hb4 : Blk w4 5 wr.heap.size (List.replicate s 0) := (Oc.own_blk (bs := List.replicate s 0) (by rw [bytes_rep]; have := ho4; rw [flat_rep] at this; exact this) (List.length_replicate)).1
        obtain ⟨cur, hc, hin⟩ := hb4
        refine ⟨cur, (hg6.block _ (by have := HZ4.out; simp; omega) (fun e => ?_)).trans ((Below.heap_alloc w4 _ _ HZ4.out).trans hc), hin⟩
        have hlt := (own_lt HI.out.row.own e.symm).1
        omega
      have hbw6 : Below w.heap.size w w6 := (ext_trans HI.out.below HB5.out).grown hg6 (by have := (ext_trans HI.out.below HB5.out).size; exact this) (fun g e => HI.out.row.block g e)
      have m6 := hp6.mark 1
      have z6 : w6.cell? ⟨p, 1, none⟩ = some v := hp6.cell 1
      have hpg : p ≠ ga := hr6.ne_obj rfl hp6 (fun c e => by injection e with _ e2; revert e2; decide)
      have HR6 := Lib.hid hr6; have HP6 := Lib.hid hp6; have HM6 := Lib.hid hm6; have HE6 := Lib.hid he6; have HN6 := Lib.hid hn6; have HB6 := Lib.hid hbw6; have HPG := Lib.hid hpg
      clear hr6 hg6 hob hp6 hm6 he6 hn6 hbw6 hpg hz5
      refine hK.out _ _ (by first | exact x4 | exact x5 | exact z6) (fun hHeld8 => ?_)
      clear hK K
      try simp only [Act.put, List.setIfInBounds_toArray, List.set_cons_zero, List.set_cons_succ]
      refine till_pure (i := 9) (oi := ?o7) (d := (some 27)) (v := ?v7) ?hi7 (by kernel_rfl) (by kernel_rfl) (by kernel_rfl) (by kernel_rfl) (fun _ _ _ h => h) ?hd7 ?hw7 ?hy7 hHeld8 ?_
      case hi7 => (simp only [List.getElem?_toArray, List.getElem?_cons_zero, List.getElem?_cons_succ]; exact rfl)
      case hd7 => rfl
      case hw7 => rfl
      case hy7 => (intro w; go_simp; try with_reducible rfl)
      try simp only [Act.put, List.setIfInBounds_toArray, List.set_cons_zero, List.set_cons_succ]
      refine till_take (i := 10) (oi := ?o8) (d := (some 28)) (v := ?v8) ?hi8 (by kernel_rfl) (by kernel_rfl) (by kernel_rfl) (by kernel_rfl) (by kernel_rfl) (fun _ _ _ h => h) ?hd8 ?hw8 ?hy8 hHeld8 ?_
      case hi8 => (simp only [List.getElem?_toArray, List.getElem?_cons_zero, List.getElem?_cons_succ]; exact rfl)
      case hd8 => rfl
      case hw8 => rfl
      case hy8 => (intro w hSw; (try dsimp only at hSw); go_simp; try with_reducible rfl)
      try simp only [Act.put, List.setIfInBounds_toArray, List.set_cons_zero, List.set_cons_succ]
      refine AnyTill.last (by kernel_rfl) ?_
      refine any_drop 11 (by kernel_rfl) (by kernel_rfl) ?_
      simp only [List.drop_succ_cons, List.drop_zero]
      have hf : NwSt w (w6.setCell ⟨p, 1, none⟩ (.slice (some ⟨ga, 0, none⟩) (k + 1) ca)) p mb s (k + 1) (.slice (some ⟨ga, 0, none⟩) (k + 1) ca) (setL ad k wr.heap.size) (setL cp k s) := by
        have hpw : w.heap.size ≤ p := HI.out.news.1
        have hsc : ∀ g, g ≠ p → (w6.setCell ⟨p, 1, none⟩ (.slice (some ⟨ga, 0, none⟩) (k + 1) ca)).heap[g]? = w6.heap[g]? := fun g hg => Below.heap_setCell w6 ⟨p, 1, none⟩ _ g hg
        have hbne : ∀ {g : Nat}, Blk w6 5 g (List.replicate s 0) → g ≠ p := fun {g} hb e => by
          obtain ⟨cur, hc, _⟩ := hb
          have h2 := HP6.out
          rw [Arr, ← e, hc] at h2
          injection h2 with h2
          injection h2 with _ h3
          revert h3; decide
        have hwr : w.heap.size ≤ wr.heap.size := HI.out.below.size
        refine ⟨by simpa using HP6.out.put 1 (.slice (some ⟨ga, 0, none⟩) (k + 1) ca), ?_, fun i hi => ?_, fun i j hi hj he => ?_, HM6.out.same (hsc mb (fun e => HM6.out.ne_arr HP6.out e.symm)), ext_setCell HB6.out hpw _, HI.out.news⟩
        · have h1 := (HR6.out.mono (T := fun g => w.heap.size ≤ g) (fun g hg _ => by
            rcases hg with hg | hg
            · exact hg
            · have := HB5.out.size; omega)).keep1 (hsc ga (Ne.symm HPG.out))
          refine ⟨?_, h1.block⟩
          have h2 := h1.own
          rw [flat_congr (d := fun i => [.slice (some ⟨setL ad k wr.heap.size i, 0, none⟩) s (setL cp k s i)]) (fun i hi => ?_)] at h2
          · exact h2
          · by_cases e : i = k
            · subst e; rw [setL_same, setL_same, setL_same]
            · rw [setL_other _ _ e, setL_other _ _ e, setL_other _ _ e]
        · by_cases e : i = k
          · subst e
            rw [setL_same, setL_same]
            exact ⟨HN6.out.same (hsc _ (hbne HN6.out)), Nat.le_refl _, hwr⟩
          · rw [setL_other _ _ e, setL_other _ _ e]
            have hb := HE6.out i (by omega)
            exact ⟨hb.same (hsc _ (hbne hb)), (HI.out.each i (by omega)).2⟩
        · have hlt : ∀ i, i < k → ad i < wr.heap.size := fun i hi => (HI.out.each i hi).1.lt
          by_cases e1 : i = k <;> by_cases e2 : j = k
          · omega
          · subst e1; rw [setL_same, setL_other _ _ e2] at he; have := hlt j (by omega); omega
          · subst e2; rw [setL_same, setL_other _ _ e1] at he; have := hlt i (by omega); omega
          · rw [setL_other _ _ e1, setL_other _ _ e2] at he; exact HI.out.alone i j (by omega) (by omega) he
      have HF := Lib.hid hf
      clear hf
      go_wp2_with fail
      go_roundw
      case rel => exact ⟨k + 1, _, _, _, by omega, by go_num, HF.out⟩
      case measure => simp [intOf]; omega
    · have h' : ¬ (k : Int) < (n : Int) := by omega
      have hkn : k = n := by omega
      have hd := HI.out
      rw [hkn] at hd
      have hfin : DNew n s w (.returned (.tuple #[.pointer (some ⟨p, 0, none⟩), .int .i64 0])) wr := ⟨p, _, rfl, hd.done HN.out (by rcases HS.out with rfl | rfl <;> omega), fun k hk => hk.1, hd.below⟩
      have HF := Lib.hid hfin
      clear hfin hd hkn
      go_wp2_with fail
      go_ret2
      exact HF.out

end Go.Proofs.YtbnkanehjnepbaaGreatDoor.En
end

/- Layer 6: a disk of which the power can go. -/
section
set_option linter.unusedVariables false
set_option linter.unusedSimpArgs false
namespace Go.Proofs.YtbnkanehjnepbaaGreatDoor.En
open Go.RowKit
open Go.Proofs.YtbnkanehjnepbaaGreatDoor.Oc (Bs bytesV byteV okA okA_some okA_none ClOut)

def dvC (d : Dev) (kp : Nat) : Array Value := #[.pointer (some ⟨kp, 0, none⟩), .bool d.down, .int .i64 d.armed, .int .i64 d.count]
structure DvLies (S : Nat → Prop) (w : World) (p : Nat) (d : Dev) (kp : Nat) (SK : Nat → Prop) : Prop where
  own : Arr w p 27 (dvC d kp)
  disk : DkIn kp d.dk SK w
  foot : S p ∧ ∀ k, SK k → S k ∧ k ≠ p
  lt : ∀ k, S k → k < w.heap.size
  arm : -1 ≤ d.armed ∧ d.armed ≤ 9223372036854775807
def DvIn (p : Nat) (d : Dev) (S : Nat → Prop) (w : World) : Prop := ∃ kp SK, DvLies S w p d kp SK
theorem DvIn_loc (p : Nat) (d : Dev) : Loc (DvIn p d) := by
  refine ⟨fun ⟨_, _, h⟩ => h.lt, fun {S w w'} ⟨kp, SK, h⟩ hz hk => ⟨kp, SK, ?_⟩, fun {S T w} ⟨kp, SK, h⟩ hST hT => ⟨kp, SK, ?_⟩⟩
  · exact ⟨(hk p h.foot.1).trans h.own, (DkIn_loc kp d.dk).same h.disk hz (fun k hs => hk k (h.foot.2 k hs).1), h.foot, fun k hs => Nat.lt_of_lt_of_le (h.lt k hs) hz, h.arm⟩
  · exact ⟨h.own, h.disk, ⟨hST _ h.foot.1, fun k hs => ⟨hST _ (h.foot.2 k hs).1, (h.foot.2 k hs).2⟩⟩, hT, h.arm⟩
/-- its own cells have turned -/
theorem DvLies.turn {S : Nat → Prop} {w w' : World} {p kp : Nat} {d d' : Dev} {SK : Nat → Prop} (h : DvLies S w p d kp SK) (ht : Tch (· = p) w w') (ho : Arr w' p 27 (dvC d' kp)) (hd : d'.dk = d.dk) (ha : -1 ≤ d'.armed ∧ d'.armed ≤ 9223372036854775807) : DvLies S w' p d' kp SK :=
  ⟨ho, by rw [hd]; exact (DkIn_loc kp d.dk).tch h.disk ht (fun k hs => (h.foot.2 k hs).2), h.foot, fun k hs => Nat.lt_of_lt_of_le (h.lt k hs) ht.size, ha⟩
/-- its disk has turned -/
theorem DvLies.step {S : Nat → Prop} {w w' : World} {p kp : Nat} {d : Dev} {SK : Nat → Prop} {k' : Dk} (h : DvLies S w p d kp SK) (ht : Tch SK w w') (hd : DkIn kp k' (Gr SK w w') w') : DvLies (Gr S w w') w' p { d with dk := k' } kp (Gr SK w w') :=
  ⟨ht.arr h.own (fun e => (h.foot.2 p e).2 rfl), hd, ⟨.inl h.foot.1, fun k hs => by
    rcases hs with hs | hs
    · exact ⟨.inl (h.foot.2 k hs).1, (h.foot.2 k hs).2⟩
    · exact ⟨.inr hs, fun e => by have := h.own.lt; omega⟩⟩, fun k hs => by
    rcases hs with hs | hs
    · exact Nat.lt_of_lt_of_le (h.lt k hs) ht.size
    · exact hs.2, h.arm⟩
-- power.Device.none
set_option maxRecDepth 100000 in
set_option maxHeartbeats 1000000 in
theorem Pnone_in (p kp : Nat) (w : World) (h : w.cell? ⟨p, 0, none⟩ = some (.pointer (some ⟨kp, 0, none⟩))) : Calls Tryz.prog 84 #[.pointer (some ⟨p, 0, none⟩)] w fun e w' => e = .returned (.bool false) ∧ w' = w := by
  go_enter Tryz.func84, Tryz.ntmps84
  go_wp2_with fail
  go_ret
  exact ⟨rfl, rfl⟩
theorem wrapE (x : Int) : IntKind.i64.wrap x = wrap64 x := by rw [IntKind.wrap_i64]; unfold wrap64; rfl
-- power.Device.made
def MdOut (p kp : Nat) (d : Dev) (w : World) (e : Ending) (w' : World) : Prop := e = .returned (.int .i64 (if d.op.1 = true then 0 else 60)) ∧ Arr w' p 27 (dvC d.op.2 kp) ∧ Tch (· = p) w w'
set_option maxRecDepth 100000 in
set_option maxHeartbeats 2000000 in
theorem made_off (p kp : Nat) (d : Dev) (w : World) (h : Arr w p 27 (dvC d kp)) (hd : d.down = true) : Calls Tryz.prog 190 #[.pointer (some ⟨p, 0, none⟩)] w (MdOut p kp d w) := by
  have x0 : w.cell? ⟨p, 0, none⟩ = some (.pointer (some ⟨kp, 0, none⟩)) := h.cell 0
  have x1 : w.cell? ⟨p, 1, none⟩ = some (.bool true) := by rw [← hd]; exact h.cell 1
  have ho : d.op = (false, d) := by unfold Dev.op; rw [if_pos hd]
  have hf : MdOut p kp d w (.returned (.int .i64 60)) w := by unfold MdOut; rw [ho]; exact ⟨rfl, h, Tch.refl _ _⟩
  have HF := Lib.hid hf
  clear h hd ho hf
  go_enter Tryz.func190, Tryz.ntmps190
  go_wp2_with fail
  refine (Pnone_in p kp w x0).mono ?_
  rintro e w1 ⟨rfl, hw⟩
  rw [hw]
  clear hw w1
  go_wp2_with fail
  go_ret
  exact HF.out
set_option maxRecDepth 100000 in
set_option maxHeartbeats 2000000 in
theorem made_goes (p kp : Nat) (d : Dev) (w : World) (h : Arr w p 27 (dvC d kp)) (hd : d.down = false) (ha : d.armed = 0) : Calls Tryz.prog 190 #[.pointer (some ⟨p, 0, none⟩)] w (MdOut p kp d w) := by
  have x0 : w.cell? ⟨p, 0, none⟩ = some (.pointer (some ⟨kp, 0, none⟩)) := h.cell 0
  have x1 : w.cell? ⟨p, 1, none⟩ = some (.bool false) := by rw [← hd]; exact h.cell 1
  have x2 : w.cell? ⟨p, 2, none⟩ = some (.int .i64 0) := by rw [← ha]; exact h.cell 2
  have m1 := h.mark 1
  have m2 := h.mark 2
  have ho : d.op = (false, { d with down := true, armed := -1 }) := by unfold Dev.op; rw [if_neg (by rw [hd]; simp), if_pos ha]
  have hf : MdOut p kp d w (.returned (.int .i64 60)) ((w.setCell ⟨p, 1, none⟩ (.bool true)).setCell ⟨p, 2, none⟩ (.int .i64 (-1))) := by
    unfold MdOut; rw [ho]
    exact ⟨rfl, by simpa [dvC] using (h.put 1 (.bool true)).put 2 (.int .i64 (-1)), (Tch.at w p 1 _).at2 2 _⟩
  have HF := Lib.hid hf
  clear h hd ho hf ha
  go_enter Tryz.func190, Tryz.ntmps190
  go_wp2_with fail
  refine (Pnone_in p kp w x0).mono ?_
  rintro e w1 ⟨rfl, hw⟩
  rw [hw]
  clear hw w1
  go_wp2_with fail
  go_ret
  exact HF.out
set_option maxRecDepth 100000 in
set_option maxHeartbeats 2000000 in
theorem made_armed (p kp : Nat) (d : Dev) (w : World) (h : Arr w p 27 (dvC d kp)) (hd : d.down = false) (ha : 0 < d.armed) (ha2 : d.armed ≤ 9223372036854775807) : Calls Tryz.prog 190 #[.pointer (some ⟨p, 0, none⟩)] w (MdOut p kp d w) := by
  have x0 : w.cell? ⟨p, 0, none⟩ = some (.pointer (some ⟨kp, 0, none⟩)) := h.cell 0
  have x1 : w.cell? ⟨p, 1, none⟩ = some (.bool false) := by rw [← hd]; exact h.cell 1
  have x2 : w.cell? ⟨p, 2, none⟩ = some (.int .i64 d.armed) := h.cell 2
  have x3 : w.cell? ⟨p, 3, none⟩ = some (.int .i64 d.count) := h.cell 3
  have m2 := h.mark 2
  have m3 := h.mark 3
  have hq : (d.armed == 0) = false := by simp; omega
  have ho : d.op = (true, { d with armed := d.armed - 1, count := IntKind.i64.wrap (d.count + 1) }) := by unfold Dev.op; rw [if_neg (by rw [hd]; simp), if_neg (by omega), if_pos ha]
  obtain ⟨c1, hc1⟩ : ∃ c1, IntKind.i64.wrap (d.count + 1) = c1 := ⟨_, rfl⟩
  have hf : ∀ W : World, W = (w.setCell ⟨p, 2, none⟩ (.int .i64 (d.armed - 1))).setCell ⟨p, 3, none⟩ (.int .i64 c1) → MdOut p kp d w (.returned (.int .i64 0)) W := by
    rintro W rfl
    unfold MdOut; rw [ho]
    exact ⟨rfl, by simpa [dvC, hc1] using (h.put 2 (.int .i64 (d.armed - 1))).put 3 (.int .i64 c1), (Tch.at w p 2 _).at2 3 _⟩
  have HF := Lib.hid hf; have HC := Lib.hid hc1
  clear h hd ho hf hc1
  go_enter Tryz.func190, Tryz.ntmps190
  go_wp2_with fail
  refine (Pnone_in p kp w x0).mono ?_
  rintro e w1 ⟨rfl, hw⟩
  rw [hw]
  clear hw w1
  go_wp2_with fail
  go_ret
  exact HF.out _ (by rw [← HC.out, wrapE])
set_option maxRecDepth 100000 in
set_option maxHeartbeats 2000000 in
theorem made_free (p kp : Nat) (d : Dev) (w : World) (h : Arr w p 27 (dvC d kp)) (hd : d.down = false) (ha : d.armed < 0) : Calls Tryz.prog 190 #[.pointer (some ⟨p, 0, none⟩)] w (MdOut p kp d w) := by
  have x0 : w.cell? ⟨p, 0, none⟩ = some (.pointer (some ⟨kp, 0, none⟩)) := h.cell 0
  have x1 : w.cell? ⟨p, 1, none⟩ = some (.bool false) := by rw [← hd]; exact h.cell 1
  have x2 : w.cell? ⟨p, 2, none⟩ = some (.int .i64 d.armed) := h.cell 2
  have x3 : w.cell? ⟨p, 3, none⟩ = some (.int .i64 d.count) := h.cell 3
  have m3 := h.mark 3
  have hq : (d.armed == 0) = false := by simp; omega
  have hn : ¬ 0 < d.armed := by omega
  have ho : d.op = (true, { d with count := IntKind.i64.wrap (d.count + 1) }) := by unfold Dev.op; rw [if_neg (by rw [hd]; simp), if_neg (by omega), if_neg hn]
  obtain ⟨c1, hc1⟩ : ∃ c1, IntKind.i64.wrap (d.count + 1) = c1 := ⟨_, rfl⟩
  have hf : ∀ W : World, W = w.setCell ⟨p, 3, none⟩ (.int .i64 c1) → MdOut p kp d w (.returned (.int .i64 0)) W := by
    rintro W rfl
    unfold MdOut; rw [ho]
    exact ⟨rfl, by simpa [dvC, hc1] using h.put 3 (.int .i64 c1), Tch.at w p 3 _⟩
  have HF := Lib.hid hf; have HC := Lib.hid hc1
  clear h hd ho hf hc1
  go_enter Tryz.func190, Tryz.ntmps190
  go_wp2_with fail
  refine (Pnone_in p kp w x0).mono ?_
  rintro e w1 ⟨rfl, hw⟩
  rw [hw]
  clear hw w1
  go_wp2_with fail
  go_ret
  exact HF.out _ (by rw [← HC.out, wrapE])
theorem made_in (p kp : Nat) (d : Dev) (w : World) (h : Arr w p 27 (dvC d kp)) (ha : d.armed ≤ 9223372036854775807) : Calls Tryz.prog 190 #[.pointer (some ⟨p, 0, none⟩)] w (MdOut p kp d w) := by
  cases hd : d.down with
  | true => exact made_off p kp d w h hd
  | false =>
    rcases Int.lt_trichotomy d.armed 0 with h1 | h1 | h1
    · exact made_free p kp d w h hd h1
    · exact made_goes p kp d w h hd h1
    · exact made_armed p kp d w h hd h1 ha

end Go.Proofs.YtbnkanehjnepbaaGreatDoor.En
end

/- Layer 6: the device's operations. -/
section
set_option linter.unusedVariables false
set_option linter.unusedSimpArgs false
namespace Go.Proofs.YtbnkanehjnepbaaGreatDoor.En
open Go.RowKit
open Go.Proofs.YtbnkanehjnepbaaGreatDoor.Oc (Bs bytesV byteV okA okA_some okA_none ClOut)

theorem Dev.op_dk (d : Dev) : d.op.2.dk = d.dk := by unfold Dev.op; split; rfl; split <;> rfl
theorem Dev.op_arm (d : Dev) (h : -1 ≤ d.armed ∧ d.armed ≤ 9223372036854775807) : -1 ≤ d.op.2.armed ∧ d.op.2.armed ≤ 9223372036854775807 := by
  unfold Dev.op
  split
  · exact h
  · split
    · simp
    · simp only
      split <;> omega
theorem DvIn.lift {p : Nat} {d : Dev} {S : Nat → Prop} {w w1 w2 : World} (h : DvIn p d (Gr S w1 w2) w2) (hS : ∀ k, S k → k < w.heap.size) (h1 : w.heap.size ≤ w1.heap.size) (h2 : w1.heap.size ≤ w2.heap.size) : DvIn p d (Gr S w w2) w2 :=
  (DvIn_loc p d).mono h (fun k hk => by rcases hk with hk | hk; exact .inl hk; exact .inr ⟨by omega, hk.2⟩) (fun k hk => by rcases hk with hk | hk; exact Nat.lt_of_lt_of_le (hS k hk) (by omega); exact hk.2)
/-- the operation is made: the world behind it -/
theorem made_step {p kp : Nat} {d : Dev} {S SK : Nat → Prop} {w w1 : World} {e : Ending} (h : DvLies S w p d kp SK) (ho : MdOut p kp d w e w1) : e = .returned (.int .i64 (if d.op.1 = true then 0 else 60)) ∧ DvLies S w1 p d.op.2 kp SK ∧ Tch S w w1 :=
  ⟨ho.1, h.turn ho.2.2 ho.2.1 d.op_dk (d.op_arm h.arm), ho.2.2.mono fun k _ hk => hk ▸ h.foot.1⟩
-- power.Device.Write
set_option maxRecDepth 100000 in
set_option maxHeartbeats 2000000 in
theorem PWrite_in {p : Nat} {d : Dev} {S : Nat → Prop} {w : World} (h : DvIn p d S w) (at_ : Int) (b : By) (A : Option Addr) (c : Nat) (hB : Bs w A b) (hA : okA A) (hAS : ∀ g off, A = some ⟨g, off, none⟩ → ¬ S g) (hrow : d.dk.row.length < 1000000) :
    Calls Tryz.prog 133 #[.pointer (some ⟨p, 0, none⟩), .int .i64 at_, .slice A b.length c] w fun e w' => e = .returned (.int .i64 (d.write at_ b).1) ∧ DvIn p (d.write at_ b).2 (Gr S w w') w' ∧ Tch S w w' := by
  have L := DvIn_loc p
  have HS := Lib.hid (fun k hk => (L d).lt h k hk)
  obtain ⟨kp, SK, h⟩ := h
  have HM := Lib.hid (made_in p kp d w h.own h.arm.2)
  have HH := Lib.hid h; have HB := Lib.hid hB; have HA := Lib.hid hA; have HAS := Lib.hid hAS; have HL := Lib.hid L
  clear h hB hA hAS L
  cases hop : d.op.1 with
  | false =>
    have hw : d.write at_ b = (60, d.op.2) := by unfold Dev.write; rw [if_neg (by rw [hop]; simp)]
    rw [hw]
    have HOP := Lib.hid hop
    clear hop hw
    go_enter Tryz.func133, Tryz.ntmps133
    go_wp2_with fail
    refine HM.out.mono ?_
    rintro e w1 ho
    obtain ⟨he, hd, ht⟩ := made_step HH.out ho
    rw [HOP.out] at he
    subst he
    have HF := Lib.hid (show DvIn p d.op.2 (Gr S w w1) w1 ∧ Tch S w w1 from ⟨(HL.out _).toGr ⟨kp, SK, hd⟩ HS.out ht.size, ht⟩)
    clear ho hd ht
    go_wp2_with fail
    go_ret
    exact ⟨rfl, HF.out⟩
  | true =>
    have hw : d.write at_ b = ((d.op.2.dk.write at_ b).1, { d.op.2 with dk := (d.op.2.dk.write at_ b).2 }) := by unfold Dev.write; rw [if_pos hop]
    rw [hw]
    have HOP := Lib.hid hop
    clear hop hw
    go_enter Tryz.func133, Tryz.ntmps133
    go_wp2_with fail
    refine HM.out.mono ?_
    rintro e w1 ho
    obtain ⟨he, hd, ht⟩ := made_step HH.out ho
    rw [HOP.out] at he
    subst he
    have y0 : w1.cell? ⟨p, 0, none⟩ = some (.pointer (some ⟨kp, 0, none⟩)) := hd.own.cell 0
    have hB1 := HB.out.tch ht (fun g off e _ => HAS.out g off e)
    have HWR := Lib.hid (Write_in hd.disk at_ b A c hB1 HA.out (by rw [d.op_dk]; exact hrow))
    have HD := Lib.hid hd; have HT := Lib.hid ht
    clear ho hd ht hB1
    go_wp2_with fail
    refine HWR.out.mono ?_
    rintro e w2 ⟨rfl, hk, ht2⟩
    have hd2 := HD.out.step ht2 hk
    have HF := Lib.hid (show DvIn p { d.op.2 with dk := (d.op.2.dk.write at_ b).2 } (Gr S w w2) w2 ∧ Tch S w w2 from ⟨DvIn.lift ⟨kp, _, hd2⟩ HS.out HT.out.size ht2.size, HT.out.trans (ht2.mono fun k _ hk => (HD.out.foot.2 k hk).1)⟩)
    clear hk ht2 hd2 HWR
    go_wp2_with fail
    go_ret
    exact ⟨rfl, HF.out⟩
-- power.Device.Sync
set_option maxRecDepth 100000 in
set_option maxHeartbeats 2000000 in
theorem PSync_in {p : Nat} {d : Dev} {S : Nat → Prop} {w : World} (h : DvIn p d S w) (hrow : d.dk.row.length ≤ 1000000) :
    Calls Tryz.prog 134 #[.pointer (some ⟨p, 0, none⟩)] w fun e w' => e = .returned (.int .i64 d.sync.1) ∧ DvIn p d.sync.2 (Gr S w w') w' ∧ Tch S w w' := by
  have L := DvIn_loc p
  have HS := Lib.hid (fun k hk => (L d).lt h k hk)
  obtain ⟨kp, SK, h⟩ := h
  have HM := Lib.hid (made_in p kp d w h.own h.arm.2)
  have HH := Lib.hid h; have HL := Lib.hid L
  clear h L
  cases hop : d.op.1 with
  | false =>
    have hw : d.sync = (60, d.op.2) := by unfold Dev.sync; rw [if_neg (by rw [hop]; simp)]
    rw [hw]
    have HOP := Lib.hid hop
    clear hop hw
    go_enter Tryz.func134, Tryz.ntmps134
    go_wp2_with fail
    refine HM.out.mono ?_
    rintro e w1 ho
    obtain ⟨he, hd, ht⟩ := made_step HH.out ho
    rw [HOP.out] at he
    subst he
    have HF := Lib.hid (show DvIn p d.op.2 (Gr S w w1) w1 ∧ Tch S w w1 from ⟨(HL.out _).toGr ⟨kp, SK, hd⟩ HS.out ht.size, ht⟩)
    clear ho hd ht
    go_wp2_with fail
    go_ret
    exact ⟨rfl, HF.out⟩
  | true =>
    have hw : d.sync = (0, { d.op.2 with dk := d.op.2.dk.settle (fun _ => d.op.2.dk.size) }) := by unfold Dev.sync; rw [if_pos hop, d.op_dk]
    rw [hw]
    have HOP := Lib.hid hop
    clear hop hw
    go_enter Tryz.func134, Tryz.ntmps134
    go_wp2_with fail
    refine HM.out.mono ?_
    rintro e w1 ho
    obtain ⟨he, hd, ht⟩ := made_step HH.out ho
    rw [HOP.out] at he
    subst he
    have y0 : w1.cell? ⟨p, 0, none⟩ = some (.pointer (some ⟨kp, 0, none⟩)) := hd.own.cell 0
    have HWR := Lib.hid (Sync_in hd.disk (by rw [d.op_dk]; exact hrow))
    have HD := Lib.hid hd; have HT := Lib.hid ht
    clear ho hd ht
    go_wp2_with fail
    refine HWR.out.mono ?_
    rintro e w2 ⟨rfl, hk, ht2⟩
    have hd2 := HD.out.step ht2 hk
    have HF := Lib.hid (show DvIn p { d.op.2 with dk := d.op.2.dk.settle (fun _ => d.op.2.dk.size) } (Gr S w w2) w2 ∧ Tch S w w2 from ⟨DvIn.lift ⟨kp, _, hd2⟩ HS.out HT.out.size ht2.size, HT.out.trans (ht2.mono fun k _ hk => (HD.out.foot.2 k hk).1)⟩)
    clear hk ht2 hd2 HWR
    go_wp2_with fail
    go_ret
    exact ⟨rfl, HF.out⟩
-- power.Device.Read
def PRd (S : Nat → Prop) (p : Nat) (r : Int × By × Dev) (w : World) (e : Ending) (w' : World) : Prop :=
  (∃ A c, e = .returned (.tuple #[.slice A r.2.1.length c, .int .i64 r.1]) ∧ (r.2.1 ≠ [] → ∃ g, A = some ⟨g, 0, none⟩ ∧ w.heap.size ≤ g ∧ Blk w' 5 g r.2.1) ∧ r.2.1.length ≤ c) ∧ DvIn p r.2.2 S w' ∧ Tch S w w'
set_option maxRecDepth 100000 in
set_option maxHeartbeats 2000000 in
theorem PRead_in {p : Nat} {d : Dev} {S : Nat → Prop} {w : World} (h : DvIn p d S w) (at_ : Int) : Calls Tryz.prog 131 #[.pointer (some ⟨p, 0, none⟩), .int .i64 at_] w (PRd S p (d.read at_) w) := by
  obtain ⟨kp, SK, h⟩ := h
  have HM := Lib.hid (made_in p kp d w h.own h.arm.2)
  have HH := Lib.hid h
  clear h
  cases hop : d.op.1 with
  | false =>
    have hw : d.read at_ = (60, [], d.op.2) := by unfold Dev.read; rw [if_neg (by rw [hop]; simp)]
    rw [hw]
    have HOP := Lib.hid hop
    clear hop hw
    go_enter Tryz.func131, Tryz.ntmps131
    go_wp2_with fail
    refine HM.out.mono ?_
    rintro e w1 ho
    obtain ⟨he, hd, ht⟩ := made_step HH.out ho
    rw [HOP.out] at he
    subst he
    have HF := Lib.hid (show DvIn p d.op.2 S w1 ∧ Tch S w w1 from ⟨⟨kp, SK, hd⟩, ht⟩)
    clear ho hd ht
    go_wp2_with fail
    go_ret2
    exact ⟨⟨none, 0, rfl, fun h => absurd rfl h, Nat.le_refl _⟩, HF.out⟩
  | true =>
    have hw : d.read at_ = ((d.op.2.dk.read at_).1, (d.op.2.dk.read at_).2, d.op.2) := by unfold Dev.read; rw [if_pos hop]
    rw [hw]
    have HOP := Lib.hid hop
    clear hop hw
    go_enter Tryz.func131, Tryz.ntmps131
    go_wp2_with fail
    refine HM.out.mono ?_
    rintro e w1 ho
    obtain ⟨he, hd, ht⟩ := made_step HH.out ho
    rw [HOP.out] at he
    subst he
    have y0 : w1.cell? ⟨p, 0, none⟩ = some (.pointer (some ⟨kp, 0, none⟩)) := hd.own.cell 0
    have HWR := Lib.hid (Read_in hd.disk at_)
    have HD := Lib.hid hd; have HT := Lib.hid ht
    clear ho hd ht
    go_wp2_with fail
    refine HWR.out.mono ?_
    rintro e w2 ⟨A, c, rfl, h1, h2, h3⟩
    have hf : PRd S p ((d.op.2.dk.read at_).1, (d.op.2.dk.read at_).2, d.op.2) w (.returned (.tuple #[.slice A (d.op.2.dk.read at_).2.length c, .int .i64 (d.op.2.dk.read at_).1])) w2 :=
      ⟨⟨A, c, rfl, fun hne => by obtain ⟨g, a, b, x⟩ := h1 hne; exact ⟨g, a, Nat.le_trans HT.out.size b, x⟩, h2⟩, (DvIn_loc p d.op.2).below ⟨kp, SK, HD.out⟩ h3, HT.out.below h3⟩
    have HF := Lib.hid hf
    clear h1 h2 h3 HWR hf
    go_wp2_with fail
    go_ret2
    exact HF.out

end Go.Proofs.YtbnkanehjnepbaaGreatDoor.En
end

/- Layer 6: what the device tells; Arm, Restart, New. -/
section
set_option linter.unusedVariables false
set_option linter.unusedSimpArgs false
namespace Go.Proofs.YtbnkanehjnepbaaGreatDoor.En
open Go.RowKit
open Go.Proofs.YtbnkanehjnepbaaGreatDoor.Oc (Bs bytesV byteV okA okA_some okA_none ClOut)

-- power.Device.Sectors
set_option maxRecDepth 100000 in
set_option maxHeartbeats 1000000 in
theorem PSectors_in {p : Nat} {d : Dev} {S : Nat → Prop} {w : World} (h : DvIn p d S w) : Calls Tryz.prog 107 #[.pointer (some ⟨p, 0, none⟩)] w fun e w' => e = .returned (.int .i64 d.dk.dur.length) ∧ w' = w := by
  obtain ⟨kp, SK, h⟩ := h
  have x0 : w.cell? ⟨p, 0, none⟩ = some (.pointer (some ⟨kp, 0, none⟩)) := h.own.cell 0
  obtain ⟨q, hq⟩ := h.disk
  have HS := Lib.hid (Sectors_in hq)
  clear h hq
  go_enter Tryz.func107, Tryz.ntmps107
  go_wp2_with fail
  refine (Pnone_in p kp w x0).mono ?_
  rintro e w1 ⟨rfl, hw⟩
  rw [hw]
  clear hw w1
  go_wp2_with fail
  refine HS.out.mono ?_
  rintro e w1 ⟨rfl, hw⟩
  rw [hw]
  clear hw w1
  go_wp2_with fail
  go_ret
  exact ⟨rfl, rfl⟩
-- power.Device.Size
set_option maxRecDepth 100000 in
set_option maxHeartbeats 1000000 in
theorem PSize_in {p : Nat} {d : Dev} {S : Nat → Prop} {w : World} (h : DvIn p d S w) : Calls Tryz.prog 108 #[.pointer (some ⟨p, 0, none⟩)] w fun e w' => e = .returned (.int .i64 d.dk.size) ∧ w' = w := by
  obtain ⟨kp, SK, h⟩ := h
  have x0 : w.cell? ⟨p, 0, none⟩ = some (.pointer (some ⟨kp, 0, none⟩)) := h.own.cell 0
  obtain ⟨q, hq⟩ := h.disk
  have HS := Lib.hid (Size_in hq)
  clear h hq
  go_enter Tryz.func108, Tryz.ntmps108
  go_wp2_with fail
  refine (Pnone_in p kp w x0).mono ?_
  rintro e w1 ⟨rfl, hw⟩
  rw [hw]
  clear hw w1
  go_wp2_with fail
  refine HS.out.mono ?_
  rintro e w1 ⟨rfl, hw⟩
  rw [hw]
  clear hw w1
  go_wp2_with fail
  go_ret
  exact ⟨rfl, rfl⟩
-- power.Device.Arm
set_option maxRecDepth 100000 in
set_option maxHeartbeats 1000000 in
theorem PArm_in {p : Nat} {d : Dev} {S : Nat → Prop} {w : World} (h : DvIn p d S w) (n : Int) (hn : n ≤ 9223372036854775807) : Calls Tryz.prog 34 #[.pointer (some ⟨p, 0, none⟩), .int .i64 n] w fun e w' => e = .returned (.int .i64 (d.arm n).1) ∧ DvIn p (d.arm n).2 S w' ∧ Tch S w w' := by
  obtain ⟨kp, SK, h⟩ := h
  have x0 : w.cell? ⟨p, 0, none⟩ = some (.pointer (some ⟨kp, 0, none⟩)) := h.own.cell 0
  have m2 := h.own.mark 2
  have x2 : w.cell? ⟨p, 2, none⟩ = some (.int .i64 d.armed) := h.own.cell 2
  have HH := Lib.hid h
  cases hd : d.down with
  | true =>
    have x1 : w.cell? ⟨p, 1, none⟩ = some (.bool true) := by rw [← hd]; exact h.own.cell 1
    have ha : d.arm n = (60, d) := by unfold Dev.arm; rw [if_pos hd]
    rw [ha]
    clear h hd ha
    go_enter Tryz.func34, Tryz.ntmps34
    go_wp2_with fail
    refine (Pnone_in p kp w x0).mono ?_
    rintro e w1 ⟨rfl, hw⟩
    rw [hw]
    clear hw w1
    go_wp2_with fail
    go_ret
    exact ⟨rfl, ⟨kp, SK, HH.out⟩, Tch.refl _ _⟩
  | false =>
    have x1 : w.cell? ⟨p, 1, none⟩ = some (.bool false) := by rw [← hd]; exact h.own.cell 1
    have ha : d.arm n = (0, { d with armed := max n (-1) }) := by unfold Dev.arm; rw [if_neg (by rw [hd]; simp)]
    rw [ha]
    have hf : ∀ m : Int, m = max n (-1) → DvIn p { d with armed := max n (-1) } S (w.setCell ⟨p, 2, none⟩ (.int .i64 m)) ∧ Tch S w (w.setCell ⟨p, 2, none⟩ (.int .i64 m)) := by
      rintro m rfl
      have ht := Tch.at w p 2 (.int .i64 (max n (-1)))
      exact ⟨⟨kp, SK, h.turn ht (by simpa [dvC] using h.own.put 2 (.int .i64 (max n (-1)))) rfl (by simp only; omega)⟩, ht.mono fun k _ hk => hk ▸ h.foot.1⟩
    have HF := Lib.hid hf
    clear h hd ha hf
    go_enter Tryz.func34, Tryz.ntmps34
    go_wp2_with fail
    refine (Pnone_in p kp w x0).mono ?_
    rintro e w1 ⟨rfl, hw⟩
    rw [hw]
    clear hw w1
    go_wp2_with fail
    all_goals (go_ret; exact ⟨rfl, HF.out _ (by omega)⟩)
-- power.New
set_option maxRecDepth 100000 in
set_option maxHeartbeats 1000000 in
theorem PNew_in {kp : Nat} {k : Dk} {S : Nat → Prop} {w : World} (h : DkIn kp k S w) : Calls Tryz.prog 32 #[.pointer (some ⟨kp, 0, none⟩)] w fun e w' => ∃ p, e = .returned (.tuple #[.pointer (some ⟨p, 0, none⟩), .int .i64 0]) ∧ DvIn p ⟨k, false, -1, 0⟩ (Gr S w w') w' ∧ w.heap.size ≤ p ∧ Below w.heap.size w w' := by
  have HL := Lib.hid (DkIn_loc kp k)
  have HS := Lib.hid (fun j hj => (DkIn_loc kp k).lt h j hj)
  have HH := Lib.hid h
  obtain ⟨q, hq⟩ := h
  have HSE := Lib.hid (Sectors_in hq)
  have hn : ((k.dur.length : Int) == 0) = false := by have := hq.ok.some; rw [beq_eq_false_iff_ne]; omega
  have hn2 : (k.dur.length == 0) = false := by have := hq.ok.some; rw [beq_eq_false_iff_ne]; omega
  clear hq
  go_enter Tryz.func32, Tryz.ntmps32
  go_wp2_with fail
  refine HSE.out.mono ?_
  rintro e w1 ⟨rfl, hw⟩
  rw [hw]
  clear hw w1 HSE
  go_wp2_with fail
  go_ret2
  have hb : Below w.heap.size w (w.alloc (.cells #[.pointer (some ⟨kp, 0, none⟩), .bool false, .int .i64 (-1), .int .i64 0] 27)) := ext_alloc (Below.refl _ _) _
  refine ⟨w.heap.size, rfl, ⟨kp, S, ⟨Arr.fresh w _ _, HL.out.below HH.out hb, ⟨.inr ⟨Nat.le_refl _, by simp⟩, fun j hj => ⟨.inl hj, fun e => by have := HS.out j hj; omega⟩⟩, fun j hj => ?_, by simp⟩⟩, Nat.le_refl _, hb⟩
  rcases hj with hj | hj
  · have := HS.out j hj; simp; omega
  · exact hj.2

end Go.Proofs.YtbnkanehjnepbaaGreatDoor.En
end

/- Layer 7: a region: what it tells; the sectors that hold some bytes. -/
section
set_option linter.unusedVariables false
set_option linter.unusedSimpArgs false
namespace Go.Proofs.YtbnkanehjnepbaaGreatDoor.En
open Go.RowKit
open Go.Proofs.YtbnkanehjnepbaaGreatDoor.Oc (Bs bytesV byteV okA okA_some okA_none ClOut)

/-- a region at block r, of the device at block p -/
structure RgAt (w : World) (r p : Nat) (g : Rg) (size : Nat) : Prop where
  own : Arr w r 248 #[.pointer (some ⟨p, 0, none⟩), .int .i64 g.from_, .int .i64 g.count, .int .i64 size]
  size : 1 ≤ size ∧ size ≤ 4096
  count : 1 ≤ g.count ∧ g.from_ + g.count ≤ 65536
theorem RgAt.keep {w w' : World} {r p : Nat} {g : Rg} {size : Nat} (h : RgAt w r p g size) (hb : Below w.heap.size w w') : RgAt w' r p g size := ⟨h.own.keep hb, h.size, h.count⟩
theorem RgAt.tch {S : Nat → Prop} {w w' : World} {r p : Nat} {g : Rg} {size : Nat} (h : RgAt w r p g size) (ht : Tch S w w') (hr : ¬ S r) : RgAt w' r p g size := ⟨ht.arr h.own hr, h.size, h.count⟩
theorem RgAt.bytes_le {w : World} {r p : Nat} {g : Rg} {size : Nat} (h : RgAt w r p g size) : g.bytes size ≤ 268435456 := by
  have h1 := h.size; have h2 := h.count
  unfold Rg.bytes
  calc g.count * size ≤ 65536 * 4096 := Nat.mul_le_mul (by omega) (by omega)
    _ = 268435456 := by decide
set_option maxRecDepth 100000 in
set_option maxHeartbeats 1000000 in
theorem Rmade_in (r p : Nat) (w : World) (h : w.cell? ⟨r, 0, none⟩ = some (.pointer (some ⟨p, 0, none⟩))) : Calls Tryz.prog 127 #[.pointer (some ⟨r, 0, none⟩)] w fun e w' => e = .returned (.bool true) ∧ w' = w := by
  go_enter Tryz.func127, Tryz.ntmps127
  go_wp2_with fail
  go_ret
  exact ⟨rfl, rfl⟩
set_option maxRecDepth 100000 in
set_option maxHeartbeats 1000000 in
theorem Rbytes_in {r p size : Nat} {g : Rg} {w : World} (h : RgAt w r p g size) : Calls Tryz.prog 135 #[.pointer (some ⟨r, 0, none⟩)] w fun e w' => e = .returned (.int .i64 (g.bytes size : Nat)) ∧ Below w.heap.size w w' := by
  have x2 : w.cell? ⟨r, 2, none⟩ = some (.int .i64 g.count) := h.own.cell 2
  have x3 : w.cell? ⟨r, 3, none⟩ = some (.int .i64 size) := h.own.cell 3
  have hb := h.bytes_le
  have e1 : (g.count : Int) * (size : Int) = ((g.bytes size : Nat) : Int) := by unfold Rg.bytes; push_cast; rfl
  have hw : IntKind.i64.wrap ((g.bytes size : Nat) : Int) = ((g.bytes size : Nat) : Int) := IntWalk.i64_in _ (by omega)
  have hb' : ((g.bytes size : Nat) : Int) ≤ 268435456 := by omega
  clear h
  generalize g.bytes size = B at *
  go_enter Tryz.func135, Tryz.ntmps135
  go_wp2_with fail
  go_quiet (fail)
  go_wp2_with fail
  go_ret
  exact ⟨rfl, ext_drewN (Below.refl _ _) _⟩
set_option maxRecDepth 100000 in
set_option maxHeartbeats 1000000 in
theorem RBytes_in {r p size : Nat} {g : Rg} {w : World} (h : RgAt w r p g size) : Calls Tryz.prog 73 #[.pointer (some ⟨r, 0, none⟩)] w fun e w' => e = .returned (.int .i64 (g.bytes size : Nat)) ∧ Below w.heap.size w w' := by
  have x0 : w.cell? ⟨r, 0, none⟩ = some (.pointer (some ⟨p, 0, none⟩)) := h.own.cell 0
  have HB := Lib.hid (Rbytes_in h)
  clear h
  go_enter Tryz.func73, Tryz.ntmps73
  go_wp2_with fail
  refine (Rmade_in r p w x0).mono ?_
  rintro e w1 ⟨rfl, hw⟩
  rw [hw]
  clear hw w1
  go_wp2_with fail
  refine HB.out.mono ?_
  rintro e w1 ⟨rfl, hw⟩
  have HW := Lib.hid hw
  clear hw
  go_wp2_with fail
  go_ret
  exact ⟨rfl, HW.out⟩
set_option maxRecDepth 100000 in
set_option maxHeartbeats 1000000 in
theorem RSize_in {r p size : Nat} {g : Rg} {w : World} (h : RgAt w r p g size) : Calls Tryz.prog 70 #[.pointer (some ⟨r, 0, none⟩)] w fun e w' => e = .returned (.int .i64 size) ∧ w' = w := by
  have x0 : w.cell? ⟨r, 0, none⟩ = some (.pointer (some ⟨p, 0, none⟩)) := h.own.cell 0
  have x3 : w.cell? ⟨r, 3, none⟩ = some (.int .i64 size) := h.own.cell 3
  clear h
  go_enter Tryz.func70, Tryz.ntmps70
  go_wp2_with fail
  refine (Rmade_in r p w x0).mono ?_
  rintro e w1 ⟨rfl, hw⟩
  rw [hw]
  clear hw w1
  go_wp2_with fail
  go_ret
  exact ⟨rfl, rfl⟩
-- region.Region.Sync
set_option maxRecDepth 100000 in
set_option maxHeartbeats 1000000 in
theorem RSync_in {r p size : Nat} {g : Rg} {w : World} {d : Dev} {S : Nat → Prop} (h : RgAt w r p g size) (hD : DvIn p d S w) (hrow : d.dk.row.length ≤ 1000000) : Calls Tryz.prog 72 #[.pointer (some ⟨r, 0, none⟩)] w fun e w' => e = .returned (.int .i64 d.sync.1) ∧ DvIn p d.sync.2 (Gr S w w') w' ∧ Tch S w w' := by
  have x0 : w.cell? ⟨r, 0, none⟩ = some (.pointer (some ⟨p, 0, none⟩)) := h.own.cell 0
  have HS := Lib.hid (PSync_in hD hrow)
  clear h hD
  go_enter Tryz.func72, Tryz.ntmps72
  go_wp2_with fail
  refine (Rmade_in r p w x0).mono ?_
  rintro e w1 ⟨rfl, hw⟩
  rw [hw]
  clear hw w1
  go_wp2_with fail
  refine HS.out.mono ?_
  rintro e w1 ⟨rfl, h1⟩
  have HF := Lib.hid h1
  clear h1
  go_wp2_with fail
  go_ret
  exact ⟨rfl, HF.out⟩
theorem piece_step (size k a m : Nat) (hs : 1 ≤ size) (hm : 1 ≤ m) (hk : m ≤ k + 1) : ∃ s f t d, a / size = s ∧ a % size = f ∧ min size (f + m) = t ∧ t - f = d ∧ f < t ∧ t ≤ size ∧ 1 ≤ d ∧ d ≤ m ∧ m - d ≤ k ∧ pieces size (k + 1) a m = ⟨s, f, t⟩ :: pieces size k (a + d) (m - d) := by
  have hf : a % size < size := Nat.mod_lt _ hs
  refine ⟨_, _, _, _, rfl, rfl, rfl, rfl, by omega, by omega, by omega, by omega, by omega, ?_⟩
  rw [pieces, if_neg (by omega)]
-- region.area.each with (*gangway/region.Region).Read$1
set_option maxRecDepth 100000 in
set_option maxHeartbeats 4000000 in
theorem each_read {r p size : Nat} {g : Rg} (w : World) (lb : Array Value) (at_ n : Nat) (I : List Piece → World → Prop) (Er : Int → World → Prop) (hsz : 1 ≤ size ∧ size ≤ 4096) (hg : g.from_ ≤ 65536) (hn : at_ + n ≤ 268435456)
    (hI : ∀ ps W, I ps W → RgAt W r p g size)
    (hf : ∀ x ps W, I (x :: ps) W → Calls Tryz.prog 176 (#[.int .i64 ((g.from_ + x.s : Nat) : Int), .int .i64 x.f, .int .i64 x.t] ++ lb) W fun e W' => (e = .returned (.int .i64 0) ∧ I ps W') ∨ ∃ er : Int, er ≠ 0 ∧ e = .returned (.int .i64 er) ∧ Er er W')
    (h0 : I (pieces size n at_ n) w) :
    Calls Tryz.prog 129 #[.pointer (some ⟨r, 0, none⟩), .int .i64 at_, .int .i64 n, .func (.func 176) #[] lb] w fun e w' => (e = .returned (.int .i64 0) ∧ I [] w') ∨ ∃ er : Int, er ≠ 0 ∧ e = .returned (.int .i64 er) ∧ Er er w' := by
  have HI := Lib.hid hI; have HF := Lib.hid hf; have H0 := Lib.hid h0
  have hn' : (at_ : Int) + (n : Int) ≤ 268435456 := by omega
  have hs1 : (1 : Int) ≤ (size : Int) := by omega
  have hs2 : (size : Int) ≤ 4096 := by omega
  have hsz0 : ((size : Int) == 0) = false := by rw [beq_eq_false_iff_ne]; omega
  clear hI hf h0
  go_enter Tryz.func129, Tryz.ntmps129
  go_wp2_with fail
  go_loopw [1] (fun a wr => ∃ b m k : Nat, m ≤ k ∧ b + m = at_ + n ∧ a = .int .i64 b ∧ I (pieces size k b m) wr) (fun a _ => (at_ + n - intOf a).toNat)
  case atStart => exact ⟨at_, n, n, Nat.le_refl _, rfl, rfl, H0.out⟩
  case round =>
    obtain ⟨b, m, k, hmk, hbm, rfl, hP⟩ := hrel
    have HP := Lib.hid hP
    clear hP
    rcases Nat.eq_zero_or_pos m with hm0 | hm0
    · subst hm0
      have hlt : ¬ (b : Int) < (at_ : Int) + (n : Int) := by omega
      have hlt2 : ¬ b < at_ + n := by omega
      have hfin : I [] wr := by
        have := HP.out
        cases k with
        | zero => exact this
        | succ k => rwa [pieces, if_pos rfl] at this
      have HFN := Lib.hid hfin
      clear hfin
      go_wp2_with fail
      go_ret
      exact .inl ⟨rfl, HFN.out⟩
    · obtain ⟨k, rfl⟩ : ∃ k', k = k' + 1 := ⟨k - 1, by omega⟩
      obtain ⟨s, f, t, d, e1, e2, e3, e4, hft, hts, hd1, hdm, hmk2, hps⟩ := piece_step size k b m hsz.1 hm0 hmk
      rw [hps] at HP
      have hR := HI.out _ _ HP.out
      have x1 : wr.cell? ⟨r, 1, none⟩ = some (.int .i64 g.from_) := hR.own.cell 1
      have x3 : wr.cell? ⟨r, 3, none⟩ = some (.int .i64 size) := hR.own.cell 3
      have hlt : (b : Int) < (at_ : Int) + (n : Int) := by omega
      have q1 : (b : Int).tdiv (size : Int) = (s : Int) := by rw [Int.tdiv_eq_ediv_of_nonneg (by omega), ← e1]; simp
      have q2 : (b : Int).tmod (size : Int) = (f : Int) := by rw [Int.tmod_eq_emod_of_nonneg (by omega), ← e2]; simp
      have q1' : (b : Int) / (size : Int) = (s : Int) := by rw [← e1]; simp
      have q2' : (b : Int) % (size : Int) = (f : Int) := by rw [← e2]; simp
      have hb0 : (0 : Int) ≤ (b : Int) := by omega
      have hsb : s ≤ b := by rw [← e1]; exact Nat.div_le_self _ _
      have hsb' : (s : Int) ≤ (b : Int) := by omega
      have hfl : (f : Int) < (size : Int) := by omega
      have hg' : (g.from_ : Int) ≤ 65536 := by omega
      clear hR
      by_cases hc : f + m < size
      · have htm : t = f + m := by omega
        have e5 : (f : Int) + ((at_ : Int) + (n : Int)) - (b : Int) = (t : Int) := by omega
        have hlt5 : (t : Int) < (size : Int) := by omega
        clear hc
        go_wp2_with fail
        have HG := HF.out ⟨s, f, t⟩ _ wr HP.out
        simp only [htm, Int.natCast_add] at HG
        refine HG.mono ?_
        clear HG
        rintro e w1 hor
        rcases hor with ⟨rfl, hI1⟩ | ⟨er, her, rfl, hE1⟩
        · have HI1 := Lib.hid hI1
          clear hI1
          go_wp2_with fail
          go_roundw
          case rel => exact ⟨b + d, m - d, k, hmk2, by omega, by go_num, HI1.out⟩
          case measure => simp [intOf]; omega
        · have hq : (er == 0) = false := by simp [her]
          have HE1 := Lib.hid hE1; have HER := Lib.hid her
          clear hE1 her
          go_wp2_with fail
          go_ret
          exact .inr ⟨er, HER.out, rfl, HE1.out⟩
      · have htm : t = size := by omega
        have hlt5 : ¬ (f : Int) + ((at_ : Int) + (n : Int)) - (b : Int) < (size : Int) := by omega
        clear hc
        subst htm
        go_wp2_with fail
        have HG := HF.out ⟨s, f, t⟩ _ wr HP.out
        simp only [Int.natCast_add] at HG
        refine HG.mono ?_
        clear HG
        rintro e w1 hor
        rcases hor with ⟨rfl, hI1⟩ | ⟨er, her, rfl, hE1⟩
        · have HI1 := Lib.hid hI1
          clear hI1
          go_wp2_with fail
          go_roundw
          case rel => exact ⟨b + d, m - d, k, hmk2, by omega, by go_num, HI1.out⟩
          case measure => simp [intOf]; omega
        · have hq : (er == 0) = false := by simp [her]
          have HE1 := Lib.hid hE1; have HER := Lib.hid her
          clear hE1 her
          go_wp2_with fail
          go_ret
          exact .inr ⟨er, HER.out, rfl, HE1.out⟩
-- region.area.each with (*gangway/region.Region).Write$1
set_option maxRecDepth 100000 in
set_option maxHeartbeats 4000000 in
theorem each_write {r p size : Nat} {g : Rg} (w : World) (lb : Array Value) (at_ n : Nat) (I : List Piece → World → Prop) (Er : Int → World → Prop) (hsz : 1 ≤ size ∧ size ≤ 4096) (hg : g.from_ ≤ 65536) (hn : at_ + n ≤ 268435456)
    (hI : ∀ ps W, I ps W → RgAt W r p g size)
    (hf : ∀ x ps W, I (x :: ps) W → Calls Tryz.prog 130 (#[.int .i64 ((g.from_ + x.s : Nat) : Int), .int .i64 x.f, .int .i64 x.t] ++ lb) W fun e W' => (e = .returned (.int .i64 0) ∧ I ps W') ∨ ∃ er : Int, er ≠ 0 ∧ e = .returned (.int .i64 er) ∧ Er er W')
    (h0 : I (pieces size n at_ n) w) :
    Calls Tryz.prog 129 #[.pointer (some ⟨r, 0, none⟩), .int .i64 at_, .int .i64 n, .func (.func 130) #[] lb] w fun e w' => (e = .returned (.int .i64 0) ∧ I [] w') ∨ ∃ er : Int, er ≠ 0 ∧ e = .returned (.int .i64 er) ∧ Er er w' := by
  have HI := Lib.hid hI; have HF := Lib.hid hf; have H0 := Lib.hid h0
  have hn' : (at_ : Int) + (n : Int) ≤ 268435456 := by omega
  have hs1 : (1 : Int) ≤ (size : Int) := by omega
  have hs2 : (size : Int) ≤ 4096 := by omega
  have hsz0 : ((size : Int) == 0) = false := by rw [beq_eq_false_iff_ne]; omega
  clear hI hf h0
  go_enter Tryz.func129, Tryz.ntmps129
  go_wp2_with fail
  go_loopw [1] (fun a wr => ∃ b m k : Nat, m ≤ k ∧ b + m = at_ + n ∧ a = .int .i64 b ∧ I (pieces size k b m) wr) (fun a _ => (at_ + n - intOf a).toNat)
  case atStart => exact ⟨at_, n, n, Nat.le_refl _, rfl, rfl, H0.out⟩
  case round =>
    obtain ⟨b, m, k, hmk, hbm, rfl, hP⟩ := hrel
    have HP := Lib.hid hP
    clear hP
    rcases Nat.eq_zero_or_pos m with hm0 | hm0
    · subst hm0
      have hlt : ¬ (b : Int) < (at_ : Int) + (n : Int) := by omega
      have hlt2 : ¬ b < at_ + n := by omega
      have hfin : I [] wr := by
        have := HP.out
        cases k with
        | zero => exact this
        | succ k => rwa [pieces, if_pos rfl] at this
      have HFN := Lib.hid hfin
      clear hfin
      go_wp2_with fail
      go_ret
      exact .inl ⟨rfl, HFN.out⟩
    · obtain ⟨k, rfl⟩ : ∃ k', k = k' + 1 := ⟨k - 1, by omega⟩
      obtain ⟨s, f, t, d, e1, e2, e3, e4, hft, hts, hd1, hdm, hmk2, hps⟩ := piece_step size k b m hsz.1 hm0 hmk
      rw [hps] at HP
      have hR := HI.out _ _ HP.out
      have x1 : wr.cell? ⟨r, 1, none⟩ = some (.int .i64 g.from_) := hR.own.cell 1
      have x3 : wr.cell? ⟨r, 3, none⟩ = some (.int .i64 size) := hR.own.cell 3
      have hlt : (b : Int) < (at_ : Int) + (n : Int) := by omega
      have q1 : (b : Int).tdiv (size : Int) = (s : Int) := by rw [Int.tdiv_eq_ediv_of_nonneg (by omega), ← e1]; simp
      have q2 : (b : Int).tmod (size : Int) = (f : Int) := by rw [Int.tmod_eq_emod_of_nonneg (by omega), ← e2]; simp
      have q1' : (b : Int) / (size : Int) = (s : Int) := by rw [← e1]; simp
      have q2' : (b : Int) % (size : Int) = (f : Int) := by rw [← e2]; simp
      have hb0 : (0 : Int) ≤ (b : Int) := by omega
      have hsb : s ≤ b := by rw [← e1]; exact Nat.div_le_self _ _
      have hsb' : (s : Int) ≤ (b : Int) := by omega
      have hfl : (f : Int) < (size : Int) := by omega
      have hg' : (g.from_ : Int) ≤ 65536 := by omega
      clear hR
      by_cases hc : f + m < size
      · have htm : t = f + m := by omega
        have e5 : (f : Int) + ((at_ : Int) + (n : Int)) - (b : Int) = (t : Int) := by omega
        have hlt5 : (t : Int) < (size : Int) := by omega
        clear hc
        go_wp2_with fail
        have HG := HF.out ⟨s, f, t⟩ _ wr HP.out
        simp only [htm, Int.natCast_add] at HG
        refine HG.mono ?_
        clear HG
        rintro e w1 hor
        rcases hor with ⟨rfl, hI1⟩ | ⟨er, her, rfl, hE1⟩
        · have HI1 := Lib.hid hI1
          clear hI1
          go_wp2_with fail
          go_roundw
          case rel => exact ⟨b + d, m - d, k, hmk2, by omega, by go_num, HI1.out⟩
          case measure => simp [intOf]; omega
        · have hq : (er == 0) = false := by simp [her]
          have HE1 := Lib.hid hE1; have HER := Lib.hid her
          clear hE1 her
          go_wp2_with fail
          go_ret
          exact .inr ⟨er, HER.out, rfl, HE1.out⟩
      · have htm : t = size := by omega
        have hlt5 : ¬ (f : Int) + ((at_ : Int) + (n : Int)) - (b : Int) < (size : Int) := by omega
        clear hc
        subst htm
        go_wp2_with fail
        have HG := HF.out ⟨s, f, t⟩ _ wr HP.out
        simp only [Int.natCast_add] at HG
        refine HG.mono ?_
        clear HG
        rintro e w1 hor
        rcases hor with ⟨rfl, hI1⟩ | ⟨er, her, rfl, hE1⟩
        · have HI1 := Lib.hid hI1
          clear hI1
          go_wp2_with fail
          go_roundw
          case rel => exact ⟨b + d, m - d, k, hmk2, by omega, by go_num, HI1.out⟩
          case measure => simp [intOf]; omega
        · have hq : (er == 0) = false := by simp [her]
          have HE1 := Lib.hid hE1; have HER := Lib.hid her
          clear hE1 her
          go_wp2_with fail
          go_ret
          exact .inr ⟨er, HER.out, rfl, HE1.out⟩
end Go.Proofs.YtbnkanehjnepbaaGreatDoor.En
end

/- Layer 7: a region is read. -/
section
set_option linter.unusedVariables false
set_option linter.unusedSimpArgs false
namespace Go.Proofs.YtbnkanehjnepbaaGreatDoor.En
open Go.RowKit
open Go.Proofs.YtbnkanehjnepbaaGreatDoor.Oc (Bs bytesV byteV okA okA_some okA_none ClOut bytesV_len bytesV_one bytesV_app u8_info own_blk)

set_option maxRecDepth 100000 in
set_option maxHeartbeats 1000000 in
theorem holds_in {r p size : Nat} {g : Rg} {w : World} (h : RgAt w r p g size) (at_ n : Nat) (hat : at_ ≤ 268435456) (hn : n ≤ 268435456) : Calls Tryz.prog 128 #[.pointer (some ⟨r, 0, none⟩), .int .i64 at_, .int .i64 n] w fun e w' => e = .returned (.bool (!g.bad size at_ n)) ∧ Below w.heap.size w w' := by
  have hb := h.bytes_le
  have HB := Lib.hid fun (W : World) (hW : Below w.heap.size w W) => Rbytes_in (h.keep hW)
  obtain ⟨B, hB⟩ : ∃ B, g.bytes size = B := ⟨_, rfl⟩
  have hbad : (!g.bad size at_ n) = (decide (at_ ≤ B) && decide (n ≤ B - at_)) := by
    unfold Rg.bad
    rw [hB, Bool.eq_iff_iff]
    simp
    omega
  rw [hbad]
  rw [hB] at HB hb
  clear hbad h hB
  by_cases h1 : at_ ≤ B
  · have h1' : (at_ : Int) ≤ (B : Int) := by omega
    have t1 : decide (at_ ≤ B) = true := by simpa using h1
    obtain ⟨m, hm⟩ : ∃ m : Nat, B - at_ = m := ⟨_, rfl⟩
    have hm' : (B : Int) - (at_ : Int) = (m : Int) := by omega
    have t2 : decide ((n : Int) ≤ (m : Int)) = decide (n ≤ m) := by simp
    rw [t1, Bool.true_and, hm]
    have hw : IntKind.i64.wrap ((m : Nat) : Int) = ((m : Nat) : Int) := IntWalk.i64_in _ (by omega)
    clear hm
    go_enter Tryz.func128, Tryz.ntmps128
    go_wp2_with fail
    refine (HB.out _ (Below.refl _ _)).mono ?_
    rintro e w1 ⟨rfl, hw1⟩
    have HW1 := Lib.hid hw1
    clear hw1
    go_wp2_with fail
    refine (HB.out _ HW1.out).mono ?_
    rintro e w2 ⟨rfl, hw2⟩
    have HW2 := Lib.hid (show Below w.heap.size w w2 from ext_trans HW1.out hw2)
    clear hw2
    go_wp2_with fail
    go_ret
    exact ⟨rfl, HW2.out⟩
  · have h1' : ¬ (at_ : Int) ≤ (B : Int) := by omega
    have t1 : decide (at_ ≤ B) = false := by simpa using h1
    rw [t1, Bool.false_and]
    go_enter Tryz.func128, Tryz.ntmps128
    go_wp2_with fail
    refine (HB.out _ (Below.refl _ _)).mono ?_
    rintro e w1 ⟨rfl, hw1⟩
    have HW1 := Lib.hid hw1
    clear hw1
    go_wp2_with fail
    go_ret
    exact ⟨rfl, HW1.out⟩
def tot : List Piece → Nat
  | [] => 0
  | x :: ps => (x.t - x.f) + tot ps
theorem pieces_tot (size : Nat) (hs : 1 ≤ size) : ∀ k a n, n ≤ k → tot (pieces size k a n) = n
  | 0, a, n, h => by rw [show n = 0 by omega]; rfl
  | k + 1, a, n, h => by
    by_cases h0 : n = 0
    · rw [pieces, if_pos h0, h0]; rfl
    · obtain ⟨s, f, t, d, _, _, _, e4, hft, _, _, hdm, hmk, hp⟩ := piece_step size k a n hs (by omega) h
      rw [hp, tot, pieces_tot size hs k _ _ hmk]
      show t - f + (n - d) = n
      omega
theorem pieces_in (size : Nat) (hs : 1 ≤ size) : ∀ k a n, n ≤ k → ∀ x ∈ pieces size k a n, x.f < x.t ∧ x.t ≤ size
  | 0, a, n, h => by rw [pieces]; intro x hx; cases hx
  | k + 1, a, n, h => by
    by_cases h0 : n = 0
    · rw [pieces, if_pos h0]; intro x hx; cases hx
    · obtain ⟨s, f, t, d, _, _, _, e4, hft, hts, _, hdm, hmk, hp⟩ := piece_step size k a n hs (by omega) h
      rw [hp]
      intro x hx
      rcases List.mem_cons.1 hx with rfl | hx
      · exact ⟨hft, hts⟩
      · exact pieces_in size hs k _ _ hmk x hx
theorem Dev.read_ok {d : Dev} {at_ : Int} (h : (d.read at_).1 = 0) (hk : d.dk.Ok) : (d.read at_).2.1.length = d.dk.size := by
  unfold Dev.read at h ⊢
  split at h
  · rename_i hop
    rw [if_pos hop]
    simp only [Dev.op_dk] at h ⊢
    unfold Dk.read at h ⊢
    split at h
    · simp at h
    · rename_i hb
      rw [if_neg hb]
      simp only
      unfold Dk.look
      cases hr : rowLook d.dk.row at_.toNat with
      | some b =>
        have : ∀ l : List (Nat × By), (∀ x ∈ l, x.2.length = d.dk.size) → ∀ b, rowLook l at_.toNat = some b → b.length = d.dk.size := by
          intro l
          induction l with
          | nil => intro _ b hb; cases hb
          | cons x l ih =>
            intro hl b hb
            rw [rowLook] at hb
            split at hb
            · rename_i b' hb'
              injection hb with hb
              subst hb
              exact ih (fun y hy => hl y (List.mem_cons_of_mem _ hy)) _ hb'
            · split at hb
              · injection hb with hb
                subst hb
                exact hl x (List.mem_cons_self ..)
              · cases hb
        exact this _ (fun x hx => (hk.waits x hx).2) b hr
      | none =>
        simp only [Dk.bad, Bool.or_eq_true, decide_eq_true_eq, not_or] at hb
        rw [Option.getD_none, List.getD_eq_getElem?_getD, List.getElem?_eq_getElem (by omega)]
        exact hk.each _ (List.getElem_mem _)
  · simp at h
theorem Dev.read_dk (d : Dev) (at_ : Int) : (d.read at_).2.2.dk = d.dk := by unfold Dev.read; split <;> exact Dev.op_dk d
/-- what the read's closure holds: at block bx where the region lies, at block o what was read -/
structure RdI (S : Nat → Prop) (w : World) (base bx o r p size : Nat) (g : Rg) (R : Int × By × Dev) (ps : List Piece) (W : World) : Prop where
  rg : RgAt W r p g size
  box : W.cell? ⟨bx, 0, none⟩ = some (.pointer (some ⟨r, 0, none⟩))
  big : base ≤ W.heap.size
  body : ∃ d acc v, DvIn p d S W ∧ d.dk.Ok ∧ d.dk.size = size ∧ Arr W o 51 #[v] ∧ W.ownsRow base 5 1 v acc.length (bytesV acc) ∧ R = rdP g d ps acc ∧ acc.length + tot ps ≤ 268435456
  pcs : ∀ x ∈ ps, x.f < x.t ∧ x.t ≤ size
  tch : Tch S w W
def RdE (S : Nat → Prop) (w : World) (p : Nat) (R : Int × By × Dev) (er : Int) (W : World) : Prop := ∃ d, R = (er, [], d) ∧ DvIn p d S W ∧ Tch S w W
structure RdO (S : Nat → Prop) (w : World) (base bx o r : Nat) : Prop where
  hbx : w.heap.size ≤ bx ∧ bx < base
  ho : w.heap.size ≤ o ∧ o < base ∧ o ≠ bx
  hr : r < w.heap.size ∧ ¬ S r
  hS : ∀ k, S k → k < w.heap.size
-- region.Region.Read$1
set_option maxRecDepth 100000 in
set_option maxHeartbeats 4000000 in
theorem rd1_in {S : Nat → Prop} {w W : World} {base bx o r p size : Nat} {g : Rg} {R : Int × By × Dev} {x : Piece} {ps : List Piece} (hO : RdO S w base bx o r) (h : RdI S w base bx o r p size g R (x :: ps) W) :
    Calls Tryz.prog 176 (#[.int .i64 ((g.from_ + x.s : Nat) : Int), .int .i64 x.f, .int .i64 x.t] ++ #[.pointer (some ⟨bx, 0, none⟩), .pointer (some ⟨o, 0, none⟩)]) W fun e W' => (e = .returned (.int .i64 0) ∧ RdI S w base bx o r p size g R ps W') ∨ ∃ er : Int, er ≠ 0 ∧ e = .returned (.int .i64 er) ∧ RdE S w p R er W' := by
  obtain ⟨d, acc, v, hD, hdk, hsz, hv, hown, hR, htot⟩ := h.body
  have x0 := h.box
  have x1 : W.cell? ⟨r, 0, none⟩ = some (.pointer (some ⟨p, 0, none⟩)) := h.rg.own.cell 0
  obtain ⟨hft, hts⟩ := h.pcs x (List.mem_cons_self ..)
  have HRD := Lib.hid (PRead_in hD ((g.from_ + x.s : Nat) : Int))
  have H := Lib.hid h; have HO := Lib.hid hO; have HDK := Lib.hid hdk; have HSZ := Lib.hid hsz; have HV := Lib.hid hv; have HW := Lib.hid hown; have HR := Lib.hid hR; have HT := Lib.hid htot
  obtain ⟨a, ha⟩ : ∃ a : Nat, g.from_ + x.s = a := ⟨_, rfl⟩
  rw [ha] at HRD ⊢
  have HA := Lib.hid ha
  obtain ⟨er, her⟩ : ∃ er, (d.read (a : Int)).1 = er := ⟨_, rfl⟩
  obtain ⟨b, hb⟩ : ∃ b, (d.read (a : Int)).2.1 = b := ⟨_, rfl⟩
  obtain ⟨d', hd'⟩ : ∃ d', (d.read (a : Int)).2.2 = d' := ⟨_, rfl⟩
  have hrd : d.read (a : Int) = (er, b, d') := by rw [← her, ← hb, ← hd']
  rw [hrd] at HRD
  have hstep : R = if er = 0 then rdP g d' ps (acc ++ (b.take x.t).drop x.f) else (er, [], d') := by rw [hR, rdP, ha, hrd]
  have hdk' : d'.dk = d.dk := by rw [← hd']; exact Dev.read_dk _ _
  have hbl : er = 0 → b.length = size := fun e0 => by rw [← hb, ← hsz]; exact Dev.read_ok (her.trans e0) hdk
  have HST := Lib.hid hstep; have HDK' := Lib.hid hdk'; have HBL := Lib.hid hbl
  have hft' : (x.f : Int) ≤ (x.t : Int) := by omega
  have hf0 : (0 : Int) ≤ (x.f : Int) := by omega
  have HFT := Lib.hid hft; have HTS := Lib.hid hts
  clear h hO hdk hsz hv hown hR htot hD ha her hb hd' hrd hstep hdk' hbl hft hts
  go_enter Tryz.func176, Tryz.ntmps176
  go_wp2_with fail
  refine HRD.out.mono ?_
  rintro e w1 ⟨⟨A, c, rfl, hblk, hc⟩, hD1, ht1⟩
  have hT1 : Tch S w w1 := H.out.tch.trans ht1
  have HB := Lib.hid hblk; have HC := Lib.hid hc; have HD1 := Lib.hid hD1; have HT1 := Lib.hid hT1; have HTT := Lib.hid ht1
  clear hblk hc hD1 ht1 hT1
  by_cases h0 : er = 0
  · subst h0
    have hbl := HBL.out rfl
    have HBL0 := Lib.hid hbl
    have HST0 := Lib.hid (show R = rdP g d' ps (acc ++ (b.take x.t).drop x.f) from by rw [HST.out, if_pos rfl])
    clear HBL HST
    have hne : b ≠ [] := by intro e; rw [e] at hbl; have := HFT.out; have := HTS.out; simp at hbl; omega
    obtain ⟨gb, rfl, hgb, hBb⟩ := HB.out hne
    have HG := Lib.hid hgb; have HBB := Lib.hid hBb
    have hnS : ∀ k, w.heap.size ≤ k → ¬ S k := fun k hk hs => Nat.lt_irrefl _ (Nat.lt_of_lt_of_le (HO.out.hS k hs) hk)
    have y0 : w1.cell? ⟨o, 0, none⟩ = some v := (HTT.out.arr HV.out (hnS _ HO.out.ho.1)).cell 0
    have m0 : w1.frozen? ⟨o, 0, none⟩ = false := (HTT.out.arr HV.out (hnS _ HO.out.ho.1)).mark 0
    have htc : (x.t : Int) ≤ (c : Int) := by have h1 : b.length ≤ c := HC.out; have := HTS.out; omega
    have hown1 : w1.ownsRow base 5 1 v acc.length (bytesV acc) := own_same HW.out fun k hk => by
      have h1 := own_base HW.out k hk
      exact HTT.out.block k (own_lt HW.out hk).1 (hnS k (by have := HO.out.ho; omega))
    have HW1 := Lib.hid hown1
    have hcf : ¬ c = x.f := by have := HFT.out; omega
    clear hbl hne hgb hBb hnS hown1
    go_wp2_with fail
    refine region_any_drew (by kernel_rfl) ?_
    refine AnyTill.any (S := (fun w' => w'.cell? ⟨o, 0, none⟩ = some v)) (t := 6) _ _ _ _ ?_
    have hHeld := (show (fun w' => w'.cell? ⟨o, 0, none⟩ = some v) w1.drew from y0)
    refine till_take (i := 0) (oi := ?o1) (d := (some 23)) (v := ?v1) ?hi1 (by kernel_rfl) (by kernel_rfl) (by kernel_rfl) (by kernel_rfl) (by kernel_rfl) (fun _ _ _ h => h) ?hd1 ?hw1 ?hy1 hHeld ?_
    case hi1 => (simp only [List.getElem?_toArray, List.getElem?_cons_zero]; exact rfl)
    case hd1 => rfl
    case hw1 => rfl
    case hy1 => (intro w hSw; (try dsimp only at hSw); go_simp; try with_reducible rfl)
    try simp only [Act.put, List.setIfInBounds_toArray, List.set_cons_zero, List.set_cons_succ]
    refine till_take (i := 1) (oi := ?o2) (d := (some 24)) (v := ?v2) ?hi2 (by kernel_rfl) (by kernel_rfl) (by kernel_rfl) (by kernel_rfl) (by kernel_rfl) (fun _ _ _ h => h) ?hd2 ?hw2 ?hy2 hHeld ?_
    case hi2 => (simp only [List.getElem?_toArray, List.getElem?_cons_zero, List.getElem?_cons_succ]; exact rfl)
    case hd2 => rfl
    case hw2 => rfl
    case hy2 => (intro w hSw; (try dsimp only at hSw); go_simp; try with_reducible rfl)
    try simp only [Act.put, List.setIfInBounds_toArray, List.set_cons_zero, List.set_cons_succ]
    refine till_take (i := 2) (oi := ?o3) (d := (some 25)) (v := ?v3) ?hi3 (by kernel_rfl) (by kernel_rfl) (by kernel_rfl) (by kernel_rfl) (by kernel_rfl) (fun _ _ _ h => h) ?hd3 ?hw3 ?hy3 hHeld ?_
    case hi3 => (simp only [List.getElem?_toArray, List.getElem?_cons_zero, List.getElem?_cons_succ]; exact rfl)
    case hd3 => rfl
    case hw3 => rfl
    case hy3 => (intro w hSw; (try dsimp only at hSw); go_simp; try with_reducible rfl)
    try simp only [Act.put, List.setIfInBounds_toArray, List.set_cons_zero, List.set_cons_succ]
    refine till_take (i := 3) (oi := ?o4) (d := (some 26)) (v := ?v4) ?hi4 (by kernel_rfl) (by kernel_rfl) (by kernel_rfl) (by kernel_rfl) (by kernel_rfl) (fun _ _ _ h => h) ?hd4 ?hw4 ?hy4 hHeld ?_
    case hi4 => (simp only [List.getElem?_toArray, List.getElem?_cons_zero, List.getElem?_cons_succ]; exact rfl)
    case hd4 => rfl
    case hw4 => rfl
    case hy4 => (intro w hSw; (try dsimp only at hSw); go_simp; try with_reducible rfl)
    try simp only [Act.put, List.setIfInBounds_toArray, List.set_cons_zero, List.set_cons_succ]
    refine till_take (i := 4) (oi := ?o5) (d := (some 27)) (v := ?v5) ?hi5 (by kernel_rfl) (by kernel_rfl) (by kernel_rfl) (by kernel_rfl) (by kernel_rfl) (fun _ _ _ h => h) ?hd5 ?hw5 ?hy5 hHeld ?_
    case hi5 => (simp only [List.getElem?_toArray, List.getElem?_cons_zero, List.getElem?_cons_succ]; exact rfl)
    case hd5 => rfl
    case hw5 => rfl
    case hy5 => (intro w hSw; (try dsimp only at hSw); go_simp; try with_reducible rfl)
    try simp only [Act.put, List.setIfInBounds_toArray, List.set_cons_zero, List.set_cons_succ]
    refine AnyTill.step (i := 5) (by kernel_rfl) (by kernel_rfl) rfl (fun K hK => ?_)
    rw [if_pos (by rfl)]
    obtain ⟨i0, hi, hz0, hz1, hz2⟩ := info_parts u8_info
    have hcl : ((b.take x.t).drop x.f).length = x.t - x.f := by have := HBL0.out; have := HTS.out; simp; omega
    have hlen : acc.length + (x.t - x.f) ≤ 268435456 := by have := HT.out; rw [tot] at this; omega
    have hbs : Bs w1.drew (some ⟨gb, x.f, none⟩) ((b.take x.t).drop x.f) := by have := ((show Bs w1.drew (some ⟨gb, 0, none⟩) b from fun hne => HBB.out.bs hne).take x.t).drop x.f; rwa [Nat.zero_add] at this
    refine wp_append_own w1.drew (.tmp 23) (.tmp 27) 51 rfl base 5 i0 (.int .u8 0) 1 1 Tryz.underlying51 hi hz0 hz1 hz2 rfl (by decide) v acc.length (bytesV acc) rfl HW1.out ⟨gb, x.f, none⟩ (x.t - x.f) (c - x.f) (bytesV ((b.take x.t).drop x.f)) rfl (by rw [bytesV_len, hcl, Nat.mul_one]) hbs.read (bytesV_one _) (by unfold maxLen; omega) (by omega) (Nat.le_trans H.out.big HTT.out.size) ?_
    intro v5 w5 hown5 hgr5 _
    obtain ⟨A5, c5, rfl⟩ := own_slice hown5
    have hno : some o ≠ v.ownBlock := fun e => by have := own_base HW1.out o e.symm; have := HO.out.ho; omega
    have hol : o < w1.heap.size := World.block_lt_of_cell? _ _ y0
    have x5 : w5.cell? ⟨o, 0, none⟩ = some v := (World.cell?_of_block (a := ⟨o, 0, none⟩) (hgr5.block o hol hno)).trans y0
    have m5 : w5.frozen? ⟨o, 0, none⟩ = false := (World.frozen?_of_block (a := ⟨o, 0, none⟩) (hgr5.block o hol hno)).trans m0
    have HOWN5 := Lib.hid hown5; have HGR5 := Lib.hid hgr5; have HCL := Lib.hid hcl; have HLEN := Lib.hid hlen
    clear hbs hno hol hown5 hgr5 hcl hlen hi hz0 hz1 hz2 i0
    refine hK.out _ _ (by exact x5) (fun hHeld5 => ?_)
    clear hK K
    try simp only [Act.put, List.setIfInBounds_toArray, List.set_cons_zero, List.set_cons_succ]
    refine AnyTill.last (by kernel_rfl) ?_
    refine any_drop 6 (by kernel_rfl) (by kernel_rfl) ?_
    simp only [List.drop_succ_cons, List.drop_zero]
    go_wp2_with fail
    go_ret
    refine .inl ⟨rfl, ?_⟩
    have hob : o < w5.heap.size := Nat.lt_of_lt_of_le (Nat.lt_of_lt_of_le HO.out.ho.2.1 H.out.big) (Nat.le_trans HTT.out.size HGR5.out.size)
    have ht5 : Tch (· = o) w5 (w5.setCell ⟨o, 0, none⟩ (.slice A5 (acc.length + (x.t - x.f)) c5)) := Tch.at w5 o 0 _
    have hkeep : ∀ k, k < base → k ≠ o → (w5.setCell ⟨o, 0, none⟩ (.slice A5 (acc.length + (x.t - x.f)) c5)).heap[k]? = w1.heap[k]? := fun k hk hne => by
      have hk1 : k < w1.heap.size := Nat.lt_of_lt_of_le hk (Nat.le_trans H.out.big HTT.out.size)
      refine (ht5.block k (Nat.lt_of_lt_of_le hk1 HGR5.out.size) hne).trans (HGR5.out.block k hk1 fun e => ?_)
      have := own_base HW1.out k e.symm
      omega
    have hnS : ∀ k, w.heap.size ≤ k → ¬ S k := fun k hk hs => Nat.lt_irrefl _ (Nat.lt_of_lt_of_le (HO.out.hS k hs) hk)
    have hz : w1.heap.size ≤ (w5.setCell ⟨o, 0, none⟩ (.slice A5 (acc.length + (x.t - x.f)) c5)).heap.size := Nat.le_trans HGR5.out.size ht5.size
    have hwb := HO.out.ho
    have hTf : Tch S w (w5.setCell ⟨o, 0, none⟩ (.slice A5 (acc.length + (x.t - x.f)) c5)) := by
      refine ⟨ht5.os.trans (HGR5.out.os.trans HT1.out.os), ht5.tape.trans (HGR5.out.tape.trans HT1.out.tape), ht5.output.trans (HGR5.out.output.trans HT1.out.output), Nat.le_trans HT1.out.size hz, fun k hk hs => ?_⟩
      exact (hkeep k (by omega) (by omega)).trans (HT1.out.block k hk hs)
    refine ⟨⟨(hkeep r (by have := HO.out.hr; omega) (by have := HO.out.hr; omega)).trans ((HTT.out.block r (by have := HO.out.hr; have := H.out.tch.size; omega) HO.out.hr.2).trans H.out.rg.own), H.out.rg.size, H.out.rg.count⟩, ?_, Nat.le_trans H.out.big (Nat.le_trans HTT.out.size hz), ⟨d', acc ++ (b.take x.t).drop x.f, .slice A5 (acc.length + (x.t - x.f)) c5, ?_, ?_, ?_, ?_, ?_, ?_, ?_⟩, fun y hy => H.out.pcs y (List.mem_cons_of_mem _ hy), hTf⟩
    · refine (World.cell?_of_block (a := ⟨bx, 0, none⟩) ((hkeep bx HO.out.hbx.2 (Ne.symm hwb.2.2)).trans (HTT.out.block bx (Nat.lt_of_lt_of_le HO.out.hbx.2 H.out.big) (hnS bx HO.out.hbx.1)))).trans H.out.box
    · refine (DvIn_loc p d').same HD1.out hz fun k hk => hkeep k ?_ ?_
      · have := HO.out.hS k hk; omega
      · have := HO.out.hS k hk; omega
    · rw [HDK'.out]; exact HDK.out
    · rw [HDK'.out]; exact HSZ.out
    · have := (((show Arr w1.drew o 51 #[v] from HTT.out.arr HV.out (hnS _ HO.out.ho.1)).grownTo HGR5.out (fun e => by have := own_base HW1.out o e; omega)).put 0 (.slice A5 (acc.length + (x.t - x.f)) c5))
      simpa using this
    · rw [bytesV_app, List.length_append, HCL.out]
      refine own_same HOWN5.out fun k hk => ht5.block k ?_ ?_
      · exact (own_lt HOWN5.out hk).1
      · have := own_base HOWN5.out k hk; omega
    · exact HST0.out
    · have := HT.out
      rw [tot] at this
      rw [List.length_append, HCL.out]
      omega
  · have hq : (er == 0) = false := by simp [h0]
    have HF := Lib.hid (show ∃ er' : Int, er' ≠ 0 ∧ Ending.returned (.int .i64 er) = .returned (.int .i64 er') ∧ RdE S w p R er' w1 from ⟨er, h0, rfl, d', by rw [HST.out, if_neg h0], HD1.out, HT1.out⟩)
    clear HST HBL h0
    go_wp2_with fail
    go_ret
    exact .inr HF.out
theorem RgAt.ok_area {w : World} {r p : Nat} {g : Rg} {size : Nat} (h : RgAt w r p g size) : g.from_ ≤ 65536 := by have := h.count; omega
-- region.Region.Read
set_option maxRecDepth 100000 in
set_option maxHeartbeats 4000000 in
theorem RRead_in {S : Nat → Prop} {w : World} {r p : Nat} {g : Rg} {d : Dev} (h : RgAt w r p g d.dk.size) (hD : DvIn p d S w) (hr : ¬ S r) (at_ n : Nat) (hat : at_ ≤ 268435456) (hn : n ≤ 268435456) :
    Calls Tryz.prog 112 #[.pointer (some ⟨r, 0, none⟩), .int .i64 at_, .int .i64 n] w (PRd S p (g.read d at_ n) w) := by
  have hS : ∀ k, S k → k < w.heap.size := (DvIn_loc p d).lt hD
  have hdk : d.dk.Ok := by obtain ⟨kp, SK, h1⟩ := hD; obtain ⟨q, h2⟩ := h1.disk; exact h2.ok
  have HD := Lib.hid hD; have HH := Lib.hid h; have HR := Lib.hid hr; have HS := Lib.hid hS; have HDK := Lib.hid hdk
  clear hD hS hdk hr
  cases hbad : g.bad d.dk.size at_ n with
  | true =>
    have hres : g.read d at_ n = (2, [], d) := by unfold Rg.read; rw [if_pos hbad]
    rw [hres]
    clear hres
    have HBAD := Lib.hid hbad
    clear hbad h
    go_enter Tryz.func112, Tryz.ntmps112
    go_wp2_with fail
    obtain ⟨bx, hbx⟩ : ∃ bx, w.heap.size = bx := ⟨_, rfl⟩
    obtain ⟨w1, hw1⟩ : ∃ w1, w.alloc (.cells #[.pointer (some ⟨r, 0, none⟩)] 66) = w1 := ⟨_, rfl⟩
    have hb1 : Below w.heap.size w w1 := by rw [← hw1]; exact ext_alloc (Below.refl _ _) _
    have ha1 : Arr w1 bx 66 #[.pointer (some ⟨r, 0, none⟩)] := by rw [← hw1, ← hbx]; exact Arr.fresh w _ _
    rw [hw1, hbx]
    have x1 : w1.cell? ⟨bx, 0, none⟩ = some (.pointer (some ⟨r, 0, none⟩)) := ha1.cell 0
    have hg1 := HH.out.keep hb1
    have y1 : w1.cell? ⟨r, 0, none⟩ = some (.pointer (some ⟨p, 0, none⟩)) := hg1.own.cell 0
    have HB1 := Lib.hid hb1; have HA1 := Lib.hid ha1; have HG1 := Lib.hid hg1; have HBX := Lib.hid hbx
    clear hb1 ha1 hg1 hbx hw1
    refine (Rmade_in r p w1 y1).mono ?_
    rintro e w2 ⟨rfl, hw2⟩
    rw [hw2]
    clear hw2 w2
    go_wp2_with fail
    refine (holds_in HG1.out at_ n hat hn).mono ?_
    rintro e w2 ⟨rfl, hb2⟩
    rw [HBAD.out]
    have x2 : w2.cell? ⟨bx, 0, none⟩ = some (.pointer (some ⟨r, 0, none⟩)) := (hb2.cell (p := ⟨bx, 0, none⟩) (World.block_lt_of_cell? _ _ x1)).trans x1
    have HB2 := Lib.hid (show Below w.heap.size w w2 from ext_trans HB1.out hb2)
    have HA2 := Lib.hid (show Arr w2 bx 66 #[.pointer (some ⟨r, 0, none⟩)] from HA1.out.keep hb2)
    clear hb2
    go_wp2_with fail
    go_ret2
    exact ⟨⟨none, 0, rfl, fun h => absurd rfl h, Nat.le_refl _⟩, (DvIn_loc p d).below HD.out HB2.out, Tch.of_below HB2.out⟩
  | false =>
    have hres : g.read d at_ n = rdP g d (pieces d.dk.size n at_ n) [] := by unfold Rg.read; rw [if_neg (by rw [hbad]; simp), Int.toNat_natCast, Int.toNat_natCast]
    rw [hres]
    clear hres
    have HBAD := Lib.hid hbad
    clear hbad h
    go_enter Tryz.func112, Tryz.ntmps112
    go_wp2_with fail
    obtain ⟨bx, hbx⟩ : ∃ bx, w.heap.size = bx := ⟨_, rfl⟩
    obtain ⟨w1, hw1⟩ : ∃ w1, w.alloc (.cells #[.pointer (some ⟨r, 0, none⟩)] 66) = w1 := ⟨_, rfl⟩
    have hb1 : Below w.heap.size w w1 := by rw [← hw1]; exact ext_alloc (Below.refl _ _) _
    have ha1 : Arr w1 bx 66 #[.pointer (some ⟨r, 0, none⟩)] := by rw [← hw1, ← hbx]; exact Arr.fresh w _ _
    rw [hw1, hbx]
    have x1 : w1.cell? ⟨bx, 0, none⟩ = some (.pointer (some ⟨r, 0, none⟩)) := ha1.cell 0
    have hg1 := HH.out.keep hb1
    have y1 : w1.cell? ⟨r, 0, none⟩ = some (.pointer (some ⟨p, 0, none⟩)) := hg1.own.cell 0
    have HB1 := Lib.hid hb1; have HA1 := Lib.hid ha1; have HG1 := Lib.hid hg1; have HBX := Lib.hid hbx
    clear hb1 ha1 hg1 hbx hw1
    refine (Rmade_in r p w1 y1).mono ?_
    rintro e w2 ⟨rfl, hw2⟩
    rw [hw2]
    clear hw2 w2
    go_wp2_with fail
    refine (holds_in HG1.out at_ n hat hn).mono ?_
    rintro e w2 ⟨rfl, hb2⟩
    rw [HBAD.out]
    have x2 : w2.cell? ⟨bx, 0, none⟩ = some (.pointer (some ⟨r, 0, none⟩)) := (hb2.cell (p := ⟨bx, 0, none⟩) (World.block_lt_of_cell? _ _ x1)).trans x1
    have HB2 := Lib.hid (show Below w.heap.size w w2 from ext_trans HB1.out hb2)
    have HA2 := Lib.hid (show Arr w2 bx 66 #[.pointer (some ⟨r, 0, none⟩)] from HA1.out.keep hb2)
    clear hb2
    obtain ⟨w3, hw3⟩ : ∃ w3, w2.alloc (.cells #[.slice none 0 0] 51) = w3 := ⟨_, rfl⟩
    obtain ⟨o, ho⟩ : ∃ o, w2.heap.size = o := ⟨_, rfl⟩
    have hb3 : Below w2.heap.size w2 w3 := by rw [← hw3]; exact ext_alloc (Below.refl _ _) _
    have z3 : (w2.alloc (.cells #[.slice none 0 0] 51)).cell? ⟨bx, 0, none⟩ = some (.pointer (some ⟨r, 0, none⟩)) := by
      rw [hw3]; exact (hb3.cell (p := ⟨bx, 0, none⟩) (World.block_lt_of_cell? _ _ x2)).trans x2
    have HZ3 := Lib.hid z3
    have hO3 : Arr w3 o 51 #[.slice none 0 0] := by rw [← hw3, ← ho]; exact Arr.fresh w2 _ _
    have hI : RdI S w w3.heap.size bx o r p d.dk.size g (rdP g d (pieces d.dk.size n at_ n) []) (pieces d.dk.size n at_ n) w3 := by
      have hb : Below w.heap.size w w3 := ext_trans HB2.out hb3
      refine ⟨HH.out.keep hb, (hb3.cell (p := ⟨bx, 0, none⟩) (World.block_lt_of_cell? _ _ x2)).trans x2, Nat.le_refl _, ⟨d, [], .slice none 0 0, (DvIn_loc p d).below HD.out hb, HDK.out, rfl, hO3, World.ownsRow_nil _ _ _ _, rfl, ?_⟩, pieces_in _ HDK.out.size.1 _ _ _ (Nat.le_refl _), Tch.of_below hb⟩
      rw [pieces_tot _ HDK.out.size.1 _ _ _ (Nat.le_refl _)]
      simpa using hn
    have hRO : RdO S w w3.heap.size bx o r := by
      have h1 := HB2.out.size
      have h2 : o < w3.heap.size := hO3.lt
      have h3 : bx < o := by rw [← ho]; exact World.block_lt_of_cell? _ _ x2
      have h4 := HBX.out
      exact ⟨⟨by omega, by omega⟩, ⟨by omega, h2, by omega⟩, ⟨HH.out.own.lt, HR.out⟩, HS.out⟩
    have HI := Lib.hid hI; have HRO := Lib.hid hRO; have HW3 := Lib.hid hw3; have HOO := Lib.hid ho
    clear hb3 hO3 hI hRO hw3
    go_wp2_with fail
    rw [HW3.out]
    refine (each_read w3 #[.pointer (some ⟨bx, 0, none⟩), .pointer (some ⟨o, 0, none⟩)] at_ n (RdI S w w3.heap.size bx o r p d.dk.size g (rdP g d (pieces d.dk.size n at_ n) [])) (RdE S w p (rdP g d (pieces d.dk.size n at_ n) [])) HDK.out.size HH.out.ok_area ?_ (fun ps W h => h.rg) (fun x ps W h => rd1_in HRO.out h) HI.out).mono ?_
    · have := HBAD.out
      unfold Rg.bad at this
      have hbl := HH.out.bytes_le
      simp only [Bool.or_eq_false_iff, decide_eq_false_iff_not] at this
      omega
    rintro e w4 hor
    rcases hor with ⟨rfl, h4⟩ | ⟨er, her, rfl, h4⟩
    · obtain ⟨d', acc, v, hD4, _, _, hv4, hown4, hR4, _⟩ := h4.body
      have HR4 := Lib.hid hR4
      obtain ⟨A4, c4, rfl⟩ := own_slice hown4
      have y4 : w4.cell? ⟨o, 0, none⟩ = some (.slice A4 acc.length c4) := hv4.cell 0
      have HF := Lib.hid (show PRd S p (0, acc, d') w (.returned (.tuple #[.slice A4 acc.length c4, .int .i64 0])) w4 from by
        refine ⟨⟨A4, c4, rfl, fun hne => ?_, ?_⟩, hD4, h4.tch⟩
        · rcases hown4.2 with ⟨e0, e1⟩ | ⟨g4, cap, cur, e0, e1, e2, e3, e4, e5, e6⟩
          · exact absurd (List.eq_nil_of_length_eq_zero e1) hne
          · injection e0 with e0 _ e7
            subst e0 e7
            have hbk := own_blk hown4 rfl
            exact ⟨g4, rfl, Nat.le_trans (Nat.le_trans HRO.out.ho.1 (Nat.le_of_lt HRO.out.ho.2.1)) hbk.2.2.1, hbk.1⟩
        · rcases hown4.2 with ⟨e0, e1⟩ | ⟨g4, cap, cur, e0, e1, e2, e3, e4, e5, e6⟩
          · show acc.length ≤ c4; omega
          · injection e0 with e0 _ e7
            subst e0 e7
            exact e3)
      clear h4 hD4 hv4 hown4 hR4 HI
      go_wp2_with fail
      go_ret2
      rw [HR4.out]
      exact HF.out
    · obtain ⟨d', hR4, hD4, hT4⟩ := h4
      have HR4 := Lib.hid hR4
      have hq : (er == 0) = false := by simp [her]
      have HF := Lib.hid (show PRd S p (er, [], d') w (.returned (.tuple #[.slice none 0 0, .int .i64 er])) w4 from ⟨⟨none, 0, rfl, fun h => absurd rfl h, Nat.le_refl _⟩, hD4, hT4⟩)
      clear hR4 hD4 hT4 HI her
      go_wp2_with fail
      go_ret2
      rw [HR4.out]
      exact HF.out

end Go.Proofs.YtbnkanehjnepbaaGreatDoor.En
end

/- slices.Grow of nothing, slices.Concat. -/
section
set_option linter.unusedVariables false
set_option linter.unusedSimpArgs false
namespace Go.Proofs.YtbnkanehjnepbaaGreatDoor.Oc
open Go.RowKit

theorem zeroCells_one (v : Value) (n : Nat) : (Builtin.zeroCells #[v] n).size = n := by
  simp [Builtin.zeroCells]
def GwOut (n : Nat) (w : World) (e : Ending) (w' : World) : Prop :=
  ∃ v, e = .returned v ∧ w'.ownsRow w.heap.size 5 1 v 0 [] ∧ (∃ A c, v = .slice A 0 c ∧ A ≠ none ∧ n ≤ c) ∧ Below w.heap.size w w'
-- slices.Grow
set_option maxRecDepth 100000 in
set_option maxHeartbeats 2000000 in
theorem Grow_in (n : Nat) (w : World) (h0 : 0 < n) (hn : n ≤ 70368744177664) : Calls Tryz.prog 192 #[.slice none 0 0, .int .i64 n] w (GwOut n w) := by
  obtain ⟨i0, hi, hz0, hz1, hz2⟩ := info_parts u8_info
  have h1 : ¬ (n : Int) < 0 := by omega
  have h2 : (0 : Int) < (n : Int) := by omega
  obtain ⟨cp, hcp⟩ : ∃ cp, grownCap w n 0 5 = cp := ⟨_, rfl⟩
  have hc1 : n ≤ cp := by rw [← hcp]; exact grownCap_ge _ _ _ _
  have hc2 : cp ≤ maxLen := by rw [← hcp]; exact grownCap_le_maxLen _ _ _ _ (by unfold maxLen; omega)
  have hrun := Go.Lib.run_append_nil_zeros (P := Tryz.prog) w 51 3 51 5 i0 (.int .u8 0) .i64 .i64 Tryz.underlying51 Tryz.underlying3 hi hz0 n h0 (by rw [hz1]; decide) (by omega) (by rw [hz2]; omega)
  rw [hcp] at hrun
  obtain ⟨ZC, hZC⟩ : ∃ ZC, Builtin.zeroCells (Value.int .u8 0).cells n ++ Builtin.zeroCells (Value.int .u8 0).cells (cp - n) = ZC := ⟨_, rfl⟩
  have hzs : ZC.size = cp := by rw [← hZC, show (Value.int IntKind.u8 0).cells = #[.int .u8 0] from rfl, Array.size_append, zeroCells_one, zeroCells_one]; omega
  rw [hZC] at hrun
  obtain ⟨w1, hw1⟩ : ∃ w1, w.drew.alloc (.cells ZC 5) = w1 := ⟨_, rfl⟩
  rw [hw1] at hrun
  have hb1 : Below w.heap.size w w1 := by rw [← hw1]; exact ext_alloc (ext_drew (Below.refl _ _)) _
  have ho : w1.ownsRow w.heap.size 5 1 (.slice (some ⟨w.heap.size, 0, none⟩) 0 cp) 0 [] := by
    refine ⟨rfl, .inr ⟨w.heap.size, cp, ZC, rfl, Nat.le_refl _, ?_, Nat.zero_le _, hc2, by rw [hzs, Nat.mul_one], by simp⟩⟩
    rw [← hw1]; exact Arr.fresh w.drew _ _
  have hc3 : (0 : Int) ≤ (cp : Int) := by omega
  have HF := Lib.hid (show GwOut n w (.returned (.slice (some ⟨w.heap.size, 0, none⟩) 0 cp)) w1 from ⟨_, rfl, ho, ⟨_, _, rfl, by simp, hc1⟩, hb1⟩)
  have HRUN := Lib.hid hrun
  clear hb1 ho hw1 hcp hc1 hc2 hZC hzs hi hz0 hz1 hz2 hrun
  go_enter Tryz.func192, Tryz.ntmps192
  go_wp2_with (refine Go.Lib.wpList_append_run _ rfl _ _ 51 3 rfl (.slice none 0 0) (.int .i64 n) rfl rfl _ _ HRUN.out ?_)
  go_ret
  exact HF.out
def lenTo (L : List (List UInt8)) (k : Nat) : Nat := ((L.take k).flatten).length
theorem flat_step {L : List (List UInt8)} {k : Nat} (h : k < L.length) : (L.take (k + 1)).flatten = (L.take k).flatten ++ L[k] := by
  rw [List.take_add_one, List.getElem?_eq_getElem h, List.flatten_append, Option.toList_some, List.flatten_cons, List.flatten_nil, List.append_nil]
theorem flat_le (L : List (List UInt8)) (k : Nat) : ((L.take k).flatten).length ≤ L.flatten.length := by
  conv => rhs; rw [← List.take_append_drop k L]
  rw [List.flatten_append, List.length_append]; omega
-- slices.Concat
set_option maxRecDepth 100000 in
set_option maxHeartbeats 4000000 in
theorem Concat_in (L : List (List UInt8)) (sb sc : Nat) (w : World) (ad : Nat → Addr) (cc : Nat → Nat) (hc : ∀ i (h : i < L.length), w.cell? ⟨sb, i, none⟩ = some (.slice (some (ad i)) (L[i]).length (cc i)))
    (hB : ∀ i (h : i < L.length), Bs w (some (ad i)) L[i]) (hsb : sb < w.heap.size) (h0 : 0 < L.flatten.length) (hl : L.flatten.length ≤ 67108864) (hlc : L.length ≤ 1000) :
    Calls Tryz.prog 132 #[.slice (some ⟨sb, 0, none⟩) L.length sc] w fun e w' => ∃ g c, e = .returned (.slice (some ⟨g, 0, none⟩) L.flatten.length c) ∧ w.heap.size ≤ g ∧ L.flatten.length ≤ c ∧ Blk w' 5 g L.flatten ∧ Below w.heap.size w w' := by
  have HC := Lib.hid hc; have HB := Lib.hid hB
  have hlc' : (L.length : Int) ≤ 1000 := by omega
  obtain ⟨N, hN⟩ : ∃ N, L.flatten.length = N := ⟨_, rfl⟩
  rw [hN] at h0 hl ⊢
  have HN := Lib.hid hN
  have hN0 : (0 : Int) ≤ (N : Int) := by omega
  clear hc hB hN
  go_enter Tryz.func132, Tryz.ntmps132
  go_wp2_with fail
  go_loopw [3, 11] (fun s i wr => ∃ k : Nat, k ≤ L.length ∧ i = .int .i64 k ∧ s = .int .i64 (lenTo L k : Nat) ∧ Below w.heap.size w wr) (fun _ i _ => (L.length - intOf i).toNat)
  case atStart => exact ⟨0, Nat.zero_le _, rfl, rfl, Below.refl _ _⟩
  case round =>
    obtain ⟨k, hk, rfl, rfl, hb⟩ := hrel
    have HWB := Lib.hid hb
    clear hb
    by_cases hlt : k < L.length
    · have hlt' : (k : Int) < (L.length : Int) := by omega
      have hk0 : (0 : Int) ≤ (k : Int) := by omega
      have x0 : wr.cell? ⟨sb, k, none⟩ = some (.slice (some (ad k)) (L[k]).length (cc k)) := (HWB.out.cell (p := ⟨sb, k, none⟩) hsb).trans (HC.out k hlt)
      obtain ⟨a, ha⟩ : ∃ a, lenTo L k = a := ⟨_, rfl⟩
      obtain ⟨m, hm⟩ : ∃ m, (L[k]).length = m := ⟨_, rfl⟩
      have hst : lenTo L (k + 1) = a + m := by rw [lenTo, flat_step hlt, List.length_append, hm, ← ha]; rfl
      have hle : a + m ≤ 67108864 := by have := flat_le L (k + 1); rw [HN.out] at this; rw [← hst]; exact Nat.le_trans this hl
      have hle' : (a : Int) + (m : Int) ≤ 67108864 := by omega
      rw [ha]
      rw [hm] at x0
      have hng : ¬ ((a : Int) + (m : Int)) < 0 := by omega
      have HST := Lib.hid hst
      clear ha hm hst hle
      go_wp2_with fail
      go_roundw
      case rel => exact ⟨k + 1, hlt, by go_num, by rw [HST.out]; push_cast; rfl, HWB.out⟩
      case measure => simp [intOf]; omega
    · have hkm : k = L.length := by omega
      subst hkm
      rw [show lenTo L L.length = N from by rw [lenTo, List.take_length]; exact HN.out]
      have hlt' : ¬ ((L.length : Nat) : Int) < ((L.length : Nat) : Int) := by omega
      have HG := Lib.hid (Grow_in N wr h0 (by omega))
      go_wp2_with fail
      refine HG.out.mono ?_
      rintro e w2 ⟨v2, rfl, ho2, ⟨A2, c2, rfl, hA2, hc2⟩, hb2⟩
      have HO2 := Lib.hid ho2; have HWB2 := Lib.hid hb2; have HC2 := Lib.hid hc2
      clear ho2 hb2 hc2 hA2
      have hbw2 : Below w.heap.size w w2 := ext_trans HWB.out HWB2.out
      obtain ⟨base, hbase⟩ : ∃ base, wr.heap.size = base := ⟨_, rfl⟩
      rw [hbase] at HO2
      have hbw : w.heap.size ≤ base := by rw [← hbase]; exact HWB.out.size
      have hb2s : base ≤ w2.heap.size := by rw [← hbase]; exact HWB2.out.size
      have HBW2 := Lib.hid hbw2; have HBW := Lib.hid hbw; have HBS := Lib.hid hb2s
      clear hbw2 hbw hb2s hbase HWB HWB2 HC2
      obtain ⟨n0, hn0⟩ : ∃ n0, L.length = n0 := ⟨_, rfl⟩
      go_wp2_with fail
      go_loopw [6, 27] (fun v i wr => ∃ k : Nat, k ≤ L.length ∧ i = .int .i64 k ∧ wr.ownsRow base 5 1 v (lenTo L k) (bytesV (L.take k).flatten) ∧ Below w.heap.size w wr ∧ base ≤ wr.heap.size) (fun _ i _ => (L.length - intOf i).toNat)
      case atStart => exact ⟨0, Nat.zero_le _, rfl, HO2.out, HBW2.out, HBS.out⟩
      case round =>
        obtain ⟨k, hk, rfl, ho, hb, hs⟩ := hrel
        by_cases hlt : k < L.length
        · have hlt' : (k : Int) < (n0 : Int) := by omega
          have hk0 : (0 : Int) ≤ (k : Int) := by omega
          have x0 := (hb.cell (p := ⟨sb, k, none⟩) hsb).trans (HC.out k hlt)
          obtain ⟨i0, hi, hz0, hz1, hz2⟩ := info_parts u8_info
          have hst : lenTo L (k + 1) = lenTo L k + (L[k]).length := by rw [lenTo, flat_step hlt, List.length_append]; rfl
          have hle : lenTo L k + (L[k]).length ≤ 67108864 := by have := flat_le L (k + 1); rw [HN.out] at this; rw [← hst]; exact Nat.le_trans this hl
          have hBk : Bs wr (some (ad k)) L[k] := (HB.out k hlt).keep hb
          obtain ⟨m, hm⟩ : ∃ m, (L[k]).length = m := ⟨_, rfl⟩
          obtain ⟨a, ha⟩ : ∃ a, lenTo L k = a := ⟨_, rfl⟩
          obtain ⟨cs, hcs⟩ : ∃ cs, L[k] = cs := ⟨_, rfl⟩
          obtain ⟨fl, hfl⟩ : ∃ fl, (L.take k).flatten = fl := ⟨_, rfl⟩
          have hf1 : (L.take (k + 1)).flatten = fl ++ cs := by rw [flat_step hlt, hfl, hcs]
          rw [hm, ha] at hst hle
          rw [hm] at x0
          rw [hcs] at hBk hm
          rw [ha, hfl] at ho
          have HO := Lib.hid ho; have HWB := Lib.hid hb; have HS := Lib.hid hs; have HBK := Lib.hid hBk; have HM := Lib.hid hm; have HLE := Lib.hid hle; have HST := Lib.hid hst; have HF1 := Lib.hid hf1
          have HI0 := Lib.hid hi; have HZ0 := Lib.hid hz0; have HZ1 := Lib.hid hz1; have HZ2 := Lib.hid hz2
          clear ho hb hs hBk hm ha hcs hfl hle hst hf1 hi hz0 hz1 hz2
          go_wp2_with (refine wpList_append_own _ rfl _ _ 51 rfl base 5 i0 (.int .u8 0) 1 1 Tryz.underlying51 HI0.out HZ0.out HZ1.out HZ2.out rfl (by decide) u6 a (bytesV fl) rfl HO.out (ad k) m (cc k) (bytesV cs) rfl (by rw [bytesV_len, HM.out, Nat.mul_one]) HBK.out.read (bytesV_one _) (by have := HLE.out; unfold maxLen; omega) (by have := HLE.out; omega) HS.out ?_; intro v5 w5 hown5 hgr5 hnil5; have HO5 := Lib.hid hown5; have HG5 := Lib.hid hgr5; clear hown5 hgr5 hnil5)
          go_roundw
          case rel => exact ⟨k + 1, hlt, by go_num, by rw [HST.out, HF1.out, bytesV_app]; exact HO5.out, HWB.out.grown HG5.out HWB.out.size (fun g hg => Nat.le_trans HBW.out (own_base HO.out g hg)), Nat.le_trans HS.out HG5.out.size⟩
          case measure => simp [intOf]; omega
        · have hkm : k = L.length := by omega
          subst hkm
          have hlt' : ¬ ((L.length : Nat) : Int) < (n0 : Int) := by omega
          rw [show lenTo L L.length = N from by rw [lenTo, List.take_length]; exact HN.out, List.take_length] at ho
          obtain ⟨A, c, rfl⟩ := own_slice ho
          obtain ⟨g, cp, hv⟩ := own_forms ho (by intro e; injection e with e1 e2 _; omega)
          injection hv with hv1 _ hv3
          subst hv1 hv3
          obtain ⟨h1, h2, h3, _⟩ := own_blk ho HN.out
          have HF := Lib.hid (show ∃ g' c', Ending.returned (.slice (some ⟨g, 0, none⟩) N c) = .returned (.slice (some ⟨g', 0, none⟩) N c') ∧ w.heap.size ≤ g' ∧ N ≤ c' ∧ Blk wr 5 g' L.flatten ∧ Below w.heap.size w wr from ⟨g, c, rfl, Nat.le_trans HBW.out h3, h2, h1, hb⟩)
          clear ho h1 h2 h3 hb hs
          go_wp2_with fail
          go_ret
          exact HF.out
end Go.Proofs.YtbnkanehjnepbaaGreatDoor.Oc
end
