/- Packed: HeapC, BookA. -/
import Derived.Test.YtkmpchffflemcaaGreatDoorPk7
import Derived.Test.YtkmpchffflemcaaGreatDoorPk1
import Derived.IntWalk
import Derived.Test.YtkmpchffflemcaaGreatDoorProg
set_option linter.unusedVariables false
set_option linter.unusedSimpArgs false
/- Packed: Heap5 Book -/
section
set_option linter.unusedVariables false
set_option linter.unusedSimpArgs false
/- Heap5: The heap of what is due: New, none, Push. -/
section
namespace Go.Proofs.YtkmpchffflemcaaGreatDoor.Hp
open Go.RowKit

theorem HeapIn.mono {S T : Nat → Prop} {w : World} {p l : Nat} {next : Int} {f : Nat → Due} (h : HeapIn S w p l next f) (hST : ∀ k, S k → k < w.heap.size → T k) : HeapIn T w p l next f := by
  obtain ⟨iv, mb, φ, hp, hr, hm, hpl, sp, sm⟩ := h.lies
  exact ⟨⟨iv, mb, φ, hp, hr.mono hST, hm, hpl, hST p sp hp.lt, hST mb sm hm.lt⟩, h.bound⟩
theorem HeapIn.same {S : Nat → Prop} {w w' : World} {p l : Nat} {next : Int} {f : Nat → Due} (h : HeapIn S w p l next f) (hk : ∀ k, S k → k < w.heap.size → w'.heap[k]? = w.heap[k]?) : HeapIn S w' p l next f := by
  obtain ⟨iv, mb, φ, hp, hr, hm, hpl, sp, sm⟩ := h.lies
  exact ⟨⟨iv, mb, φ, (hk p sp hp.lt).trans hp, hr.same hk, hm.same (hk mb sm hm.lt), hpl, sp, sm⟩, h.bound⟩

theorem func_nil (W : World) : (binOp BinOp.eql 203 (.func (.func 88) #[] #[]) Value.nilFunc).run Tryz.prog W = .ok (.bool false) W := by kernel_rfl
set_option maxRecDepth 100000 in
set_option maxHeartbeats 1000000 in
theorem none_in (p : Nat) (w : World) (x0 : w.cell? ⟨p, 0, none⟩ = some lessV) : Calls Tryz.prog 262 #[.pointer (some ⟨p, 0, none⟩)] w fun e w' => e = .returned (.bool false) ∧ w' = w := by
  rw [show lessV = .func (.func 88) #[] #[] from rfl] at x0
  have hfn := func_nil
  go_enter Tryz.func262, Tryz.ntmps262
  go_wp2_with fail
  go_ret
  exact ⟨rfl, rfl⟩

def HpNew (w : World) (e : Ending) (w' : World) : Prop := ∃ p, e = .returned (.pointer (some ⟨p, 0, none⟩)) ∧ HeapIn (fun k => w.heap.size ≤ k) w' p 0 0 (fun _ => ⟨0, 0, 0⟩) ∧ Below w.heap.size w w'
set_option maxRecDepth 100000 in
set_option maxHeartbeats 1000000 in
theorem New_in (w : World) : Calls Tryz.prog 87 #[.func (.func 88) #[] #[]] w (HpNew w) := by
  have hfn := func_nil
  have hmm := @run_makeMap Tryz.prog
  go_enter Tryz.func87, Tryz.ntmps87
  go_wp2_with fail
  go_ret
  have hb : Below w.heap.size w ((w.alloc (.map #[] 0)).alloc (.cells #[.func (.func 88) #[] #[], .slice none 0 0, .map (some w.heap.size), .int .i64 0] 307)) := ext_alloc (ext_alloc (Below.refl _ _) _) _
  exact ⟨w.heap.size + 1, rfl, ⟨⟨_, w.heap.size, fun _ => none, Arr.new (by simp), RowIn.nil _ _ _ _ _, (MapAt.made _ _ _ _ w).alloc _, ⟨fun i hi => by omega, fun h i hi => by cases hi⟩, by omega, Nat.le_refl _⟩, by omega, by omega, by omega, fun i hi => by omega⟩, hb⟩

theorem itemL_snoc (f : Nat → Due) (l : Nat) (x : Due) : setL (itemL f) l [.int .i64 x.til, .int .u32 x.id, .int .i64 x.handle] = itemL (setL f l x) := by
  funext j
  unfold setL itemL
  by_cases h : j = l
  · subst h; simp
  · simp [h]
theorem Placed.snoc {f : Nat → Due} {l : Nat} {φ : Int → Option Int} (h : Placed f l φ) (x : Due) (hx : ∀ i, i < l → (f i).handle ≠ x.handle) : Placed (setL f l x) (l + 1) (mput φ x.handle (some (l : Int))) := by
  refine ⟨fun i hi => ?_, fun y z hz => ?_⟩
  · by_cases e : i = l
    · subst e; rw [setL_same, mput_same]
    · rw [setL_other _ _ e, mput_other _ _ (hx i (by omega))]
      exact h.1 i (by omega)
  · by_cases e : y = x.handle
    · subst e
      rw [mput_same] at hz
      injection hz with hz
      exact ⟨l, by omega, hz.symm, by rw [setL_same]⟩
    · rw [mput_other _ _ e] at hz
      obtain ⟨j, hj, e1, e2⟩ := h.2 y z hz
      exact ⟨j, by omega, e1, by rw [setL_other _ _ (by omega)]; exact e2⟩
theorem Placed.none {f : Nat → Due} {l : Nat} {φ : Int → Option Int} (h : Placed f l φ) {y : Int} (hy : ∀ i, i < l → (f i).handle ≠ y) : φ y = none := by
  cases hφ : φ y with
  | none => rfl
  | some z =>
    obtain ⟨j, hj, _, e⟩ := h.2 y z hφ
    exact absurd e (hy j hj)
def PushOut (S : Nat → Prop) (w : World) (p l : Nat) (next : Int) (f : Nat → Due) (til id : Int) (e : Ending) (w' : World) : Prop :=
  e = .returned (.tuple #[.int .i64 next, .int .i64 0]) ∧ HeapIn (fun k => S k ∨ w.heap.size ≤ k) w' p (l + 1) (next + 1) (settleD (setL f l ⟨til, id, next⟩) (l + 1) l) ∧ Tch S w w'
set_option maxRecDepth 100000 in
set_option maxHeartbeats 2000000 in
theorem Push_in (S : Nat → Prop) (p l : Nat) (next : Int) (f : Nat → Due) (til id : Int) (w : World) (h : HeapIn S w p l next f) (hl : l < 65536) (hn : next < 1099511627776) :
    Calls Tryz.prog 261 #[.pointer (some ⟨p, 0, none⟩), .agg #[.int .i64 til, .int .u32 id]] w (PushOut S w p l next f til id) := by
  obtain ⟨i0, hi, hz0, hz1, hz2⟩ := info_parts item_info
  have HH := Lib.hid h
  clear h
  go_enter Tryz.func261, Tryz.ntmps261
  go_wp2_with fail
  have hb1 : Below w.heap.size w (w.alloc (.cells #[.int .i64 til, .int .u32 id] 202)) := ext_alloc (Below.refl _ _) _
  have hA1 : Arr (w.alloc (.cells #[.int .i64 til, .int .u32 id] 202)) w.heap.size 202 #[.int .i64 til, .int .u32 id] := Arr.fresh w _ _
  obtain ⟨w1, hw1⟩ : ∃ w1, w.alloc (.cells #[.int .i64 til, .int .u32 id] 202) = w1 := ⟨_, rfl⟩
  obtain ⟨vb, hvb⟩ : ∃ vb, w.heap.size = vb := ⟨_, rfl⟩
  have hs1 : w1.heap.size = vb + 1 := by rw [← hw1, ← hvb]; simp
  rw [hw1] at hb1 hA1 ⊢
  rw [hvb] at hA1 ⊢
  have hI1 := RowIn_keepT hb1 HH.out
  obtain ⟨iv, mb, φ, hp, hr, hm, hpl, sp, sm⟩ := hI1.lies
  obtain ⟨A, cap, rfl⟩ := hr.any
  have hb9 := HH.out.bound
  have HL := Lib.hid hl
  clear hl
  clear hw1 hI1
  refine (none_in p w1 (hp.cell 0)).mono ?_
  rintro e w2 ⟨rfl, hw2⟩
  rw [hw2]
  clear hw2 w2
  have x1 : w1.cell? ⟨p, 1, none⟩ = some (.slice A l cap) := hp.cell 1
  have x3 : w1.cell? ⟨p, 3, none⟩ = some (.int .i64 next) := hp.cell 3
  have m3 := hp.mark 3
  have hpl1 := hp.lt
  have hn0 : 0 ≤ next := hb9.2.1
  have hlg : decide ((65536 : Int) ≤ (l : Int)) = false := decide_eq_false (by have := HL.out; omega)
  have HP := Lib.hid hp; have HR := Lib.hid hr; have HM := Lib.hid hm; have HPL := Lib.hid hpl; have HB1 := Lib.hid hb1; have HA1 := Lib.hid hA1; have HVB := Lib.hid hvb; have HS1 := Lib.hid hs1; have HB9 := Lib.hid hb9
  clear hp hr hm hpl hb1 hA1 hvb hs1 hb9
  go_wp2_with fail
  have hp2 : Arr (w1.setCell ⟨p, 3, none⟩ (.int .i64 (next + 1))) p 307 #[lessV, .slice A l cap, .map (some mb), .int .i64 (next + 1)] := HP.out.put 3 _
  have hr2 : RowIn S (w1.setCell ⟨p, 3, none⟩ (.int .i64 (next + 1))) 426 3 (.slice A l cap) l (itemL f) := HR.out.put (q := ⟨p, 3, none⟩) (fun g hg => HR.out.ne_arr hg HP.out (by decide)) _
  have hpm : p ≠ mb := map_ne_arr HM.out HP.out
  have hm2 : MapAt Tryz.prog 3 3 .i64 (w1.setCell ⟨p, 3, none⟩ (.int .i64 (next + 1))) mb l φ := HM.out.same (Below.heap_setCell w1 ⟨p, 3, none⟩ _ mb (fun e => hpm e.symm))
  have hA2 : Arr (w1.setCell ⟨p, 3, none⟩ (.int .i64 (next + 1))) vb 202 #[.int .i64 til, .int .u32 id] := HA1.out.other (p := ⟨p, 3, none⟩) (fun e => by
    have h1 : p < w.heap.size := by obtain ⟨_, _, _, h1, _⟩ := HH.out.lies; exact h1.lt
    have h2 := HVB.out
    simp at e; omega) _
  have hT2 : Tch S w (w1.setCell ⟨p, 3, none⟩ (.int .i64 (next + 1))) := ((Tch.refl S w).below HB1.out).put (p := ⟨p, 3, none⟩) (.inl sp) _
  have hs2 : (w1.setCell ⟨p, 3, none⟩ (.int .i64 (next + 1))).heap.size = vb + 1 := by simp [HS1.out]
  obtain ⟨w2, hw2⟩ : ∃ w2, w1.setCell ⟨p, 3, none⟩ (.int .i64 (next + 1)) = w2 := ⟨_, rfl⟩
  rw [hw2] at hp2 hr2 hm2 hA2 hT2 hs2 ⊢
  clear hw2 x1 x3 m3 HP HR HM HA1
  have x1 : w2.cell? ⟨p, 1, none⟩ = some (.slice A l cap) := hp2.cell 1
  have y0 : w2.cell? ⟨vb, 0, none⟩ = some (.int .i64 til) := hA2.cell 0
  have y1 : w2.cell? ⟨vb, 1, none⟩ = some (.int .u32 id) := hA2.cell 1
  have hpl2 := hp2.lt
  have hba : Below w2.heap.size w2 (w2.drew.alloc (.cells #[.int .i64 til, .int .u32 id, .int .i64 next] 426)) := ext_alloc (ext_drew (Below.refl _ _)) _
  have HRX := Lib.hid (hr2.keep hba)
  have HPX := Lib.hid (hp2.keep hba)
  have HMX := Lib.hid (hm2.same (hba.block mb hm2.lt))
  have HTX := Lib.hid (hT2.below hba)
  have HS2 := Lib.hid hs2
  have HCS : ∀ w', Below w2.heap.size w2 w' → (w'.cell? ⟨p, 1, none⟩ = some (.slice A l cap) ∧ w'.cell? ⟨vb, 0, none⟩ = some (.int .i64 til) ∧ w'.cell? ⟨vb, 1, none⟩ = some (.int .u32 id)) := fun w' hb => ⟨(hb.cell (p := ⟨p, 1, none⟩) hp2.lt).trans x1, (hb.cell (p := ⟨vb, 0, none⟩) hA2.lt).trans y0, (hb.cell (p := ⟨vb, 1, none⟩) hA2.lt).trans y1⟩
  have HCS := Lib.hid HCS
  have HAX := Lib.hid (hA2.keep hba)
  clear hp2 hr2 hm2 hA2 hT2 hs2 hba x1 y0 y1
  refine region_any_drew (by kernel_rfl) ?_
  refine AnyTill.any (S := (fun w' => w'.cell? ⟨p, 1, none⟩ = some (.slice A l cap) ∧ w'.cell? ⟨vb, 0, none⟩ = some (.int .i64 til) ∧ w'.cell? ⟨vb, 1, none⟩ = some (.int .u32 id))) (t := 12) _ _ _ _ ?_
  have hHeld := (show (fun w' => w'.cell? ⟨p, 1, none⟩ = some (.slice A l cap) ∧ w'.cell? ⟨vb, 0, none⟩ = some (.int .i64 til) ∧ w'.cell? ⟨vb, 1, none⟩ = some (.int .u32 id)) w2.drew from HCS.out _ (ext_drew (Below.refl _ _)))
  refine till_take (i := 0) (oi := ?o1) (d := (some 26)) (v := ?v1) ?hi1 (by kernel_rfl) (by kernel_rfl) (by kernel_rfl) (by kernel_rfl) (by kernel_rfl) (fun _ _ _ h => h) ?hd1 ?hw1 ?hy1 hHeld ?_
  case hi1 => (simp only [List.getElem?_toArray, List.getElem?_cons_zero]; exact rfl)
  case hd1 => rfl
  case hw1 => rfl
  case hy1 => (intro w hSw; (try dsimp only at hSw); go_simp; try with_reducible rfl)
  try simp only [Act.put, List.setIfInBounds_toArray, List.set_cons_zero, List.set_cons_succ]
  refine till_take (i := 1) (oi := ?o2) (d := (some 27)) (v := ?v2) ?hi2 (by kernel_rfl) (by kernel_rfl) (by kernel_rfl) (by kernel_rfl) (by kernel_rfl) (fun _ _ _ h => h) ?hd2 ?hw2 ?hy2 hHeld ?_
  case hi2 => (simp only [List.getElem?_toArray, List.getElem?_cons_zero, List.getElem?_cons_succ]; exact rfl)
  case hd2 => rfl
  case hw2 => rfl
  case hy2 => (intro w hSw; (try dsimp only at hSw); go_simp; try with_reducible rfl)
  try simp only [Act.put, List.setIfInBounds_toArray, List.set_cons_zero, List.set_cons_succ]
  refine till_take (i := 2) (oi := ?o3) (d := (some 28)) (v := ?v3) ?hi3 (by kernel_rfl) (by kernel_rfl) (by kernel_rfl) (by kernel_rfl) (by kernel_rfl) (fun _ _ _ h => h) ?hd3 ?hw3 ?hy3 hHeld ?_
  case hi3 => (simp only [List.getElem?_toArray, List.getElem?_cons_zero, List.getElem?_cons_succ]; exact rfl)
  case hd3 => rfl
  case hw3 => rfl
  case hy3 => (intro w hSw; (try dsimp only at hSw); go_simp; try with_reducible rfl)
  try simp only [Act.put, List.setIfInBounds_toArray, List.set_cons_zero, List.set_cons_succ]
  refine till_take (i := 3) (oi := ?o4) (d := (some 29)) (v := ?v4) ?hi4 (by kernel_rfl) (by kernel_rfl) (by kernel_rfl) (by kernel_rfl) (by kernel_rfl) (fun _ _ _ h => h) ?hd4 ?hw4 ?hy4 hHeld ?_
  case hi4 => (simp only [List.getElem?_toArray, List.getElem?_cons_zero, List.getElem?_cons_succ]; exact rfl)
  case hd4 => rfl
  case hw4 => rfl
  case hy4 => (intro w hSw; (try dsimp only at hSw); go_simp; try with_reducible rfl)
  try simp only [Act.put, List.setIfInBounds_toArray, List.set_cons_zero, List.set_cons_succ]
  refine till_take (i := 4) (oi := ?o5) (d := (some 30)) (v := ?v5) ?hi5 (by kernel_rfl) (by kernel_rfl) (by kernel_rfl) (by kernel_rfl) (by kernel_rfl) (fun _ _ _ h => h) ?hd5 ?hw5 ?hy5 hHeld ?_
  case hi5 => (simp only [List.getElem?_toArray, List.getElem?_cons_zero, List.getElem?_cons_succ]; exact rfl)
  case hd5 => rfl
  case hw5 => rfl
  case hy5 => (intro w hSw; (try dsimp only at hSw); go_simp; try with_reducible rfl)
  try simp only [Act.put, List.setIfInBounds_toArray, List.set_cons_zero, List.set_cons_succ]
  refine till_take (i := 5) (oi := ?o6) (d := (some 31)) (v := ?v6) ?hi6 (by kernel_rfl) (by kernel_rfl) (by kernel_rfl) (by kernel_rfl) (by kernel_rfl) (fun _ _ _ h => h) ?hd6 ?hw6 ?hy6 hHeld ?_
  case hi6 => (simp only [List.getElem?_toArray, List.getElem?_cons_zero, List.getElem?_cons_succ]; exact rfl)
  case hd6 => rfl
  case hw6 => rfl
  case hy6 => (intro w hSw; (try dsimp only at hSw); go_simp; try with_reducible rfl)
  try simp only [Act.put, List.setIfInBounds_toArray, List.set_cons_zero, List.set_cons_succ]
  refine till_take (i := 6) (oi := ?o7) (d := (some 32)) (v := ?v7) ?hi7 (by kernel_rfl) (by kernel_rfl) (by kernel_rfl) (by kernel_rfl) (by kernel_rfl) (fun _ _ _ h => h) ?hd7 ?hw7 ?hy7 hHeld ?_
  case hi7 => (simp only [List.getElem?_toArray, List.getElem?_cons_zero, List.getElem?_cons_succ]; exact rfl)
  case hd7 => rfl
  case hw7 => rfl
  case hy7 => (intro w hSw; (try dsimp only at hSw); go_simp; try with_reducible rfl)
  try simp only [Act.put, List.setIfInBounds_toArray, List.set_cons_zero, List.set_cons_succ]
  refine till_take (i := 7) (oi := ?o8) (d := (some 33)) (v := ?v8) ?hi8 (by kernel_rfl) (by kernel_rfl) (by kernel_rfl) (by kernel_rfl) (by kernel_rfl) (fun _ _ _ h => h) ?hd8 ?hw8 ?hy8 hHeld ?_
  case hi8 => (simp only [List.getElem?_toArray, List.getElem?_cons_zero, List.getElem?_cons_succ]; exact rfl)
  case hd8 => rfl
  case hw8 => rfl
  case hy8 => (intro w hSw; (try dsimp only at hSw); go_simp; try with_reducible rfl)
  try simp only [Act.put, List.setIfInBounds_toArray, List.set_cons_zero, List.set_cons_succ]
  refine AnyTill.step (i := 8) (by kernel_rfl) (by kernel_rfl) rfl (fun K hK => ?_)
  go_simp
  go_wp2_with fail
  refine hK.out _ _ (by first | exact HCS.out _ (ext_alloc (ext_drew (Below.refl _ _)) _) | exact ⟨x1, y0, y1⟩) (fun hHeld8 => ?_)
  clear hK K
  try simp only [Act.put, List.setIfInBounds_toArray, List.set_cons_zero, List.set_cons_succ]
  refine AnyTill.step (i := 9) (by kernel_rfl) (by kernel_rfl) rfl (fun K hK => ?_)
  rw [if_pos (by rfl)]
  refine wp_append_elem _ (.tmp 30) (.tmp 34) 305 rfl 426 i0 (.agg #[.int .i64 0, .int .u32 0, .int .i64 0]) 3 24 Tryz.underlying305 hi hz0 hz1 hz2 rfl (by decide) (.slice A l cap) l (itemL f) rfl HRX.out ⟨w2.heap.size, 0, none⟩ 1 [.int .i64 til, .int .u32 id, .int .i64 next] rfl rfl (news_any w2.drew _ _) (by intro u hu; simp at hu; rcases hu with rfl | rfl | rfl <;> rfl) (by have := HL.out; unfold maxLen; omega) (by have := HL.out; omega) ?_
  intro g cp w3 hr3 hg3
  have hp3 : Arr w3 p 307 #[lessV, .slice A l cap, .map (some mb), .int .i64 (next + 1)] := (hg3.block p HPX.out.lt (fun e => HRX.out.ne_arr e.symm HPX.out (by decide) rfl)).trans HPX.out
  have hm3 := HMX.out.same (hg3.block mb HMX.out.lt (fun e => HRX.out.ne_map e.symm HMX.out rfl))
  have hA3 : Arr w3 vb 202 #[.int .i64 til, .int .u32 id] := (hg3.block vb HAX.out.lt (fun e => HRX.out.ne_arr e.symm HAX.out (by decide) rfl)).trans HAX.out
  have hT3 := HTX.out.grown hg3 (fun k e => .inl (HRX.out.block k e))
  have x1 : w3.cell? ⟨p, 1, none⟩ = some (.slice A l cap) := Arr.cell hp3 1
  have y0 : w3.cell? ⟨vb, 0, none⟩ = some (.int .i64 til) := Arr.cell hA3 0
  have y1 : w3.cell? ⟨vb, 1, none⟩ = some (.int .u32 id) := Arr.cell hA3 1
  have m1 := Arr.mark hp3 1
  have HP3 := Lib.hid hp3; have HM3 := Lib.hid hm3; have HT3 := Lib.hid hT3; have HR3 := Lib.hid hr3
  clear hp3 hm3 hT3 hr3 hg3 hA3
  refine hK.out _ _ (by first | exact HCS.out _ (ext_alloc (ext_drew (Below.refl _ _)) _) | exact ⟨x1, y0, y1⟩) (fun hHeld9 => ?_)
  clear hK K
  try simp only [Act.put, List.setIfInBounds_toArray, List.set_cons_zero, List.set_cons_succ]
  refine till_pure (i := 10) (oi := ?o9) (d := (some 36)) (v := ?v9) ?hi9 (by kernel_rfl) (by kernel_rfl) (by kernel_rfl) (by kernel_rfl) (fun _ _ _ h => h) ?hd9 ?hw9 ?hy9 hHeld9 ?_
  case hi9 => (simp only [List.getElem?_toArray, List.getElem?_cons_zero, List.getElem?_cons_succ]; exact rfl)
  case hd9 => rfl
  case hw9 => rfl
  case hy9 => (intro w; go_simp; try with_reducible rfl)
  try simp only [Act.put, List.setIfInBounds_toArray, List.set_cons_zero, List.set_cons_succ]
  refine till_pure (i := 11) (oi := ?o10) (d := (some 37)) (v := ?v10) ?hi10 (by kernel_rfl) (by kernel_rfl) (by kernel_rfl) (by kernel_rfl) (fun _ _ _ h => h) ?hd10 ?hw10 ?hy10 hHeld9 ?_
  case hi10 => (simp only [List.getElem?_toArray, List.getElem?_cons_zero, List.getElem?_cons_succ]; exact rfl)
  case hd10 => rfl
  case hw10 => rfl
  case hy10 => (intro w; go_simp; try with_reducible rfl)
  try simp only [Act.put, List.setIfInBounds_toArray, List.set_cons_zero, List.set_cons_succ]
  refine AnyTill.last (by kernel_rfl) ?_
  refine any_drop 12 (by kernel_rfl) (by kernel_rfl) ?_
  simp only [List.drop_succ_cons, List.drop_zero]
  go_wp2_with fail
  have hpm : p ≠ mb := map_ne_arr HM3.out HP3.out
  have hp4 : Arr (w3.setCell ⟨p, 1, none⟩ (.slice (some ⟨g, 0, none⟩) (l + 1) cp)) p 307 #[lessV, .slice (some ⟨g, 0, none⟩) (l + 1) cp, .map (some mb), .int .i64 (next + 1)] := HP3.out.put 1 _
  have hr4 : RowIn (fun k => S k ∨ w.heap.size ≤ k) (w3.setCell ⟨p, 1, none⟩ (.slice (some ⟨g, 0, none⟩) (l + 1) cp)) 426 3 (.slice (some ⟨g, 0, none⟩) (l + 1) cp) (l + 1) (itemL (setL f l ⟨til, id, next⟩)) := by
    rw [← itemL_snoc]
    refine (HR3.out.mono ?_).put (q := ⟨p, 1, none⟩) (fun k hk => HR3.out.ne_arr hk HP3.out (by decide)) _
    intro k hk _
    rcases hk with hk | hk
    · exact .inl hk
    · right
      have h1 := HVB.out
      have h2 := HS2.out
      rw [hk]
      simp
      omega
  have hm4 : MapAt Tryz.prog 3 3 .i64 (w3.setCell ⟨p, 1, none⟩ (.slice (some ⟨g, 0, none⟩) (l + 1) cp)) mb l φ := HM3.out.same (Below.heap_setCell w3 ⟨p, 1, none⟩ _ mb (fun e => hpm e.symm))
  have hT4 : Tch S w (w3.setCell ⟨p, 1, none⟩ (.slice (some ⟨g, 0, none⟩) (l + 1) cp)) := HT3.out.put (p := ⟨p, 1, none⟩) (.inl sp) _
  obtain ⟨w4, hw4⟩ : ∃ w4, w3.setCell ⟨p, 1, none⟩ (.slice (some ⟨g, 0, none⟩) (l + 1) cp) = w4 := ⟨_, rfl⟩
  rw [hw4] at hp4 hr4 hm4 hT4 ⊢
  clear hw4 x1 y0 y1 m1 hHeld9 HP3 HR3 HM3 HT3 HRX HPX HMX HTX HAX HCS hHeld hHeld8
  have x1 : w4.cell? ⟨p, 1, none⟩ = some (.slice (some ⟨g, 0, none⟩) (l + 1) cp) := hp4.cell 1
  have x2 : w4.cell? ⟨p, 2, none⟩ = some (.map (some mb)) := hp4.cell 2
  have hm4' : MapAt Tryz.prog 3 3 .i64 w4.drew mb l φ := hm4
  have HM4 := Lib.hid hm4'
  have HP4 := Lib.hid hp4
  have HR4 := Lib.hid hr4
  have HT4 := Lib.hid hT4
  have hnx : next + 1 ≤ 1099511627776 := by omega
  have hlb : (l : Int) < 65536 := by have := HL.out; omega
  have HWL := Lib.hid (show IntKind.i64.wrap (l : Int) = (l : Int) from IntWalk.i64_in _ (by omega))
  clear hm4 hm4' hp4 hr4 hT4
  go_still_tail 11, (by kernel_rfl)
  change wpList _ _ _ _ _ w4.drew
  (repeat (fail_if_success at_mapUpdate; (first | go_values | go_skip | go_guarded | go_step | go_upon)))
  refine wpList_mapUpdate_at rfl _ _ _ 304 rfl 3 3 .i64 Tryz.underlying3 Tryz.underlying3 Tryz.underlying304 mb l φ rfl HM4.out (by have := HL.out; unfold maxLen; omega) next (IntKind.i64.wrap (l : Int)) rfl rfl (WalkArith.wf_i64 (by omega)) (by rw [HWL.out]; exact WalkArith.wf_i64 (by omega)) ?_
  intro w5 hm5 hg5
  have HM5 := Lib.hid hm5
  have HG5 := Lib.hid hg5
  clear hm5 hg5
  have hgr5 : w4.grownBy w5 (some mb) := ⟨HG5.out.os, HG5.out.tape, HG5.out.output, HG5.out.size, HG5.out.block⟩
  have hhs : ∀ i, i < l → (f i).handle ≠ next := fun i hi => by have := (HB9.out.2.2.2 i hi).2; omega
  have hm5 := HM5.out
  rw [HPL.out.none hhs, HWL.out] at hm5
  have hI5 : HeapIn (fun k => S k ∨ w.heap.size ≤ k) w5 p (l + 1) (next + 1) (setL f l ⟨til, id, next⟩) := by
    refine ⟨⟨_, mb, _, (hgr5.block p HP4.out.lt (by simpa using hpm)).trans HP4.out, HR4.out.own_block hgr5 (map_ne_row HM4.out (HR4.out.same fun _ _ _ => rfl)), hm5, HPL.out.snoc ⟨til, id, next⟩ hhs, .inl sp, .inl sm⟩, by have := HL.out; omega, by omega, hnx, fun i hi => ?_⟩
    by_cases e : i = l
    · subst e; rw [setL_same]; exact ⟨hn0, by show next < next + 1; omega⟩
    · rw [setL_other _ _ e]
      have := HB9.out.2.2.2 i (by omega)
      omega
  have hT5 := HT4.out.grown hgr5 (fun q e => .inl (by injection e with e; subst e; exact sm))
  have y1 : w5.cell? ⟨p, 1, none⟩ = some (.slice (some ⟨g, 0, none⟩) (l + 1) cp) := Arr.cell ((hgr5.block p HP4.out.lt (by simpa using hpm)).trans HP4.out) 1
  clear x1 x2 hm5 HM5 HG5 HM4 HP4 HR4 HT4 hgr5
  have HI5 := Lib.hid hI5
  have HT5 := Lib.hid hT5
  clear hI5 hT5
  have hw1 : ((l : Int) + 1) - 1 = (l : Int) := by omega
  go_wp2_with fail
  refine (settle_in _ p (l + 1) l (next + 1) _ w5 HI5.out (by omega)).mono ?_
  rintro e w6 ⟨⟨v6, rfl⟩, hI6, hT6⟩
  have HI6 := Lib.hid hI6
  have HT6 := Lib.hid (HT5.out.new hT6)
  clear hI6 hT6
  go_wp2_with fail
  go_ret2
  exact ⟨rfl, HI6.out, HT6.out⟩

end Go.Proofs.YtkmpchffflemcaaGreatDoor.Hp
end

/- Book: The book in memory: its parts, what keeps them. -/
section
namespace Go.Proofs.YtkmpchffflemcaaGreatDoor.Bk
open Go.RowKit
open Go.Proofs.YtkmpchffflemcaaGreatDoor.Bit (SetAt hasB)
open Go.Proofs.YtkmpchffflemcaaGreatDoor.Idx (IdxOk Slot)
open Go.Proofs.YtkmpchffflemcaaGreatDoor.Hp (HeapIn Due)

structure Bkg where
  id : Int
  seat : Nat
  til : Int
def bkgL (x : Bkg) : List Value := [.int .u32 x.id, .int .i64 x.seat, .int .i64 x.til]
theorem bkgL_one (x : Bkg) : ∀ u ∈ bkgL x, u.oneCell' = true := by
  intro u hu
  simp only [bkgL, List.mem_cons, List.not_mem_nil, or_false] at hu
  rcases hu with rfl | rfl | rfl <;> rfl
theorem bkg_info : (Tryz.prog.info? 258).map (fun i => (i.zero, i.size, i.bytes)) = some (some (.agg #[.int .u32 0, .int .i64 0, .int .i64 0]), 3, 24) := by kernel_rfl
theorem bkg_size : (Tryz.prog.info? 258).map (·.size) = some 3 := by kernel_rfl
/-- where a book's parts lie, and what is in them -/
structure Parts where
  tp : Nat
  tg : Nat
  tc : Nat
  ip : Nat
  ig : Nat
  m : Nat
  sg : Nat
  sc : Nat
  hp : Nat
  hl : Nat
  mb : Nat
  hm : Nat
  ws : Nat → Nat
  f : Nat → Slot
  sb : Nat → Bkg
  hn : Int
  hf : Nat → Due
  φ : Int → Option Int
  H : Nat → Prop
structure Comp (S : Nat → Prop) (w : World) (b n codes : Nat) (group next clock : Int) (len : Nat) (q : Parts) : Prop where
  own : Arr w b 195 #[.int .i64 n, .int .i64 codes, .int .i64 group, .bool true, .int .i64 clock, .int .u32 next, .pointer (some ⟨q.tp, 0, none⟩), .pointer (some ⟨q.ip, 0, none⟩), .slice (some ⟨q.sg, 0, none⟩) n q.sc, .pointer (some ⟨q.hp, 0, none⟩), .map (some q.mb)]
  taken : SetAt w q.tp q.tg q.tc n q.ws
  ids : IdxOk w q.ip q.ig q.m codes len 0 q.f
  seats : RowIn S w 258 3 (.slice (some ⟨q.sg, 0, none⟩) n q.sc) n (fun i => bkgL (q.sb i))
  due : HeapIn q.H w q.hp q.hl q.hn q.hf
  held : MapAt Tryz.prog 188 3 .u32 w q.mb q.hm q.φ
  foot : S b ∧ S q.tp ∧ S q.tg ∧ S q.ip ∧ S q.ig ∧ S q.mb
  apart : ∀ k, q.H k → S k ∧ k ≠ b ∧ k ≠ q.tp ∧ k ≠ q.tg ∧ k ≠ q.ip ∧ k ≠ q.ig ∧ k ≠ q.sg ∧ k ≠ q.mb
  lt : ∀ k, S k → k < w.heap.size
section
variable {S : Nat → Prop} {w w' : World} {b n codes : Nat} {group next clock : Int} {len : Nat} {q : Parts}
theorem Comp.arrs (h : Comp S w b n codes group next clock len q) : (∃ cs, Arr w b 195 cs) ∧ (∃ cs, Arr w q.tp 300 cs) ∧ (∃ cs, Arr w q.tg 57 cs) ∧ (∃ cs, Arr w q.ip 303 cs) ∧ (∃ cs, Arr w q.ig 412 cs) ∧ (∃ cs, Arr w q.sg 258 cs) := by
  obtain ⟨cur, h1, _⟩ := h.taken.row
  obtain ⟨s, hs⟩ := h.ids.lies
  obtain ⟨cur2, h2, _⟩ := hs.rows
  exact ⟨⟨_, h.own⟩, ⟨_, h.taken.own⟩, ⟨cur, h1⟩, ⟨_, hs.own⟩, ⟨cur2, h2⟩, h.seats.arr⟩
theorem SetAt_same {p g c n : Nat} {ws : Nat → Nat} (h : SetAt w p g c n ws) (hp : w'.heap[p]? = w.heap[p]?) (hg : w'.heap[g]? = w.heap[g]?) : SetAt w' p g c n ws := by
  obtain ⟨cur, h1, h2⟩ := h.row
  exact ⟨hp.trans h.own, ⟨cur, hg.trans h1, h2⟩, h.small, h.apart⟩
/-- a step that turned one of the parts alone (T: the blocks it may have turned, and new ones) -/
theorem Comp.keepOwn {T : Nat → Prop} (h : Comp S w b n codes group next clock len q) (ht : Tch T w w') (hT : ¬ T b) : Arr w' b 195 #[.int .i64 n, .int .i64 codes, .int .i64 group, .bool true, .int .i64 clock, .int .u32 next, .pointer (some ⟨q.tp, 0, none⟩), .pointer (some ⟨q.ip, 0, none⟩), .slice (some ⟨q.sg, 0, none⟩) n q.sc, .pointer (some ⟨q.hp, 0, none⟩), .map (some q.mb)] := ht.arr h.own hT
theorem Comp.keepTaken {T : Nat → Prop} (h : Comp S w b n codes group next clock len q) (ht : Tch T w w') (h1 : ¬ T q.tp) (h2 : ¬ T q.tg) : SetAt w' q.tp q.tg q.tc n q.ws := by
  obtain ⟨_, ⟨_, a1⟩, ⟨_, a2⟩, _⟩ := h.arrs
  exact SetAt_same h.taken (ht.block _ a1.lt h1) (ht.block _ a2.lt h2)
theorem Comp.keepIds {T : Nat → Prop} (h : Comp S w b n codes group next clock len q) (ht : Tch T w w') (h1 : ¬ T q.ip) (h2 : ¬ T q.ig) : IdxOk w' q.ip q.ig q.m codes len 0 q.f :=
  h.ids.same (ht.block _ h.ids.lt.1 h1) (ht.block _ h.ids.lt.2 h2)
theorem Comp.keepSeats {T : Nat → Prop} (h : Comp S w b n codes group next clock len q) (ht : Tch T w w') (h1 : ¬ T q.sg) : RowIn S w' 258 3 (.slice (some ⟨q.sg, 0, none⟩) n q.sc) n (fun i => bkgL (q.sb i)) := by
  obtain ⟨_, _, _, _, _, ⟨_, a⟩⟩ := h.arrs
  exact h.seats.same1 (ht.block _ a.lt h1)
theorem Comp.keepDue {T : Nat → Prop} (h : Comp S w b n codes group next clock len q) (ht : Tch T w w') (h1 : ∀ k, q.H k → ¬ T k) : HeapIn q.H w' q.hp q.hl q.hn q.hf :=
  h.due.same fun k hk hl => ht.block k hl (h1 k hk)
theorem Comp.keepHeld {T : Nat → Prop} (h : Comp S w b n codes group next clock len q) (ht : Tch T w w') (h1 : ¬ T q.mb) : MapAt Tryz.prog 188 3 .u32 w' q.mb q.hm q.φ :=
  h.held.same (ht.block _ h.held.lt h1)
theorem Comp.below (h : Comp S w b n codes group next clock len q) (hb : Below w.heap.size w w') : Comp S w' b n codes group next clock len q := by
  have ht : Tch (fun _ => False) w w' := ⟨hb.os, hb.tape, hb.output, hb.size, fun k hk _ => hb.block k hk⟩
  exact ⟨h.keepOwn ht id, h.keepTaken ht id id, h.keepIds ht id id, h.keepSeats ht id, h.keepDue ht (fun _ _ => id), h.keepHeld ht id, h.foot, h.apart, fun k hk => Nat.lt_of_lt_of_le (h.lt k hk) hb.size⟩
theorem Comp.same (h : Comp S w b n codes group next clock len q) (hz : w.heap.size ≤ w'.heap.size) (hk : ∀ k, S k → k < w.heap.size → w'.heap[k]? = w.heap[k]?) : Comp S w' b n codes group next clock len q := by
  obtain ⟨⟨_, a0⟩, ⟨_, a1⟩, ⟨_, a2⟩, ⟨_, a3⟩, ⟨_, a4⟩, ⟨_, a5⟩⟩ := h.arrs
  obtain ⟨s0, s1, s2, s3, s4, s5⟩ := h.foot
  exact ⟨(hk b s0 a0.lt).trans h.own, SetAt_same h.taken (hk _ s1 a1.lt) (hk _ s2 a2.lt), h.ids.same (hk _ s3 a3.lt) (hk _ s4 a4.lt), h.seats.same1 (hk _ (h.seats.block _ rfl) a5.lt), h.due.same fun k hH hl => hk k (h.apart k hH).1 hl, h.held.same (hk _ s5 h.held.lt), h.foot, h.apart, fun k hk => Nat.lt_of_lt_of_le (h.lt k hk) hz⟩
theorem Comp.mono {T : Nat → Prop} (h : Comp S w b n codes group next clock len q) (hST : ∀ k, S k → T k) (hT : ∀ k, T k → k < w.heap.size) : Comp T w b n codes group next clock len q :=
  ⟨h.own, h.taken, h.ids, h.seats.mono fun k hk _ => hST k hk, h.due, h.held, ⟨hST _ h.foot.1, hST _ h.foot.2.1, hST _ h.foot.2.2.1, hST _ h.foot.2.2.2.1, hST _ h.foot.2.2.2.2.1, hST _ h.foot.2.2.2.2.2⟩, fun k hk => ⟨hST k (h.apart k hk).1, (h.apart k hk).2⟩, hT⟩
theorem Comp.ids_step (h : Comp S w b n codes group next clock len q) (ht : Tch (fun k => k = q.ip ∨ k = q.ig) w w') {len' : Nat} {f : Nat → Slot} (hi : IdxOk w' q.ip q.ig q.m codes len' 0 f) : Comp S w' b n codes group next clock len' { q with f := f } := by
  obtain ⟨⟨_, a0⟩, ⟨_, a1⟩, ⟨_, a2⟩, ⟨_, a3⟩, ⟨_, a4⟩, ⟨_, a5⟩⟩ := h.arrs
  have ne : ∀ {p : Nat} {t : TypeId} {cs : Array Value}, Arr w p t cs → t ≠ 303 → t ≠ 412 → ¬ (p = q.ip ∨ p = q.ig) := fun a h1 h2 e => by
    rcases e with e | e
    · exact arr_ne a a3 h1 e
    · exact arr_ne a a4 h2 e
  exact ⟨h.keepOwn ht (ne a0 (by decide) (by decide)), h.keepTaken ht (ne a1 (by decide) (by decide)) (ne a2 (by decide) (by decide)), hi, h.keepSeats ht (ne a5 (by decide) (by decide)), h.keepDue ht (fun k hk e => by rcases e with e | e; exact (h.apart k hk).2.2.2.2.1 e; exact (h.apart k hk).2.2.2.2.2.1 e), h.keepHeld ht (fun e => by rcases e with e | e; exact Hp.map_ne_arr h.held a3 e.symm; exact Hp.map_ne_arr h.held a4 e.symm), h.foot, h.apart, fun k hk => Nat.lt_of_lt_of_le (h.lt k hk) ht.size⟩
theorem Comp.taken_step (h : Comp S w b n codes group next clock len q) (ht : Tch (· = q.tg) w w') {ws : Nat → Nat} (hi : SetAt w' q.tp q.tg q.tc n ws) : Comp S w' b n codes group next clock len { q with ws := ws } := by
  obtain ⟨⟨_, a0⟩, ⟨_, a1⟩, ⟨_, a2⟩, ⟨_, a3⟩, ⟨_, a4⟩, ⟨_, a5⟩⟩ := h.arrs
  exact ⟨h.keepOwn ht (arr_ne a0 a2 (by decide)), hi, h.keepIds ht (arr_ne a3 a2 (by decide)) (arr_ne a4 a2 (by decide)), h.keepSeats ht (arr_ne a5 a2 (by decide)), h.keepDue ht (fun k hk => (h.apart k hk).2.2.2.1), h.keepHeld ht (fun e => Hp.map_ne_arr h.held a2 e.symm), h.foot, h.apart, fun k hk => Nat.lt_of_lt_of_le (h.lt k hk) ht.size⟩
theorem Comp.seats_step (h : Comp S w b n codes group next clock len q) (ht : Tch (· = q.sg) w w') {sb : Nat → Bkg} (hi : RowIn S w' 258 3 (.slice (some ⟨q.sg, 0, none⟩) n q.sc) n (fun i => bkgL (sb i))) : Comp S w' b n codes group next clock len { q with sb := sb } := by
  obtain ⟨⟨_, a0⟩, ⟨_, a1⟩, ⟨_, a2⟩, ⟨_, a3⟩, ⟨_, a4⟩, ⟨_, a5⟩⟩ := h.arrs
  exact ⟨h.keepOwn ht (arr_ne a0 a5 (by decide)), h.keepTaken ht (arr_ne a1 a5 (by decide)) (arr_ne a2 a5 (by decide)), h.keepIds ht (arr_ne a3 a5 (by decide)) (arr_ne a4 a5 (by decide)), hi, h.keepDue ht (fun k hk => (h.apart k hk).2.2.2.2.2.2.1), h.keepHeld ht (fun e => Hp.map_ne_arr h.held a5 e.symm), h.foot, h.apart, fun k hk => Nat.lt_of_lt_of_le (h.lt k hk) ht.size⟩
theorem Comp.held_step (h : Comp S w b n codes group next clock len q) (ht : Tch (· = q.mb) w w') {hm : Nat} {φ : Int → Option Int} (hi : MapAt Tryz.prog 188 3 .u32 w' q.mb hm φ) : Comp S w' b n codes group next clock len { q with hm := hm, φ := φ } := by
  obtain ⟨⟨_, a0⟩, ⟨_, a1⟩, ⟨_, a2⟩, ⟨_, a3⟩, ⟨_, a4⟩, ⟨_, a5⟩⟩ := h.arrs
  exact ⟨h.keepOwn ht (Hp.map_ne_arr h.held a0), h.keepTaken ht (Hp.map_ne_arr h.held a1) (Hp.map_ne_arr h.held a2), h.keepIds ht (Hp.map_ne_arr h.held a3) (Hp.map_ne_arr h.held a4), h.keepSeats ht (Hp.map_ne_arr h.held a5), h.keepDue ht (fun k hk => (h.apart k hk).2.2.2.2.2.2.2), hi, h.foot, h.apart, fun k hk => Nat.lt_of_lt_of_le (h.lt k hk) ht.size⟩
/-- what Push has turned -/
theorem Comp.due_step (h : Comp S w b n codes group next clock len q) (ht : Tch q.H w w') {hl : Nat} {hn : Int} {hf : Nat → Due} (hi : HeapIn (fun k => q.H k ∨ w.heap.size ≤ k) w' q.hp hl hn hf) :
    Comp (fun k => (S k ∨ w.heap.size ≤ k) ∧ k < w'.heap.size) w' b n codes group next clock len { q with hl := hl, hn := hn, hf := hf, H := fun k => (q.H k ∨ w.heap.size ≤ k) ∧ k < w'.heap.size } := by
  obtain ⟨⟨_, a0⟩, ⟨_, a1⟩, ⟨_, a2⟩, ⟨_, a3⟩, ⟨_, a4⟩, ⟨_, a5⟩⟩ := h.arrs
  have l0 := a0.lt; have l1 := a1.lt; have l2 := a2.lt; have l3 := a3.lt; have l4 := a4.lt; have l6 := a5.lt
  have l5 := h.held.lt
  have hz := ht.size
  have hno : ∀ x, (∀ k, q.H k → k ≠ x) → ¬ q.H x := fun x hx e => hx x e rfl
  refine ⟨h.keepOwn ht (hno _ fun k hk => (h.apart k hk).2.1), h.keepTaken ht (hno _ fun k hk => (h.apart k hk).2.2.1) (hno _ fun k hk => (h.apart k hk).2.2.2.1), h.keepIds ht (hno _ fun k hk => (h.apart k hk).2.2.2.2.1) (hno _ fun k hk => (h.apart k hk).2.2.2.2.2.1), (h.keepSeats ht (hno _ fun k hk => (h.apart k hk).2.2.2.2.2.2.1)).mono fun k hk hk2 => ⟨.inl hk, hk2⟩, hi.mono fun k hk hk2 => ⟨hk, hk2⟩, h.keepHeld ht (hno _ fun k hk => (h.apart k hk).2.2.2.2.2.2.2), ⟨⟨.inl h.foot.1, (show b < w'.heap.size by omega)⟩, ⟨.inl h.foot.2.1, (show q.tp < w'.heap.size by omega)⟩, ⟨.inl h.foot.2.2.1, (show q.tg < w'.heap.size by omega)⟩, ⟨.inl h.foot.2.2.2.1, (show q.ip < w'.heap.size by omega)⟩, ⟨.inl h.foot.2.2.2.2.1, (show q.ig < w'.heap.size by omega)⟩, ⟨.inl h.foot.2.2.2.2.2, (show q.mb < w'.heap.size by omega)⟩⟩, fun k hk => ?_, fun k hk => hk.2⟩
  obtain ⟨hk, hk3⟩ := hk
  rcases hk with hk | hk
  · exact ⟨⟨.inl (h.apart k hk).1, hk3⟩, (h.apart k hk).2⟩
  · exact ⟨⟨.inr hk, hk3⟩, (show k ≠ b by omega), (show k ≠ q.tp by omega), (show k ≠ q.tg by omega), (show k ≠ q.ip by omega), (show k ≠ q.ig by omega), (show k ≠ q.sg by omega), (show k ≠ q.mb by omega)⟩
end

end Go.Proofs.YtkmpchffflemcaaGreatDoor.Bk
end
end

/- Packed: GeoChk Book2 Book3 -/
section
set_option linter.unusedVariables false
set_option linter.unusedSimpArgs false
/- GeoChk: Whether a shape may be: the contracts of geometry.Check and of its reference (cut out of XGeo). -/
section
namespace Go.Proofs.YtkmpchffflemcaaGreatDoor.Geo
open Go.RowKit

-- geometry.Check
set_option maxHeartbeats 400000 in
theorem check_yes (a b c : Int) (w : World) (h : okS a b c = true) :
    Calls Tryz.prog 77 #[.agg #[.int .i64 a, .int .i64 b, .int .i64 c]] w fun e w' => e = .returned (.int .i64 0) ∧ Below w.heap.size w w' := by
  obtain ⟨h1, h2, h3, h4, h5, h6⟩ := okS_yes h
  clear h
  go_enter Tryz.func77, Tryz.ntmps77
  go_wp2
  go_ret
  exact ⟨rfl, (Below.refl _ _).alloc (Nat.le_refl _) _⟩
end Go.Proofs.YtkmpchffflemcaaGreatDoor.Geo
end

/- Book2: The book: what it holds; put. -/
section
namespace Go.Proofs.YtkmpchffflemcaaGreatDoor.Bk
open Go.RowKit
open Go.Proofs.YtkmpchffflemcaaGreatDoor.Bit (SetAt hasB)
open Go.Proofs.YtkmpchffflemcaaGreatDoor.Idx (IdxOk Slot)
open Go.Proofs.YtkmpchffflemcaaGreatDoor.Hp (HeapIn Due)

/-- the book at b holds the bookings L -/
structure BookAt (S : Nat → Prop) (w : World) (b n codes : Nat) (group next clock : Int) (L : List Bkg) (q : Parts) : Prop where
  comp : Comp S w b n codes group next clock L.length q
  bits : ∀ i, i < n → (hasB q.ws i = true ↔ ∃ x ∈ L, x.seat = i)
  lies : ∀ x ∈ L, x.seat < n ∧ q.sb x.seat = x
  under : ∀ j, j < q.m → (q.f j).state = 1 → ∃ x ∈ L, (q.f j).id = x.id
  listed : ∀ x ∈ L, ∃ j, j < q.m ∧ (q.f j).state = 1 ∧ (q.f j).id = x.id ∧ (q.f j).v = x.seat
  small : q.hl ≤ L.length ∧ q.hn ≤ L.length ∧ q.hm ≤ L.length ∧ 1 ≤ n ∧ n ≤ 1024
theorem hasB_put (ws : Nat → Nat) (i j : Nat) : hasB (fun k => if k = i / 64 then ws k ||| 2 ^ (i % 64) else ws k) j = (hasB ws j || decide (j = i)) := by
  unfold hasB
  show (if j / 64 = i / 64 then ws (j / 64) ||| 2 ^ (i % 64) else ws (j / 64)).testBit (j % 64) = _
  by_cases h : j / 64 = i / 64
  · rw [if_pos h, Nat.testBit_or, Nat.testBit_two_pow]
    congr 1
    rw [Bool.eq_iff_iff, decide_eq_true_eq, decide_eq_true_eq]
    omega
  · rw [if_neg h]
    have : decide (j = i) = false := decide_eq_false (fun e => h (by rw [e]))
    rw [this, Bool.or_false]

set_option maxRecDepth 100000 in
set_option maxHeartbeats 1000000 in
theorem SetPut_in (p g c n i : Nat) (ws : Nat → Nat) (w : World) (h : SetAt w p g c n ws) (hi : i < n) (hn : n ≤ 1000000) : Calls Tryz.prog 242 #[.pointer (some ⟨p, 0, none⟩), .int .i64 i] w fun e w' => e = .returned (.int .i64 0) ∧ SetAt w' p g c n (fun j => if j = i / 64 then ws j ||| 2 ^ (i % 64) else ws j) ∧ w.grownBy w' (some g) := by
  have HC := Lib.hid (Bit.Change_in p g c n i ws w h hi hn)
  clear h
  go_enter Tryz.func242, Tryz.ntmps242
  go_wp2_with fail
  refine HC.out.mono ?_
  rintro e w1 ⟨rfl, h1, h2⟩
  have H1 := Lib.hid h1
  have H2 := Lib.hid h2
  clear h1 h2
  go_wp2_with fail
  go_ret
  exact ⟨rfl, H1.out, H2.out⟩

theorem setL_bkg (sb : Nat → Bkg) (i : Nat) (x : Bkg) : setL (fun i => bkgL (sb i)) i (bkgL x) = fun j => bkgL (setL sb i x j) := by
  funext j
  unfold setL
  by_cases h : j = i
  · simp [h]
  · simp [h]
theorem BookAt.more {S T : Nat → Prop} {w w' : World} {b n codes : Nat} {group next clock : Int} {L : List Bkg} {x : Bkg} {q : Parts} (h : BookAt S w b n codes group next clock L q) (hfresh : ∀ y ∈ L, y.id ≠ x.id) (hfree : ∀ y ∈ L, y.seat ≠ x.seat) (hx : x.seat < n) {i : Nat} (him : i < q.m) (his : (q.f i).state ≠ 1)
    {q' : Parts} (hc : Comp T w' b n codes group next clock (L.length + 1) q') (h1 : q'.ws = fun j => if j = x.seat / 64 then q.ws j ||| 2 ^ (x.seat % 64) else q.ws j) (h2 : q'.f = Idx.upd q.f i ⟨1, x.id, x.seat⟩) (h3 : q'.sb = setL q.sb x.seat x) (h4 : q'.m = q.m) (h5 : q'.hl ≤ L.length + 1 ∧ q'.hn ≤ ((L.length + 1 : Nat) : Int) ∧ q'.hm ≤ L.length + 1) :
    BookAt T w' b n codes group next clock (L ++ [x]) q' := by
  have hl : (L ++ [x]).length = L.length + 1 := by simp
  refine ⟨by rw [hl]; exact hc, fun j hj => ?_, fun y hy => ?_, fun j hj hs => ?_, fun y hy => ?_, by rw [hl]; exact ⟨h5.1, h5.2.1, h5.2.2, h.small.2.2.2⟩⟩
  · rw [h1, hasB_put, Bool.or_eq_true, h.bits j hj, decide_eq_true_eq]
    constructor
    · rintro (⟨y, hy, e⟩ | e)
      · exact ⟨y, by simp [hy], e⟩
      · exact ⟨x, by simp, e.symm⟩
    · rintro ⟨y, hy, e⟩
      rcases List.mem_append.1 hy with hy | hy
      · exact .inl ⟨y, hy, e⟩
      · obtain rfl : y = x := by simpa using hy
        exact .inr e.symm
  · rw [h3]
    rcases List.mem_append.1 hy with hy | hy
    · refine ⟨(h.lies y hy).1, ?_⟩
      rw [setL_other _ _ (hfree y hy)]
      exact (h.lies y hy).2
    · obtain rfl : y = x := by simpa using hy
      exact ⟨hx, setL_same _ _ _⟩
  · rw [h2] at hs ⊢
    by_cases e : j = i
    · subst e
      rw [Idx.upd_same]
      exact ⟨x, by simp, rfl⟩
    · rw [Idx.upd_other _ _ e] at hs ⊢
      obtain ⟨y, hy, hy2⟩ := h.under j (h4 ▸ hj) hs
      exact ⟨y, by simp [hy], hy2⟩
  · rw [h2, h4]
    rcases List.mem_append.1 hy with hy | hy
    · obtain ⟨j, hj, hs, r⟩ := h.listed y hy
      have e : j ≠ i := fun e => his (e ▸ hs)
      exact ⟨j, hj, by rw [Idx.upd_other _ _ e]; exact ⟨hs, r⟩⟩
    · obtain rfl : y = x := by simpa using hy
      exact ⟨i, him, by rw [Idx.upd_same]; exact ⟨rfl, rfl, rfl⟩⟩
theorem vb_keep {S : Nat → Prop} {w w3 w4 : World} {b n codes : Nat} {group next clock : Int} {len vb : Nat} {q : Parts} {cs : Array Value} (h : Comp S w b n codes group next clock len q) (hv : w.heap.size = vb) (ha : Arr w3 vb 258 cs) (hg : w3.drew.grownBy w4 (some q.sg)) : Arr w4 vb 258 cs := by
  obtain ⟨_, _, _, _, _, ⟨_, a⟩⟩ := h.arrs
  have h1 := a.lt
  exact (hg.block vb ha.lt (fun e => by injection e with e; omega)).trans ha
def PutOut (S : Nat → Prop) (w : World) (b n codes : Nat) (group next clock : Int) (L : List Bkg) (x : Bkg) (e : Ending) (w' : World) : Prop :=
  (∃ v, e = .returned v) ∧ (∃ q', BookAt (fun k => (S k ∨ w.heap.size ≤ k) ∧ k < w'.heap.size) w' b n codes group next clock (L ++ [x]) q') ∧ Tch S w w'
set_option maxRecDepth 100000 in
set_option maxHeartbeats 2000000 in
theorem put_in (S : Nat → Prop) (b n codes : Nat) (group next clock : Int) (L : List Bkg) (x : Bkg) (q : Parts) (w : World) (h : BookAt S w b n codes group next clock L q) (hid : 0 ≤ x.id ∧ x.id < 4294967296) (hfresh : ∀ y ∈ L, y.id ≠ x.id) (hfree : ∀ y ∈ L, y.seat ≠ x.seat) (hx : x.seat < n) (hl : L.length < codes) (htil : 0 ≤ x.til ∧ x.til ≤ 1099511627776) :
    Calls Tryz.prog 237 #[.pointer (some ⟨b, 0, none⟩), .agg #[.int .u32 x.id, .int .i64 x.seat, .int .i64 x.til]] w (PutOut S w b n codes group next clock L x) := by
  have hq := h.small
  have hnoid : ∀ j, j < q.m → (q.f j).state = 1 → (q.f j).id ≠ x.id := fun j hj hs e => by
    obtain ⟨y, hy, hy2⟩ := h.under j hj hs
    exact hfresh y hy (by rw [← hy2, e])
  have hl4 : L.length < 4096 := by have := h.comp.ids.room; omega
  have HH := Lib.hid h
  have HNO := Lib.hid hnoid
  clear h hnoid
  go_enter Tryz.func237, Tryz.ntmps237
  go_wp2_with fail
  have hb1 : Below w.heap.size w (w.alloc (.cells #[.int .u32 x.id, .int .i64 x.seat, .int .i64 x.til] 258)) := ext_alloc (Below.refl _ _) _
  have hA1 : Arr (w.alloc (.cells #[.int .u32 x.id, .int .i64 x.seat, .int .i64 x.til] 258)) w.heap.size 258 #[.int .u32 x.id, .int .i64 x.seat, .int .i64 x.til] := Arr.fresh w _ _
  obtain ⟨w1, hw1⟩ : ∃ w1, w.alloc (.cells #[.int .u32 x.id, .int .i64 x.seat, .int .i64 x.til] 258) = w1 := ⟨_, rfl⟩
  obtain ⟨vb, hvb⟩ : ∃ vb, w.heap.size = vb := ⟨_, rfl⟩
  rw [hw1] at hb1 hA1 ⊢
  rw [hvb] at hA1 ⊢
  clear hw1
  have hc1 := HH.out.comp.below hb1
  have hT1 : Tch S w w1 := (Tch.refl S w).below hb1
  have x7 : w1.cell? ⟨b, 7, none⟩ = some (.pointer (some ⟨q.ip, 0, none⟩)) := hc1.own.cell 7
  have y0 : w1.cell? ⟨vb, 0, none⟩ = some (.int .u32 x.id) := hA1.cell 0
  have y1 : w1.cell? ⟨vb, 1, none⟩ = some (.int .i64 x.seat) := hA1.cell 1
  have HC1 := Lib.hid hc1; have HA1 := Lib.hid hA1; have HT1 := Lib.hid hT1; have HVB := Lib.hid hvb
  clear hc1 hA1 hT1 hvb hb1
  go_still_tail 8, (by kernel_rfl)
  change wpList _ _ _ _ _ w1.drew
  go_wp2_with fail
  have hcd := HC1.out.below (ext_drew (Below.refl _ _))
  refine (Idx.Put_ok q.ip q.ig q.m codes L.length 0 x.id x.seat q.f w1.drew hcd.ids hid HNO.out hl rfl).mono ?_
  rintro e w2 ⟨rfl, ⟨i, him, his, hix⟩, hTi⟩
  have hc2 := hcd.ids_step hTi hix
  have hlt := HH.out.comp.ids.lt
  have hA2 : Arr w2 vb 258 #[.int .u32 x.id, .int .i64 x.seat, .int .i64 x.til] := hTi.arr (show Arr w1.drew vb _ _ from HA1.out) (by have := HVB.out; omega)
  have hf := HH.out.comp.foot
  have hT2 : Tch S w w2 := (HT1.out.below (ext_drew (Below.refl _ _))).trans (hTi.mono fun k _ hk => by rcases hk with rfl | rfl; exact hf.2.2.2.1; exact hf.2.2.2.2.1)
  have x6 : w2.cell? ⟨b, 6, none⟩ = some (.pointer (some ⟨q.tp, 0, none⟩)) := hc2.own.cell 6
  clear x7 y0 y1 hcd
  have y1 : w2.cell? ⟨vb, 1, none⟩ = some (.int .i64 x.seat) := hA2.cell 1
  have HC2 := Lib.hid hc2; have HA2 := Lib.hid hA2; have HT2 := Lib.hid hT2; have HIM := Lib.hid him; have HIS := Lib.hid his
  clear hc2 hA2 hT2 him his hix hTi HC1 HA1 HT1 hlt
  go_wp2_with fail
  go_still_tail 6, (by kernel_rfl)
  change wpList _ _ _ _ _ w2.drew
  go_wp2_with fail
  have hcd := HC2.out.below (ext_drew (Below.refl _ _))
  refine (SetPut_in q.tp q.tg q.tc n x.seat q.ws w2.drew hcd.taken hx (by omega)).mono ?_
  rintro e w3 ⟨rfl, hS3, hg3⟩
  have hTg : Tch (· = q.tg) w2.drew w3 := (Tch.refl _ _).grown hg3 (fun k e => .inl (by injection e with e; exact e.symm))
  have hc3 := hcd.taken_step hTg hS3
  obtain ⟨_, _, ⟨_, atg⟩, _⟩ := HH.out.comp.arrs
  have hA3 : Arr w3 vb 258 #[.int .u32 x.id, .int .i64 x.seat, .int .i64 x.til] := hTg.arr (show Arr w2.drew vb _ _ from HA2.out) (by have := HVB.out; have := atg.lt; omega)
  have hT3 : Tch S w w3 := (HT2.out.below (ext_drew (Below.refl _ _))).trans (hTg.mono fun k _ hk => by subst hk; exact hf.2.2.1)
  clear x6 y1 hcd HC2 HA2 HT2 hTg hS3 hg3 atg
  have x8 : w3.cell? ⟨b, 8, none⟩ = some (.slice (some ⟨q.sg, 0, none⟩) n q.sc) := hc3.own.cell 8
  have y0 : w3.cell? ⟨vb, 0, none⟩ = some (.int .u32 x.id) := hA3.cell 0
  have y1 : w3.cell? ⟨vb, 1, none⟩ = some (.int .i64 x.seat) := hA3.cell 1
  have y2 : w3.cell? ⟨vb, 2, none⟩ = some (.int .i64 x.til) := hA3.cell 2
  have hxi : (x.seat : Int) < (n : Int) := by omega
  have hx0 : (0 : Int) ≤ (x.seat : Int) := by omega
  have hn1 : (n : Int) ≤ 1024 := by omega
  have HC3 := Lib.hid hc3; have HA3 := Lib.hid hA3; have HT3 := Lib.hid hT3
  have HR3 := Lib.hid (hc3.below (ext_drew (Below.refl _ _))).seats
  clear hc3 hA3 hT3
  go_wp2_with fail
  go_still_tail 8, (by kernel_rfl)
  change wpList _ _ _ _ _ w3.drew
  refine wpList_store_elem rfl 258 _ _ rfl HR3.out (fun _ => rfl) x.seat hx rfl (bkgL x) rfl rfl (bkgL_one x) bkg_size ?_
  intro w4 hr4 hg4 hs4
  have y2' : w4.cell? ⟨vb, 2, none⟩ = some (.int .i64 x.til) := by exact (vb_keep HH.out.comp HVB.out HA3.out hg4).cell 2
  have HR4 := Lib.hid hr4
  have HG4 := Lib.hid hg4
  clear hr4 hg4 hs4 x8 y0 y1 y2
  have hTs : Tch (· = q.sg) w3.drew w4 := (Tch.refl _ _).grown HG4.out (fun k e => .inl (by injection e with e; exact e.symm))
  have hr4 := HR4.out
  rw [setL_bkg] at hr4
  have hc4 := (HC3.out.below (ext_drew (Below.refl _ _))).seats_step hTs hr4
  have hA4 := vb_keep HH.out.comp HVB.out HA3.out HG4.out
  have hT4 : Tch S w w4 := (HT3.out.below (ext_drew (Below.refl _ _))).trans (hTs.mono fun k _ hk => by subst hk; exact HH.out.comp.seats.block _ rfl)
  have HC4 := Lib.hid hc4; have HA4 := Lib.hid hA4; have HT4 := Lib.hid hT4
  clear HC3 HA3 HT3 HR3 HR4 HG4 hTs hr4 hc4 hA4 hT4
  by_cases h0 : x.til = 0
  · have h0' : ¬ (0 : Int) < x.til := by omega
    go_wp2_with fail
    refine bodyPost_end (results_none Tryz.results237 _ _ _) rfl ⟨⟨_, rfl⟩, ⟨_, HH.out.more hfresh hfree hx HIM.out HIS.out (HC4.out.mono (T := fun k => (S k ∨ w.heap.size ≤ k) ∧ k < w4.heap.size) (fun k hk => ⟨.inl hk, HC4.out.lt k hk⟩) (fun k hk => hk.2)) rfl rfl rfl rfl ⟨Nat.le_succ_of_le hq.1, by show q.hn ≤ _; omega, Nat.le_succ_of_le hq.2.2.1⟩⟩, HT4.out⟩
  · have h0' : (0 : Int) < x.til := by omega
    have H0 := Lib.hid h0
    clear h0
    have x9 : w4.cell? ⟨b, 9, none⟩ = some (.pointer (some ⟨q.hp, 0, none⟩)) := HC4.out.own.cell 9
    have x10 : w4.cell? ⟨b, 10, none⟩ = some (.map (some q.mb)) := HC4.out.own.cell 10
    have y0 : w4.cell? ⟨vb, 0, none⟩ = some (.int .u32 x.id) := HA4.out.cell 0
    have y1 : w4.cell? ⟨vb, 1, none⟩ = some (.int .i64 x.seat) := HA4.out.cell 1
    go_wp2_with fail
    refine region_any_drew (by kernel_rfl) ?_
    refine AnyTill.any (S := (fun w' => w'.cell? ⟨b, 9, none⟩ = some (.pointer (some ⟨q.hp, 0, none⟩)) ∧ w'.cell? ⟨b, 10, none⟩ = some (.map (some q.mb)) ∧ w'.cell? ⟨vb, 0, none⟩ = some (.int .u32 x.id) ∧ w'.cell? ⟨vb, 2, none⟩ = some (.int .i64 x.til))) (t := 19) _ _ _ _ ?_
    have hHeld := (show (fun w' => w'.cell? ⟨b, 9, none⟩ = some (.pointer (some ⟨q.hp, 0, none⟩)) ∧ w'.cell? ⟨b, 10, none⟩ = some (.map (some q.mb)) ∧ w'.cell? ⟨vb, 0, none⟩ = some (.int .u32 x.id) ∧ w'.cell? ⟨vb, 2, none⟩ = some (.int .i64 x.til)) w4.drew from ⟨x9, x10, y0, y2'⟩)
    refine till_take (i := 0) (oi := ?o1) (d := (some 32)) (v := ?v1) ?hi1 (by kernel_rfl) (by kernel_rfl) (by kernel_rfl) (by kernel_rfl) (by kernel_rfl) (fun _ _ _ h => h) ?hd1 ?hw1 ?hy1 hHeld ?_
    case hi1 => (simp only [List.getElem?_toArray, List.getElem?_cons_zero]; exact rfl)
    case hd1 => rfl
    case hw1 => rfl
    case hy1 => (intro w hSw; (try dsimp only at hSw); go_simp; try with_reducible rfl)
    try simp only [Act.put, List.setIfInBounds_toArray, List.set_cons_zero, List.set_cons_succ]
    refine till_take (i := 1) (oi := ?o2) (d := (some 33)) (v := ?v2) ?hi2 (by kernel_rfl) (by kernel_rfl) (by kernel_rfl) (by kernel_rfl) (by kernel_rfl) (fun _ _ _ h => h) ?hd2 ?hw2 ?hy2 hHeld ?_
    case hi2 => (simp only [List.getElem?_toArray, List.getElem?_cons_zero, List.getElem?_cons_succ]; exact rfl)
    case hd2 => rfl
    case hw2 => rfl
    case hy2 => (intro w hSw; (try dsimp only at hSw); go_simp; try with_reducible rfl)
    try simp only [Act.put, List.setIfInBounds_toArray, List.set_cons_zero, List.set_cons_succ]
    refine till_take (i := 2) (oi := ?o3) (d := (some 34)) (v := ?v3) ?hi3 (by kernel_rfl) (by kernel_rfl) (by kernel_rfl) (by kernel_rfl) (by kernel_rfl) (fun _ _ _ h => h) ?hd3 ?hw3 ?hy3 hHeld ?_
    case hi3 => (simp only [List.getElem?_toArray, List.getElem?_cons_zero, List.getElem?_cons_succ]; exact rfl)
    case hd3 => rfl
    case hw3 => rfl
    case hy3 => (intro w hSw; (try dsimp only at hSw); go_simp; try with_reducible rfl)
    try simp only [Act.put, List.setIfInBounds_toArray, List.set_cons_zero, List.set_cons_succ]
    refine till_take (i := 3) (oi := ?o4) (d := (some 35)) (v := ?v4) ?hi4 (by kernel_rfl) (by kernel_rfl) (by kernel_rfl) (by kernel_rfl) (by kernel_rfl) (fun _ _ _ h => h) ?hd4 ?hw4 ?hy4 hHeld ?_
    case hi4 => (simp only [List.getElem?_toArray, List.getElem?_cons_zero, List.getElem?_cons_succ]; exact rfl)
    case hd4 => rfl
    case hw4 => rfl
    case hy4 => (intro w hSw; (try dsimp only at hSw); go_simp; try with_reducible rfl)
    try simp only [Act.put, List.setIfInBounds_toArray, List.set_cons_zero, List.set_cons_succ]
    refine till_take (i := 4) (oi := ?o5) (d := (some 36)) (v := ?v5) ?hi5 (by kernel_rfl) (by kernel_rfl) (by kernel_rfl) (by kernel_rfl) (by kernel_rfl) (fun _ _ _ h => h) ?hd5 ?hw5 ?hy5 hHeld ?_
    case hi5 => (simp only [List.getElem?_toArray, List.getElem?_cons_zero, List.getElem?_cons_succ]; exact rfl)
    case hd5 => rfl
    case hw5 => rfl
    case hy5 => (intro w hSw; (try dsimp only at hSw); go_simp; try with_reducible rfl)
    try simp only [Act.put, List.setIfInBounds_toArray, List.set_cons_zero, List.set_cons_succ]
    refine till_take (i := 5) (oi := ?o6) (d := (some 37)) (v := ?v6) ?hi6 (by kernel_rfl) (by kernel_rfl) (by kernel_rfl) (by kernel_rfl) (by kernel_rfl) (fun _ _ _ h => h) ?hd6 ?hw6 ?hy6 hHeld ?_
    case hi6 => (simp only [List.getElem?_toArray, List.getElem?_cons_zero, List.getElem?_cons_succ]; exact rfl)
    case hd6 => rfl
    case hw6 => rfl
    case hy6 => (intro w hSw; (try dsimp only at hSw); go_simp; try with_reducible rfl)
    try simp only [Act.put, List.setIfInBounds_toArray, List.set_cons_zero, List.set_cons_succ]
    refine till_take (i := 6) (oi := ?o7) (d := (some 38)) (v := ?v7) ?hi7 (by kernel_rfl) (by kernel_rfl) (by kernel_rfl) (by kernel_rfl) (by kernel_rfl) (fun _ _ _ h => h) ?hd7 ?hw7 ?hy7 hHeld ?_
    case hi7 => (simp only [List.getElem?_toArray, List.getElem?_cons_zero, List.getElem?_cons_succ]; exact rfl)
    case hd7 => rfl
    case hw7 => rfl
    case hy7 => (intro w hSw; (try dsimp only at hSw); go_simp; try with_reducible rfl)
    try simp only [Act.put, List.setIfInBounds_toArray, List.set_cons_zero, List.set_cons_succ]
    refine till_take (i := 7) (oi := ?o8) (d := (some 39)) (v := ?v8) ?hi8 (by kernel_rfl) (by kernel_rfl) (by kernel_rfl) (by kernel_rfl) (by kernel_rfl) (fun _ _ _ h => h) ?hd8 ?hw8 ?hy8 hHeld ?_
    case hi8 => (simp only [List.getElem?_toArray, List.getElem?_cons_zero, List.getElem?_cons_succ]; exact rfl)
    case hd8 => rfl
    case hw8 => rfl
    case hy8 => (intro w hSw; (try dsimp only at hSw); go_simp; try with_reducible rfl)
    try simp only [Act.put, List.setIfInBounds_toArray, List.set_cons_zero, List.set_cons_succ]
    refine till_take (i := 8) (oi := ?o9) (d := (some 40)) (v := ?v9) ?hi9 (by kernel_rfl) (by kernel_rfl) (by kernel_rfl) (by kernel_rfl) (by kernel_rfl) (fun _ _ _ h => h) ?hd9 ?hw9 ?hy9 hHeld ?_
    case hi9 => (simp only [List.getElem?_toArray, List.getElem?_cons_zero, List.getElem?_cons_succ]; exact rfl)
    case hd9 => rfl
    case hw9 => rfl
    case hy9 => (intro w hSw; (try dsimp only at hSw); go_simp; try with_reducible rfl)
    try simp only [Act.put, List.setIfInBounds_toArray, List.set_cons_zero, List.set_cons_succ]
    refine till_take (i := 9) (oi := ?o10) (d := (some 41)) (v := ?v10) ?hi10 (by kernel_rfl) (by kernel_rfl) (by kernel_rfl) (by kernel_rfl) (by kernel_rfl) (fun _ _ _ h => h) ?hd10 ?hw10 ?hy10 hHeld ?_
    case hi10 => (simp only [List.getElem?_toArray, List.getElem?_cons_zero, List.getElem?_cons_succ]; exact rfl)
    case hd10 => rfl
    case hw10 => rfl
    case hy10 => (intro w hSw; (try dsimp only at hSw); go_simp; try with_reducible rfl)
    try simp only [Act.put, List.setIfInBounds_toArray, List.set_cons_zero, List.set_cons_succ]
    refine till_take (i := 10) (oi := ?o11) (d := (some 42)) (v := ?v11) ?hi11 (by kernel_rfl) (by kernel_rfl) (by kernel_rfl) (by kernel_rfl) (by kernel_rfl) (fun _ _ _ h => h) ?hd11 ?hw11 ?hy11 hHeld ?_
    case hi11 => (simp only [List.getElem?_toArray, List.getElem?_cons_zero, List.getElem?_cons_succ]; exact rfl)
    case hd11 => rfl
    case hw11 => rfl
    case hy11 => (intro w hSw; (try dsimp only at hSw); go_simp; try with_reducible rfl)
    try simp only [Act.put, List.setIfInBounds_toArray, List.set_cons_zero, List.set_cons_succ]
    refine till_take (i := 11) (oi := ?o12) (d := (some 43)) (v := ?v12) ?hi12 (by kernel_rfl) (by kernel_rfl) (by kernel_rfl) (by kernel_rfl) (by kernel_rfl) (fun _ _ _ h => h) ?hd12 ?hw12 ?hy12 hHeld ?_
    case hi12 => (simp only [List.getElem?_toArray, List.getElem?_cons_zero, List.getElem?_cons_succ]; exact rfl)
    case hd12 => rfl
    case hw12 => rfl
    case hy12 => (intro w hSw; (try dsimp only at hSw); go_simp; try with_reducible rfl)
    try simp only [Act.put, List.setIfInBounds_toArray, List.set_cons_zero, List.set_cons_succ]
    refine till_take (i := 12) (oi := ?o13) (d := (some 44)) (v := ?v13) ?hi13 (by kernel_rfl) (by kernel_rfl) (by kernel_rfl) (by kernel_rfl) (by kernel_rfl) (fun _ _ _ h => h) ?hd13 ?hw13 ?hy13 hHeld ?_
    case hi13 => (simp only [List.getElem?_toArray, List.getElem?_cons_zero, List.getElem?_cons_succ]; exact rfl)
    case hd13 => rfl
    case hw13 => rfl
    case hy13 => (intro w hSw; (try dsimp only at hSw); go_simp; try with_reducible rfl)
    try simp only [Act.put, List.setIfInBounds_toArray, List.set_cons_zero, List.set_cons_succ]
    refine till_take (i := 13) (oi := ?o14) (d := (some 45)) (v := ?v14) ?hi14 (by kernel_rfl) (by kernel_rfl) (by kernel_rfl) (by kernel_rfl) (by kernel_rfl) (fun _ _ _ h => h) ?hd14 ?hw14 ?hy14 hHeld ?_
    case hi14 => (simp only [List.getElem?_toArray, List.getElem?_cons_zero, List.getElem?_cons_succ]; exact rfl)
    case hd14 => rfl
    case hw14 => rfl
    case hy14 => (intro w hSw; (try dsimp only at hSw); go_simp; try with_reducible rfl)
    try simp only [Act.put, List.setIfInBounds_toArray, List.set_cons_zero, List.set_cons_succ]
    refine till_take (i := 14) (oi := ?o15) (d := (some 46)) (v := ?v15) ?hi15 (by kernel_rfl) (by kernel_rfl) (by kernel_rfl) (by kernel_rfl) (by kernel_rfl) (fun _ _ _ h => h) ?hd15 ?hw15 ?hy15 hHeld ?_
    case hi15 => (simp only [List.getElem?_toArray, List.getElem?_cons_zero, List.getElem?_cons_succ]; exact rfl)
    case hd15 => rfl
    case hw15 => rfl
    case hy15 => (intro w hSw; (try dsimp only at hSw); go_simp; try with_reducible rfl)
    try simp only [Act.put, List.setIfInBounds_toArray, List.set_cons_zero, List.set_cons_succ]
    refine AnyTill.step (i := 15) (by kernel_rfl) (by kernel_rfl) rfl (fun K hK => ?_)
    go_simp
    refine (Hp.Push_in q.H q.hp q.hl q.hn q.hf x.til x.id w4.drew (HC4.out.below (ext_drew (Below.refl _ _))).due (by omega) (by omega)).mono ?_
    rintro e w5 ⟨rfl, hI5, hTp⟩
    have hcd := HC4.out.below (ext_drew (Below.refl _ _))
    have hc5 := hcd.due_step hTp hI5
    have hA5 : Arr w5 vb 258 #[.int .u32 x.id, .int .i64 x.seat, .int .i64 x.til] := hTp.arr (show Arr w4.drew vb _ _ from HA4.out) (fun hk => by have h1 := HH.out.comp.lt vb (HH.out.comp.apart vb hk).1; have h2 := HVB.out; omega)
    have hT5 : Tch S w w5 := (HT4.out.below (ext_drew (Below.refl _ _))).trans (hTp.mono fun k _ hk => (HH.out.comp.apart k hk).1)
    have x9' : w5.cell? ⟨b, 9, none⟩ = some (.pointer (some ⟨q.hp, 0, none⟩)) := hc5.own.cell 9
    have x10' : w5.cell? ⟨b, 10, none⟩ = some (.map (some q.mb)) := hc5.own.cell 10
    have y0' : w5.cell? ⟨vb, 0, none⟩ = some (.int .u32 x.id) := hA5.cell 0
    have y2'' : w5.cell? ⟨vb, 2, none⟩ = some (.int .i64 x.til) := hA5.cell 2
    have HC5 := Lib.hid hc5
    have HT5 := Lib.hid hT5
    clear hcd hc5 hA5 hT5 hI5 hTp
    go_wp2_with fail
    refine hK.out _ _ (by first | exact ⟨x9', x10', y0', y2''⟩) (fun hHeld15 => ?_)
    clear hK K
    try simp only [Act.put, List.setIfInBounds_toArray, List.set_cons_zero, List.set_cons_succ]
    refine till_pure (i := 16) (oi := ?o16) (d := (some 31)) (v := ?v16) ?hi16 (by kernel_rfl) (by kernel_rfl) (by kernel_rfl) (by kernel_rfl) (fun _ _ _ h => h) ?hd16 ?hw16 ?hy16 hHeld15 ?_
    case hi16 => (simp only [List.getElem?_toArray, List.getElem?_cons_zero, List.getElem?_cons_succ]; exact rfl)
    case hd16 => rfl
    case hw16 => rfl
    case hy16 => (intro w; go_simp; try with_reducible rfl)
    try simp only [Act.put, List.setIfInBounds_toArray, List.set_cons_zero, List.set_cons_succ]
    refine till_pure (i := 17) (oi := ?o17) (d := (some 48)) (v := ?v17) ?hi17 (by kernel_rfl) (by kernel_rfl) (by kernel_rfl) (by kernel_rfl) (fun _ _ _ h => h) ?hd17 ?hw17 ?hy17 hHeld15 ?_
    case hi17 => (simp only [List.getElem?_toArray, List.getElem?_cons_zero, List.getElem?_cons_succ]; exact rfl)
    case hd17 => rfl
    case hw17 => rfl
    case hy17 => (intro w; go_simp; try with_reducible rfl)
    try simp only [Act.put, List.setIfInBounds_toArray, List.set_cons_zero, List.set_cons_succ]
    refine till_pure (i := 18) (oi := ?o18) (d := (some 49)) (v := ?v18) ?hi18 (by kernel_rfl) (by kernel_rfl) (by kernel_rfl) (by kernel_rfl) (fun _ _ _ h => h) ?hd18 ?hw18 ?hy18 hHeld15 ?_
    case hi18 => (simp only [List.getElem?_toArray, List.getElem?_cons_zero, List.getElem?_cons_succ]; exact rfl)
    case hd18 => rfl
    case hw18 => rfl
    case hy18 => (intro w; go_simp; try with_reducible rfl)
    try simp only [Act.put, List.setIfInBounds_toArray, List.set_cons_zero, List.set_cons_succ]
    refine AnyTill.last (by kernel_rfl) ?_
    refine any_drop 19 (by kernel_rfl) (by kernel_rfl) ?_
    simp only [List.drop_succ_cons, List.drop_zero]
    refine wpList_mapUpdate_at rfl _ _ _ 190 rfl 188 3 .u32 Tryz.underlying188 Tryz.underlying3 Tryz.underlying190 q.mb q.hm q.φ rfl HC5.out.held (by unfold maxLen; omega) x.id q.hn rfl rfl (WalkArith.wf_u32 (by omega)) (WalkArith.wf_i64 (by have := HH.out.comp.due.bound; omega)) ?_
    intro w6 hm6 hg6
    have hTm : Tch (· = q.mb) w5 w6 := (Tch.refl _ _).grown hg6 (fun k e => .inl (by injection e with e; exact e.symm))
    have hc6 := HC5.out.held_step hTm hm6
    have hT6 : Tch S w w6 := HT5.out.trans (hTm.mono fun k _ hk => by subst hk; exact HH.out.comp.foot.2.2.2.2.2)
    have HC6 := Lib.hid hc6; have HT6 := Lib.hid hT6; have HZ := Lib.hid hTm.size; have HZ4 := Lib.hid HT4.out.size
    clear hm6 hg6 hTm hc6 hT6 HC5 HT5 x9 x10 y0 y1 x9' x10' y0' y2'' hHeld15 hHeld HC4 HA4 HT4
    go_wp2_with fail
    refine bodyPost_end (results_none Tryz.results237 _ _ _) rfl ⟨⟨_, rfl⟩, ⟨_, HH.out.more hfresh hfree hx HIM.out HIS.out (HC6.out.mono (T := fun k => (S k ∨ w.heap.size ≤ k) ∧ k < w6.heap.size) (fun k hk => ?_) (fun k hk => hk.2)) rfl rfl rfl rfl ⟨by show q.hl + 1 ≤ _; omega, by show q.hn + 1 ≤ _; omega, ?_⟩⟩, HT6.out⟩
    · have h1 := HZ.out
      have h2 := HZ4.out
      refine ⟨?_, Nat.lt_of_lt_of_le hk.2 h1⟩
      rcases hk.1 with hk | hk
      · exact .inl hk
      · have hk' : w4.heap.size ≤ k := hk
        exact .inr (by omega)
    · show (if (q.φ x.id).isSome = true then q.hm else q.hm + 1) ≤ _
      split <;> omega

end Go.Proofs.YtkmpchffflemcaaGreatDoor.Bk
end

/- Book3: The book: New. -/
section
namespace Go.Proofs.YtkmpchffflemcaaGreatDoor.Bk
open Go.RowKit
open Go.Proofs.YtkmpchffflemcaaGreatDoor.Bit (SetAt hasB)
open Go.Proofs.YtkmpchffflemcaaGreatDoor.Idx (IdxOk Slot)
open Go.Proofs.YtkmpchffflemcaaGreatDoor.Hp (HeapIn Due)

def NewOut (n codes : Nat) (group : Int) (w : World) (e : Ending) (w' : World) : Prop := ∃ b S q, e = .returned (.tuple #[.pointer (some ⟨b, 0, none⟩), .int .i64 0]) ∧ BookAt S w' b n codes group 1 0 [] q ∧ (∀ k, S k → w.heap.size ≤ k) ∧ Below w.heap.size w w'
theorem cnt_zero {f : Nat → Slot} {t : Nat} (h : ∀ i, (f i).state ≠ t) : ∀ n, Idx.cnt f t n = 0
  | 0 => rfl
  | n + 1 => by rw [Idx.cnt, cnt_zero h n, if_neg (h n)]
theorem new_join {n codes : Nat} {group : Int} {w w1 w5 w6 w7 w8 w9 w10 : World} {sh sg mb b tp tg ip ig m hp : Nat} (hsh : w.heap.size = sh) (hn : 1 ≤ n ∧ n ≤ 1024) (hc : 1 ≤ codes ∧ codes ≤ 4096)
    (hb1 : Below w.heap.size w w1) (hb5 : Below w1.heap.size w1 w5) (hr5 : RowIn (· = sg) w5 258 3 (.slice (some ⟨sg, 0, none⟩) n n) n (fun _ => bkgL ⟨0, 0, 0⟩)) (hm5 : MapAt Tryz.prog 188 3 .u32 w5 mb 0 (fun _ => none))
    (hg5 : w1.heap.size ≤ sg ∧ w1.heap.size ≤ mb ∧ w1.heap.size ≤ b) (hbk5 : Arr w5 b 195 #[.int .i64 n, .int .i64 codes, .int .i64 group, .bool true, .int .i64 0, .int .u32 1, .pointer none, .pointer none, .slice (some ⟨sg, 0, none⟩) n n, .pointer none, .map (some mb)])
    (hS6 : SetAt w6 tp tg ((n + 63) / 64) n (fun _ => 0)) (h61 : w5.heap.size ≤ tp ∧ w5.heap.size ≤ tg) (hb6 : Below w5.heap.size w5 w6) (T67 : Tch (· = b) w6 w7)
    (hI8 : Idx.IdxAt w8 ip ig m codes 0 0 0 (fun _ => ⟨0, 0, 0⟩)) (h81 : (2 * codes ≤ m ∧ m ≤ 4 * codes) ∧ (w7.heap.size ≤ ip ∧ w7.heap.size ≤ ig)) (hb8 : Below w7.heap.size w7 w8) (T89 : Tch (· = b) w8 w9)
    (hH10 : HeapIn (fun k => w9.heap.size ≤ k) w10 hp 0 0 (fun _ => ⟨0, 0, 0⟩)) (hb10 : Below w9.heap.size w9 w10) (hbk10 : Arr w10 b 195 #[.int .i64 n, .int .i64 codes, .int .i64 group, .bool true, .int .i64 0, .int .u32 1, .pointer (some ⟨tp, 0, none⟩), .pointer (some ⟨ip, 0, none⟩), .slice (some ⟨sg, 0, none⟩) n n, .pointer none, .map (some mb)]) :
    NewOut n codes group w (.returned (.tuple #[.pointer (some ⟨b, 0, none⟩), .int .i64 0])) (w10.setCell ⟨b, 9, none⟩ (.pointer (some ⟨hp, 0, none⟩))) := by
  have T1011 : Tch (· = b) w10 (w10.setCell ⟨b, 9, none⟩ (.pointer (some ⟨hp, 0, none⟩))) := (Tch.refl (fun k => k = b) w10).put (p := ⟨b, 9, none⟩) (.inl rfl) _
  have hs11 : (w10.setCell ⟨b, 9, none⟩ (.pointer (some ⟨hp, 0, none⟩))).heap.size = w10.heap.size := by simp
  have hown := hbk10.put 9 (.pointer (some ⟨hp, 0, none⟩))
  obtain ⟨w11, hw11⟩ : ∃ w11, w10.setCell ⟨b, 9, none⟩ (.pointer (some ⟨hp, 0, none⟩)) = w11 := ⟨_, rfl⟩
  rw [hw11] at T1011 hs11 hown ⊢
  have T911 : Tch (· = b) w9 w11 := ((Tch.refl _ _).below hb10).trans T1011
  have T811 := T89.trans T911
  have T711 : Tch (· = b) w7 w11 := ((Tch.refl _ _).below hb8).trans T811
  have T611 := T67.trans T711
  have T511 : Tch (· = b) w5 w11 := ((Tch.refl _ _).below hb6).trans T611
  have z1 := hb1.size; have z5 := hb5.size; have z6 := hb6.size; have z7 := T67.size; have z8 := hb8.size; have z9 := T89.size; have z10 := hb10.size
  obtain ⟨cs, asg⟩ := hr5.arr
  have lsg := asg.lt
  have lmb := hm5.lt
  have lb := hbk5.lt
  have ltp := hS6.own.lt
  obtain ⟨cur, htg, _⟩ := hS6.row
  have ltg : tg < w6.heap.size := Arr.lt (t := 57) (cs := cur) htg
  have lip := hI8.own.lt
  have lig := hI8.rows.lt
  have nsg : ¬ sg = b := arr_ne asg hbk5 (by decide)
  have nmb : ¬ mb = b := fun e => Hp.map_ne_arr hm5 hbk5 e.symm
  refine ⟨b, fun k => w.heap.size ≤ k ∧ k < w11.heap.size, { tp := tp, tg := tg, tc := (n + 63) / 64, ip := ip, ig := ig, m := m, sg := sg, sc := n, hp := hp, hl := 0, mb := mb, hm := 0, ws := fun _ => 0, f := fun _ => ⟨0, 0, 0⟩, sb := fun _ => ⟨0, 0, 0⟩, hn := 0, hf := fun _ => ⟨0, 0, 0⟩, φ := fun _ => none, H := fun k => w9.heap.size ≤ k ∧ k < w11.heap.size }, rfl, ⟨⟨hown, ?_, ?_, ?_, ?_, ?_, ?_, ?_, fun k hk => hk.2⟩, ?_, ?_, ?_, ?_, ?_⟩, fun k hk => hk.1, ?_⟩
  · exact SetAt_same hS6 (T611.block tp ltp (by omega)) (T611.block tg ltg (by omega))
  · have hTab : Idx.Tab (fun _ => ⟨0, 0, 0⟩) m := ⟨fun i _ => Nat.zero_le _, fun i j _ _ h => (by cases h), fun id e _ h => (by cases h)⟩
    have hc1 : Idx.cnt (fun _ => (⟨0, 0, 0⟩ : Slot)) 1 m = 0 := cnt_zero (fun _ => (by decide : (0 : Nat) ≠ 1)) m
    have hc2 : Idx.cnt (fun _ => (⟨0, 0, 0⟩ : Slot)) 2 m = 0 := cnt_zero (fun _ => (by decide : (0 : Nat) ≠ 2)) m
    exact IdxOk.same (w := w8) ⟨⟨0, hI8⟩, hTab, hc1, hc2, (show 0 ≤ codes ∧ 2 * codes ≤ m ∧ 1 ≤ codes ∧ codes ≤ 4096 ∧ m ≤ 16384 by omega)⟩ (T811.block ip lip (by omega)) (T811.block ig lig (by omega))
  · exact (hr5.same1 (T511.block sg lsg nsg)).mono fun k hk _ => by have : k = sg := hk; omega
  · exact (hH10.same fun k hk hk2 => T1011.block k hk2 (by have : w9.heap.size ≤ k := hk; omega)).mono fun k hk hk2 => ⟨hk, hk2⟩
  · exact hm5.same (T511.block mb lmb nmb)
  · exact ⟨⟨by omega, by omega⟩, ⟨(show w.heap.size ≤ tp by omega), (show tp < w11.heap.size by omega)⟩, ⟨(show w.heap.size ≤ tg by omega), (show tg < w11.heap.size by omega)⟩, ⟨(show w.heap.size ≤ ip by omega), (show ip < w11.heap.size by omega)⟩, ⟨(show w.heap.size ≤ ig by omega), (show ig < w11.heap.size by omega)⟩, ⟨(show w.heap.size ≤ mb by omega), (show mb < w11.heap.size by omega)⟩⟩
  · intro k hk
    obtain ⟨h1, h2⟩ : w9.heap.size ≤ k ∧ k < w11.heap.size := hk
    exact ⟨⟨by omega, h2⟩, by omega, (show k ≠ tp by omega), (show k ≠ tg by omega), (show k ≠ ip by omega), (show k ≠ ig by omega), (show k ≠ sg by omega), (show k ≠ mb by omega)⟩
  · intro i hi
    have : hasB (fun _ => 0) i = false := by unfold hasB; exact Nat.zero_testBit _
    rw [this]
    simp
  · intro x hx; cases hx
  · intro j hj h; cases h
  · intro x hx; cases hx
  · exact ⟨Nat.le_refl _, Int.le_refl _, Nat.le_refl _, hn⟩
  · have T1 : Tch (· = b) w1 w11 := ((Tch.refl _ _).below hb5).trans T511
    exact Tch.to_below hb1 T1 (fun k hk => by have : k = b := hk; omega)

set_option maxRecDepth 100000 in
set_option maxHeartbeats 2000000 in
theorem New_yes (n codes : Nat) (group : Int) (w : World) (h : Geo.okS n codes group = true) : Calls Tryz.prog 37 #[.agg #[.int .i64 n, .int .i64 codes, .int .i64 group]] w (NewOut n codes group w) := by
  obtain ⟨i0, hi, hz0, hz1, hz2⟩ := info_parts bkg_info
  have hok := Geo.okS_yes h
  have hmm := @run_makeMap Tryz.prog
  have HC := Lib.hid (fun W => Geo.check_yes n codes group W h)
  have hn1 : 1 ≤ n ∧ n ≤ 1024 := by omega
  have hcd1 : 1 ≤ codes ∧ codes ≤ 4096 := by omega
  have hnz : ¬ (n : Int) < 0 := by omega
  clear h hok
  go_enter Tryz.func37, Tryz.ntmps37
  go_wp2_with fail
  refine (HC.out _).mono ?_
  rintro e w1 ⟨rfl, hb1⟩
  have hA0 := (Arr.fresh w 90 #[.int .i64 n, .int .i64 codes, .int .i64 group]).keep hb1
  have hB1 := ext_trans (ext_alloc (Below.refl w.heap.size w) (.cells #[.int .i64 n, .int .i64 codes, .int .i64 group] 90)) hb1
  obtain ⟨sh, hsh⟩ : ∃ sh, w.heap.size = sh := ⟨_, rfl⟩
  rw [hsh] at hA0 ⊢
  have HSH := Lib.hid hsh
  have HCS : ∀ w', Below w1.heap.size w1 w' → (w'.cell? ⟨sh, 0, none⟩ = some (.int .i64 n) ∧ w'.cell? ⟨sh, 1, none⟩ = some (.int .i64 codes) ∧ w'.cell? ⟨sh, 2, none⟩ = some (.int .i64 group) ∧ Below w1.heap.size w1 w') := fun w' hb => ⟨(hA0.keep hb).cell 0, (hA0.keep hb).cell 1, (hA0.keep hb).cell 2, hb⟩
  have HCS := Lib.hid HCS
  have HB1 := Lib.hid hB1
  have HA0 := Lib.hid hA0
  clear hb1 hA0 hB1 hsh
  go_wp2_with fail
  refine wp_region_held_drew (S := (fun w' => w'.cell? ⟨sh, 0, none⟩ = some (.int .i64 n) ∧ w'.cell? ⟨sh, 1, none⟩ = some (.int .i64 codes) ∧ w'.cell? ⟨sh, 2, none⟩ = some (.int .i64 group) ∧ Below w1.heap.size w1 w')) (by kernel_rfl) (by exact HCS.out _ (ext_drew (Below.refl _ _))) (fun hHeld => ?_)
  refine tky 0 (some 11) hHeld ?_
  try simp only [Act.put, List.setIfInBounds_toArray, List.set_cons_zero, List.set_cons_succ]
  refine tky 1 (some 12) hHeld ?_
  try simp only [Act.put, List.setIfInBounds_toArray, List.set_cons_zero, List.set_cons_succ]
  refine tky 2 (some 13) hHeld ?_
  try simp only [Act.put, List.setIfInBounds_toArray, List.set_cons_zero, List.set_cons_succ]
  refine tky 3 (some 14) hHeld ?_
  try simp only [Act.put, List.setIfInBounds_toArray, List.set_cons_zero, List.set_cons_succ]
  refine wpAnyH_ready (rs := [4, 5]) (by kernel_rfl) (by simp) ?_
  refine AllReadyH.cons rfl (fun K hK => ?_) (AllReadyH.cons rfl (fun K hK => ?_) AllReadyH.nil)
  · rw [if_pos (by rfl)]
    refine wp_make_rows _ (.tmp 14) (.tmp 14) 189 rfl 258 i0 (.agg #[.int .u32 0, .int .i64 0, .int .i64 0]) 3 Tryz.underlying189 hi hz0 hz1 rfl (by decide) n rfl rfl (by rw [hz2]; omega) (by unfold maxLen; omega) ?_
    intro w4 hr4 hg4
    have hb4 : Below w1.heap.size w1 w4 := Below.grown (ext_drew (Below.refl _ _)) hg4 (Nat.le_refl _) (by simp)
    obtain ⟨sg, hsg⟩ : ∃ sg, w1.heap.size = sg := ⟨_, rfl⟩
    have hr4' : RowIn (· = sg) w4 258 3 (.slice (some ⟨sg, 0, none⟩) n n) n (fun _ => bkgL ⟨0, 0, 0⟩) := hsg ▸ hr4
    rw [show (World.drew w1).heap.size = sg from hsg]
    have HR4 := Lib.hid hr4'; have HB4 := Lib.hid hb4; have HSG := Lib.hid hsg
    clear hr4 hg4 hr4' hsg
    refine hK.out _ _ (HCS.out _ HB4.out) (fun hHeld4 => ?_)
    clear hK K
    try simp only [Act.put, List.setIfInBounds_toArray, List.set_cons_zero, List.set_cons_succ]
    refine wpAnyH_ready (rs := [5]) (by kernel_rfl) (by simp) ?_
    refine AllReadyH.cons rfl (fun K hK => ?_) AllReadyH.nil
    go_simp
    go_wp2_with fail
    refine hK.out _ _ (HCS.out _ (ext_alloc HB4.out _)) (fun hHeld5 => ?_)
    clear hK K
    try simp only [Act.put, List.setIfInBounds_toArray, List.set_cons_zero, List.set_cons_succ]
    refine tky 6 (some 17) hHeld5 ?_
    try simp only [Act.put, List.setIfInBounds_toArray, List.set_cons_zero, List.set_cons_succ]
    refine wpAnyH_ready (rs := [7]) (by kernel_rfl) (by simp) ?_
    refine AllReadyH.cons rfl (fun K hK => ?_) AllReadyH.nil
    go_simp
    go_wp2_with fail
    refine hK.out _ _ (HCS.out _ (ext_alloc (ext_alloc HB4.out _) _)) (fun hHeld7 => ?_)
    clear hK K
    try simp only [Act.put, List.setIfInBounds_toArray, List.set_cons_zero, List.set_cons_succ]
    refine tky 8 (some 5) hHeld7 ?_
    try simp only [Act.put, List.setIfInBounds_toArray, List.set_cons_zero, List.set_cons_succ]
    refine wpAnyH_done (by kernel_rfl) ?_ _
    have hbk5 : Arr ((w4.alloc (.map #[] 0)).alloc (.cells #[.int .i64 n, .int .i64 codes, .int .i64 group, .bool true, .int .i64 0, .int .u32 1, .pointer none, .pointer none, .slice (some ⟨sg, 0, none⟩) n n, .pointer none, .map (some w4.heap.size)] 195)) (w4.heap.size + 1) 195 #[.int .i64 n, .int .i64 codes, .int .i64 group, .bool true, .int .i64 0, .int .u32 1, .pointer none, .pointer none, .slice (some ⟨sg, 0, none⟩) n n, .pointer none, .map (some (w4.heap.size))] := Arr.new (by simp)
    have hb5 : Below w1.heap.size w1 ((w4.alloc (.map #[] 0)).alloc (.cells #[.int .i64 n, .int .i64 codes, .int .i64 group, .bool true, .int .i64 0, .int .u32 1, .pointer none, .pointer none, .slice (some ⟨sg, 0, none⟩) n n, .pointer none, .map (some w4.heap.size)] 195)) := ext_alloc (ext_alloc HB4.out _) _
    have hr5 : RowIn (· = sg) ((w4.alloc (.map #[] 0)).alloc (.cells #[.int .i64 n, .int .i64 codes, .int .i64 group, .bool true, .int .i64 0, .int .u32 1, .pointer none, .pointer none, .slice (some ⟨sg, 0, none⟩) n n, .pointer none, .map (some w4.heap.size)] 195)) 258 3 (.slice (some ⟨sg, 0, none⟩) n n) n (fun _ => bkgL ⟨0, 0, 0⟩) := HR4.out.keep (ext_alloc (ext_alloc (Below.refl _ _) _) _)
    have hm5 : MapAt Tryz.prog 188 3 .u32 ((w4.alloc (.map #[] 0)).alloc (.cells #[.int .i64 n, .int .i64 codes, .int .i64 group, .bool true, .int .i64 0, .int .u32 1, .pointer none, .pointer none, .slice (some ⟨sg, 0, none⟩) n n, .pointer none, .map (some w4.heap.size)] 195)) (w4.heap.size) 0 (fun _ => none) := (MapAt.made _ _ _ _ w4).alloc _
    have hg5 : w1.heap.size ≤ sg ∧ w1.heap.size ≤ (w4.heap.size) ∧ w1.heap.size ≤ (w4.heap.size + 1) := by
      have h1 := HSG.out
      have h2 : w1.heap.size ≤ w4.heap.size := HB4.out.size
      omega
    obtain ⟨w5, hw5⟩ : ∃ w5, (w4.alloc (.map #[] 0)).alloc (.cells #[.int .i64 n, .int .i64 codes, .int .i64 group, .bool true, .int .i64 0, .int .u32 1, .pointer none, .pointer none, .slice (some ⟨sg, 0, none⟩) n n, .pointer none, .map (some w4.heap.size)] 195) = w5 := ⟨_, rfl⟩
    rw [hw5] at hbk5 hb5 hr5 hm5
    rw [show ((w4.alloc (.map #[] 0)).alloc (.cells #[.int .i64 n, .int .i64 codes, .int .i64 group, .bool true, .int .i64 0, .int .u32 1, .pointer none, .pointer none, .slice (some ⟨sg, 0, none⟩) n n, .pointer none, .map (some w4.heap.size)] 195)) = w5 from hw5]
    obtain ⟨b, hb⟩ : ∃ b, (w4.heap.size + 1) = b := ⟨_, rfl⟩
    obtain ⟨mb, hmb⟩ : ∃ mb, (w4.heap.size) = mb := ⟨_, rfl⟩
    simp only [hb] at hbk5 hm5 ⊢
    simp only [hmb] at hbk5 hm5 ⊢
    have hg5 : w1.heap.size ≤ sg ∧ w1.heap.size ≤ mb ∧ w1.heap.size ≤ b := by omega
    have HBK5 := Lib.hid hbk5; have HB5 := Lib.hid hb5; have HR5 := Lib.hid hr5; have HM5 := Lib.hid hm5; have HG5 := Lib.hid hg5
    clear hw5 hb hmb hbk5 hb5 hr5 hm5 hg5 HR4 HB4 HSG hHeld5 hHeld7 hHeld4 hHeld
    have c0 : w5.cell? ⟨sh, 0, none⟩ = some (.int .i64 n) := (HCS.out _ HB5.out).1
    go_wp2_with fail
    refine (Bit.New_in n (by omega) _).mono ?_
    rintro e w6 ⟨tp, tg, rfl, hS6, h61, h62, hb6⟩
    have hbk6 := HBK5.out.keep hb6
    have hshb : ¬ sh = b := by have h1 := HA0.out.lt; have h2 := HG5.out; omega
    have hbsh : ¬ b = sh := fun e => hshb e.symm
    have d1 : w6.cell? ⟨sh, 1, none⟩ = some (.int .i64 codes) := ((HA0.out.keep HB5.out).keep hb6).cell 1
    have k6 : w6.cell? ⟨b, 6, none⟩ = some (.pointer none) := hbk6.cell 6
    have m6 := hbk6.mark 6
    have hl6 := hbk6.lt
    have HS6 := Lib.hid hS6; have H61 := Lib.hid (And.intro h61 h62); have HB6 := Lib.hid hb6; have HBK6 := Lib.hid hbk6
    clear hS6 h61 h62 hb6 hbk6 c0
    go_wp2_with fail
    have hbk7 := HBK6.out.put 6 (.pointer (some ⟨tp, 0, none⟩))
    have T67 := (Tch.refl (· = b) w6).put (p := ⟨b, 6, none⟩) (.inl rfl) (.pointer (some ⟨tp, 0, none⟩))
    obtain ⟨w7, hw7⟩ : ∃ w7, w6.setCell ⟨b, 6, none⟩ (.pointer (some ⟨tp, 0, none⟩)) = w7 := ⟨_, rfl⟩
    rw [hw7] at hbk7 T67 ⊢
    have HBK7 := Lib.hid hbk7; have HT67 := Lib.hid T67
    clear hw7 hbk7 T67 d1 k6 m6 hl6
    refine (Idx.New_in codes hcd1.1 hcd1.2 w7).mono ?_
    rintro e w8 ⟨ip, ig, m, rfl, hI8, hm8, hm8', h81, h82, hb8⟩
    have hbk8 := HBK7.out.keep hb8
    have k7 : w8.cell? ⟨b, 7, none⟩ = some (.pointer none) := hbk8.cell 7
    have m7 := hbk8.mark 7
    have hl8 := hbk8.lt
    have HI8 := Lib.hid hI8; have H81 := Lib.hid (And.intro (And.intro hm8 hm8') (And.intro h81 h82)); have HB8 := Lib.hid hb8; have HBK8 := Lib.hid hbk8
    clear hI8 hm8 hm8' h81 h82 hb8 hbk8
    go_wp2_with fail
    have hbk9 := HBK8.out.put 7 (.pointer (some ⟨ip, 0, none⟩))
    have T89 := (Tch.refl (· = b) w8).put (p := ⟨b, 7, none⟩) (.inl rfl) (.pointer (some ⟨ip, 0, none⟩))
    obtain ⟨w9, hw9⟩ : ∃ w9, w8.setCell ⟨b, 7, none⟩ (.pointer (some ⟨ip, 0, none⟩)) = w9 := ⟨_, rfl⟩
    rw [hw9] at hbk9 T89 ⊢
    have HBK9 := Lib.hid hbk9; have HT89 := Lib.hid T89
    clear hw9 hbk9 T89 k7 m7 hl8
    refine (Hp.New_in w9).mono ?_
    rintro e w10 ⟨hp, rfl, hH10, hb10⟩
    have hbk10 := HBK9.out.keep hb10
    have k9 : w10.cell? ⟨b, 9, none⟩ = some (.pointer none) := hbk10.cell 9
    have m9 := hbk10.mark 9
    have hl10 := hbk10.lt
    have HH10 := Lib.hid hH10; have HB10 := Lib.hid hb10; have HBK10 := Lib.hid hbk10
    clear hH10 hb10 hbk10
    go_wp2_with fail
    go_ret2
    exact new_join HSH.out hn1 hcd1 HB1.out HB5.out HR5.out HM5.out HG5.out HBK5.out HS6.out H61.out HB6.out HT67.out HI8.out H81.out HB8.out HT89.out HH10.out HB10.out HBK10.out
  · go_simp
    go_wp2_with fail
    refine hK.out _ _ (HCS.out _ (ext_alloc (ext_drew (Below.refl _ _)) _)) (fun hHeld5 => ?_)
    clear hK K
    try simp only [Act.put, List.setIfInBounds_toArray, List.set_cons_zero, List.set_cons_succ]
    refine wpAnyH_ready (rs := [4]) (by kernel_rfl) (by simp) ?_
    refine AllReadyH.cons rfl (fun K hK => ?_) AllReadyH.nil
    rw [if_pos (by rfl)]
    refine wp_make_rows _ (.tmp 14) (.tmp 14) 189 rfl 258 i0 (.agg #[.int .u32 0, .int .i64 0, .int .i64 0]) 3 Tryz.underlying189 hi hz0 hz1 rfl (by decide) n rfl rfl (by rw [hz2]; omega) (by unfold maxLen; omega) ?_
    intro w4 hr4 hg4
    have hb4 : Below w1.heap.size w1 w4 := Below.grown (ext_alloc (ext_drew (Below.refl _ _)) _) hg4 (by simp) (by simp)
    obtain ⟨sg, hsg⟩ : ∃ sg, w1.heap.size + 1 = sg := ⟨_, rfl⟩
    have hsz : (w1.alloc (.map #[] 0)).drew.heap.size = sg := by rw [← hsg]; simp
    have hm4 : MapAt Tryz.prog 188 3 .u32 w4 w1.heap.size 0 (fun _ => none) := (MapAt.made _ _ _ _ w1.drew).same (hg4.block _ (by simp) (by simp))
    have hr4' : RowIn (· = sg) w4 258 3 (.slice (some ⟨sg, 0, none⟩) n n) n (fun _ => bkgL ⟨0, 0, 0⟩) := hsz ▸ hr4
    rw [show (w1.alloc (.map #[] 0)).drew.heap.size = sg from hsz]
    have HR4 := Lib.hid hr4'; have HB4 := Lib.hid hb4; have HSG := Lib.hid (show w1.heap.size ≤ sg ∧ sg < w4.heap.size by have := hr4'.form (by omega); obtain ⟨_, _, e, _, _, _, l⟩ := this; injection e with e; injection e with e; injection e with e; subst e; omega); have HM4 := Lib.hid hm4
    clear hr4 hg4 hr4' hsg hsz hm4 hb4
    refine hK.out _ _ (HCS.out _ HB4.out) (fun hHeld4 => ?_)
    clear hK K
    try simp only [Act.put, List.setIfInBounds_toArray, List.set_cons_zero, List.set_cons_succ]
    refine tky 6 (some 17) hHeld4 ?_
    try simp only [Act.put, List.setIfInBounds_toArray, List.set_cons_zero, List.set_cons_succ]
    refine wpAnyH_ready (rs := [7]) (by kernel_rfl) (by simp) ?_
    refine AllReadyH.cons rfl (fun K hK => ?_) AllReadyH.nil
    go_simp
    go_wp2_with fail
    refine hK.out _ _ (HCS.out _ (ext_alloc HB4.out _)) (fun hHeld7 => ?_)
    clear hK K
    try simp only [Act.put, List.setIfInBounds_toArray, List.set_cons_zero, List.set_cons_succ]
    refine tky 8 (some 5) hHeld7 ?_
    try simp only [Act.put, List.setIfInBounds_toArray, List.set_cons_zero, List.set_cons_succ]
    refine wpAnyH_done (by kernel_rfl) ?_ _
    have hbk5 : Arr (w4.alloc (.cells #[.int .i64 n, .int .i64 codes, .int .i64 group, .bool true, .int .i64 0, .int .u32 1, .pointer none, .pointer none, .slice (some ⟨sg, 0, none⟩) n n, .pointer none, .map (some w1.heap.size)] 195)) (w4.heap.size) 195 #[.int .i64 n, .int .i64 codes, .int .i64 group, .bool true, .int .i64 0, .int .u32 1, .pointer none, .pointer none, .slice (some ⟨sg, 0, none⟩) n n, .pointer none, .map (some (w1.heap.size))] := Arr.new (by simp)
    have hb5 : Below w1.heap.size w1 (w4.alloc (.cells #[.int .i64 n, .int .i64 codes, .int .i64 group, .bool true, .int .i64 0, .int .u32 1, .pointer none, .pointer none, .slice (some ⟨sg, 0, none⟩) n n, .pointer none, .map (some w1.heap.size)] 195)) := ext_alloc HB4.out _
    have hr5 : RowIn (· = sg) (w4.alloc (.cells #[.int .i64 n, .int .i64 codes, .int .i64 group, .bool true, .int .i64 0, .int .u32 1, .pointer none, .pointer none, .slice (some ⟨sg, 0, none⟩) n n, .pointer none, .map (some w1.heap.size)] 195)) 258 3 (.slice (some ⟨sg, 0, none⟩) n n) n (fun _ => bkgL ⟨0, 0, 0⟩) := HR4.out.keep (ext_alloc (Below.refl _ _) _)
    have hm5 : MapAt Tryz.prog 188 3 .u32 (w4.alloc (.cells #[.int .i64 n, .int .i64 codes, .int .i64 group, .bool true, .int .i64 0, .int .u32 1, .pointer none, .pointer none, .slice (some ⟨sg, 0, none⟩) n n, .pointer none, .map (some w1.heap.size)] 195)) (w1.heap.size) 0 (fun _ => none) := HM4.out.alloc _
    have hg5 : w1.heap.size ≤ sg ∧ w1.heap.size ≤ (w1.heap.size) ∧ w1.heap.size ≤ (w4.heap.size) := by
      have h1 := HSG.out
      have h2 : w1.heap.size ≤ w4.heap.size := HB4.out.size
      omega
    obtain ⟨w5, hw5⟩ : ∃ w5, w4.alloc (.cells #[.int .i64 n, .int .i64 codes, .int .i64 group, .bool true, .int .i64 0, .int .u32 1, .pointer none, .pointer none, .slice (some ⟨sg, 0, none⟩) n n, .pointer none, .map (some w1.heap.size)] 195) = w5 := ⟨_, rfl⟩
    rw [hw5] at hbk5 hb5 hr5 hm5
    rw [show (w4.alloc (.cells #[.int .i64 n, .int .i64 codes, .int .i64 group, .bool true, .int .i64 0, .int .u32 1, .pointer none, .pointer none, .slice (some ⟨sg, 0, none⟩) n n, .pointer none, .map (some w1.heap.size)] 195)) = w5 from hw5]
    obtain ⟨b, hb⟩ : ∃ b, (w4.heap.size) = b := ⟨_, rfl⟩
    obtain ⟨mb, hmb⟩ : ∃ mb, w1.heap.size = mb := ⟨_, rfl⟩
    simp only [hb] at hbk5 hm5 ⊢
    simp only [hmb] at hbk5 hm5 ⊢
    have hg5 : w1.heap.size ≤ sg ∧ w1.heap.size ≤ mb ∧ w1.heap.size ≤ b := by omega
    have HBK5 := Lib.hid hbk5; have HB5 := Lib.hid hb5; have HR5 := Lib.hid hr5; have HM5 := Lib.hid hm5; have HG5 := Lib.hid hg5
    clear hw5 hb hmb hbk5 hb5 hr5 hm5 hg5 HR4 HB4 HSG hHeld5 hHeld7 hHeld4 hHeld
    have c0 : w5.cell? ⟨sh, 0, none⟩ = some (.int .i64 n) := (HCS.out _ HB5.out).1
    go_wp2_with fail
    refine (Bit.New_in n (by omega) _).mono ?_
    rintro e w6 ⟨tp, tg, rfl, hS6, h61, h62, hb6⟩
    have hbk6 := HBK5.out.keep hb6
    have hshb : ¬ sh = b := by have h1 := HA0.out.lt; have h2 := HG5.out; omega
    have hbsh : ¬ b = sh := fun e => hshb e.symm
    have d1 : w6.cell? ⟨sh, 1, none⟩ = some (.int .i64 codes) := ((HA0.out.keep HB5.out).keep hb6).cell 1
    have k6 : w6.cell? ⟨b, 6, none⟩ = some (.pointer none) := hbk6.cell 6
    have m6 := hbk6.mark 6
    have hl6 := hbk6.lt
    have HS6 := Lib.hid hS6; have H61 := Lib.hid (And.intro h61 h62); have HB6 := Lib.hid hb6; have HBK6 := Lib.hid hbk6
    clear hS6 h61 h62 hb6 hbk6 c0
    go_wp2_with fail
    have hbk7 := HBK6.out.put 6 (.pointer (some ⟨tp, 0, none⟩))
    have T67 := (Tch.refl (· = b) w6).put (p := ⟨b, 6, none⟩) (.inl rfl) (.pointer (some ⟨tp, 0, none⟩))
    obtain ⟨w7, hw7⟩ : ∃ w7, w6.setCell ⟨b, 6, none⟩ (.pointer (some ⟨tp, 0, none⟩)) = w7 := ⟨_, rfl⟩
    rw [hw7] at hbk7 T67 ⊢
    have HBK7 := Lib.hid hbk7; have HT67 := Lib.hid T67
    clear hw7 hbk7 T67 d1 k6 m6 hl6
    refine (Idx.New_in codes hcd1.1 hcd1.2 w7).mono ?_
    rintro e w8 ⟨ip, ig, m, rfl, hI8, hm8, hm8', h81, h82, hb8⟩
    have hbk8 := HBK7.out.keep hb8
    have k7 : w8.cell? ⟨b, 7, none⟩ = some (.pointer none) := hbk8.cell 7
    have m7 := hbk8.mark 7
    have hl8 := hbk8.lt
    have HI8 := Lib.hid hI8; have H81 := Lib.hid (And.intro (And.intro hm8 hm8') (And.intro h81 h82)); have HB8 := Lib.hid hb8; have HBK8 := Lib.hid hbk8
    clear hI8 hm8 hm8' h81 h82 hb8 hbk8
    go_wp2_with fail
    have hbk9 := HBK8.out.put 7 (.pointer (some ⟨ip, 0, none⟩))
    have T89 := (Tch.refl (· = b) w8).put (p := ⟨b, 7, none⟩) (.inl rfl) (.pointer (some ⟨ip, 0, none⟩))
    obtain ⟨w9, hw9⟩ : ∃ w9, w8.setCell ⟨b, 7, none⟩ (.pointer (some ⟨ip, 0, none⟩)) = w9 := ⟨_, rfl⟩
    rw [hw9] at hbk9 T89 ⊢
    have HBK9 := Lib.hid hbk9; have HT89 := Lib.hid T89
    clear hw9 hbk9 T89 k7 m7 hl8
    refine (Hp.New_in w9).mono ?_
    rintro e w10 ⟨hp, rfl, hH10, hb10⟩
    have hbk10 := HBK9.out.keep hb10
    have k9 : w10.cell? ⟨b, 9, none⟩ = some (.pointer none) := hbk10.cell 9
    have m9 := hbk10.mark 9
    have hl10 := hbk10.lt
    have HH10 := Lib.hid hH10; have HB10 := Lib.hid hb10; have HBK10 := Lib.hid hbk10
    clear hH10 hb10 hbk10
    go_wp2_with fail
    go_ret2
    exact new_join HSH.out hn1 hcd1 HB1.out HB5.out HR5.out HM5.out HG5.out HBK5.out HS6.out H61.out HB6.out HT67.out HI8.out H81.out HB8.out HT89.out HH10.out HB10.out HBK10.out

end Go.Proofs.YtkmpchffflemcaaGreatDoor.Bk
end
end
