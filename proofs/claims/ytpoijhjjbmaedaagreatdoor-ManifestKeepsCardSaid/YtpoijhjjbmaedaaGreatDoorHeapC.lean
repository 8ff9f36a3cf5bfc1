/- Packed: Heap5 Book -/
import Derived.Test.YtpoijhjjbmaedaaGreatDoorHeapB
import Derived.Test.YtpoijhjjbmaedaaGreatDoorKitA
import Derived.IntWalk
import Derived.Test.YtpoijhjjbmaedaaGreatDoorIdxA
set_option linter.unusedVariables false
set_option linter.unusedSimpArgs false
/- Heap5: The heap of what is due: New, none, Push. -/
section
namespace Go.Proofs.YtpoijhjjbmaedaaGreatDoor.Hp
open Go.RowKit

theorem HeapIn.mono {S T : Nat → Prop} {w : World} {p l : Nat} {next : Int} {f : Nat → Due} (h : HeapIn S w p l next f) (hST : ∀ k, S k → k < w.heap.size → T k) : HeapIn T w p l next f := by
  obtain ⟨iv, mb, φ, hp, hr, hm, hpl, sp, sm⟩ := h.lies
  exact ⟨⟨iv, mb, φ, hp, hr.mono hST, hm, hpl, hST p sp hp.lt, hST mb sm hm.lt⟩, h.bound⟩
theorem HeapIn.same {S : Nat → Prop} {w w' : World} {p l : Nat} {next : Int} {f : Nat → Due} (h : HeapIn S w p l next f) (hk : ∀ k, S k → k < w.heap.size → w'.heap[k]? = w.heap[k]?) : HeapIn S w' p l next f := by
  obtain ⟨iv, mb, φ, hp, hr, hm, hpl, sp, sm⟩ := h.lies
  exact ⟨⟨iv, mb, φ, (hk p sp hp.lt).trans hp, hr.same hk, hm.same (hk mb sm hm.lt), hpl, sp, sm⟩, h.bound⟩

theorem func_nil (W : World) : (binOp BinOp.eql 152 (.func (.func 79) #[] #[]) Value.nilFunc).run Tryz.prog W = .ok (.bool false) W := by kernel_rfl
set_option maxRecDepth 100000 in
set_option maxHeartbeats 1000000 in
theorem none_in (p : Nat) (w : World) (x0 : w.cell? ⟨p, 0, none⟩ = some lessV) : Calls Tryz.prog 133 #[.pointer (some ⟨p, 0, none⟩)] w fun e w' => e = .returned (.bool false) ∧ w' = w := by
  rw [show lessV = .func (.func 79) #[] #[] from rfl] at x0
  have hfn := func_nil
  go_enter Tryz.func133, Tryz.ntmps133
  go_wp2_with fail
  go_ret
  exact ⟨rfl, rfl⟩

def HpNew (w : World) (e : Ending) (w' : World) : Prop := ∃ p, e = .returned (.pointer (some ⟨p, 0, none⟩)) ∧ HeapIn (fun k => w.heap.size ≤ k) w' p 0 0 (fun _ => ⟨0, 0, 0⟩) ∧ Below w.heap.size w w'
set_option maxRecDepth 100000 in
set_option maxHeartbeats 1000000 in
theorem New_in (w : World) : Calls Tryz.prog 78 #[.func (.func 79) #[] #[]] w (HpNew w) := by
  have hfn := func_nil
  have hmm := @run_makeMap Tryz.prog
  go_enter Tryz.func78, Tryz.ntmps78
  go_wp2_with fail
  go_ret
  have hb : Below w.heap.size w ((w.alloc (.map #[] 0)).alloc (.cells #[.func (.func 79) #[] #[], .slice none 0 0, .map (some w.heap.size), .int .i64 0] 213)) := ext_alloc (ext_alloc (Below.refl _ _) _) _
  exact ⟨w.heap.size + 1, rfl, ⟨⟨_, w.heap.size, fun _ => none, Arr.new (by simp), RowIn.nil _ _ _ _ _, (MapAt.made _ _ _ _ w).alloc _, ⟨fun i hi => by omega, fun h i hi => by cases hi⟩, by omega, Nat.le_refl _⟩, by omega, by omega, by omega, fun i hi => by omega⟩, hb⟩

theorem itemL_snoc (f : Nat → Due) (l : Nat) (x : Due) : setL (itemL f) l [.int .i64 x.til, .int .u32 x.id, .int .i64 x.handle] = itemL (setL f l x) := by
  funext j
  unfold setL itemL
  by_cases h : j = l
  · subst h; simp
  · simp [h]
theorem Placed.snoc {f : Nat → Due} {l : Nat} {φ : Int → Option Int} (h : Placed f l φ) (x : Due) (hx : ∀ i, i < l → (f i).handle ≠ x.handle) : Placed (setL f l x) (l + 1) (mput φ x.handle (some (l : Int))) := by
  refine ⟨fun i hi => ?_, fun y z hz => ?_⟩
  · by_cases e : i = l
    · subst e; rw [setL_same, mput_same]
    · rw [setL_other _ _ e, mput_other _ _ (hx i (by omega))]
      exact h.1 i (by omega)
  · by_cases e : y = x.handle
    · subst e
      rw [mput_same] at hz
      injection hz with hz
      exact ⟨l, by omega, hz.symm, by rw [setL_same]⟩
    · rw [mput_other _ _ e] at hz
      obtain ⟨j, hj, e1, e2⟩ := h.2 y z hz
      exact ⟨j, by omega, e1, by rw [setL_other _ _ (by omega)]; exact e2⟩
theorem Placed.none {f : Nat → Due} {l : Nat} {φ : Int → Option Int} (h : Placed f l φ) {y : Int} (hy : ∀ i, i < l → (f i).handle ≠ y) : φ y = none := by
  cases hφ : φ y with
  | none => rfl
  | some z =>
    obtain ⟨j, hj, _, e⟩ := h.2 y z hφ
    exact absurd e (hy j hj)
def PushOut (S : Nat → Prop) (w : World) (p l : Nat) (next : Int) (f : Nat → Due) (til id : Int) (e : Ending) (w' : World) : Prop :=
  e = .returned (.tuple #[.int .i64 next, .int .i64 0]) ∧ HeapIn (fun k => S k ∨ w.heap.size ≤ k) w' p (l + 1) (next + 1) (settleD (setL f l ⟨til, id, next⟩) (l + 1) l) ∧ Tch S w w'
set_option maxRecDepth 100000 in
set_option maxHeartbeats 2000000 in
theorem Push_in (S : Nat → Prop) (p l : Nat) (next : Int) (f : Nat → Due) (til id : Int) (w : World) (h : HeapIn S w p l next f) (hl : l < 65536) (hn : next < 1099511627776) :
    Calls Tryz.prog 83 #[.pointer (some ⟨p, 0, none⟩), .agg #[.int .i64 til, .int .u32 id]] w (PushOut S w p l next f til id) := by
  obtain ⟨i0, hi, hz0, hz1, hz2⟩ := info_parts item_info
  have HH := Lib.hid h
  clear h
  go_enter Tryz.func83, Tryz.ntmps83
  go_wp2_with fail
  have hb1 : Below w.heap.size w (w.alloc (.cells #[.int .i64 til, .int .u32 id] 151)) := ext_alloc (Below.refl _ _) _
  have hA1 : Arr (w.alloc (.cells #[.int .i64 til, .int .u32 id] 151)) w.heap.size 151 #[.int .i64 til, .int .u32 id] := Arr.fresh w _ _
  obtain ⟨w1, hw1⟩ : ∃ w1, w.alloc (.cells #[.int .i64 til, .int .u32 id] 151) = w1 := ⟨_, rfl⟩
  obtain ⟨vb, hvb⟩ : ∃ vb, w.heap.size = vb := ⟨_, rfl⟩
  have hs1 : w1.heap.size = vb + 1 := by rw [← hw1, ← hvb]; simp
  rw [hw1] at hb1 hA1 ⊢
  rw [hvb] at hA1 ⊢
  have hI1 := RowIn_keepT hb1 HH.out
  obtain ⟨iv, mb, φ, hp, hr, hm, hpl, sp, sm⟩ := hI1.lies
  obtain ⟨A, cap, rfl⟩ := hr.any
  have hb9 := HH.out.bound
  have HL := Lib.hid hl
  clear hl
  clear hw1 hI1
  refine (none_in p w1 (hp.cell 0)).mono ?_
  rintro e w2 ⟨rfl, hw2⟩
  rw [hw2]
  clear hw2 w2
  have x1 : w1.cell? ⟨p, 1, none⟩ = some (.slice A l cap) := hp.cell 1
  have x3 : w1.cell? ⟨p, 3, none⟩ = some (.int .i64 next) := hp.cell 3
  have m3 := hp.mark 3
  have hpl1 := hp.lt
  have hn0 : 0 ≤ next := hb9.2.1
  have hlg : decide ((65536 : Int) ≤ (l : Int)) = false := decide_eq_false (by have := HL.out; omega)
  have HP := Lib.hid hp; have HR := Lib.hid hr; have HM := Lib.hid hm; have HPL := Lib.hid hpl; have HB1 := Lib.hid hb1; have HA1 := Lib.hid hA1; have HVB := Lib.hid hvb; have HS1 := Lib.hid hs1; have HB9 := Lib.hid hb9
  clear hp hr hm hpl hb1 hA1 hvb hs1 hb9
  go_wp2_with fail
  have hp2 : Arr (w1.setCell ⟨p, 3, none⟩ (.int .i64 (next + 1))) p 213 #[lessV, .slice A l cap, .map (some mb), .int .i64 (next + 1)] := HP.out.put 3 _
  have hr2 : RowIn S (w1.setCell ⟨p, 3, none⟩ (.int .i64 (next + 1))) 216 3 (.slice A l cap) l (itemL f) := HR.out.put (q := ⟨p, 3, none⟩) (fun g hg => HR.out.ne_arr hg HP.out (by decide)) _
  have hpm : p ≠ mb := map_ne_arr HM.out HP.out
  have hm2 : MapAt Tryz.prog 3 3 .i64 (w1.setCell ⟨p, 3, none⟩ (.int .i64 (next + 1))) mb l φ := HM.out.same (Below.heap_setCell w1 ⟨p, 3, none⟩ _ mb (fun e => hpm e.symm))
  have hA2 : Arr (w1.setCell ⟨p, 3, none⟩ (.int .i64 (next + 1))) vb 151 #[.int .i64 til, .int .u32 id] := HA1.out.other (p := ⟨p, 3, none⟩) (fun e => by
    have h1 : p < w.heap.size := by obtain ⟨_, _, _, h1, _⟩ := HH.out.lies; exact h1.lt
    have h2 := HVB.out
    simp at e; omega) _
  have hT2 : Tch S w (w1.setCell ⟨p, 3, none⟩ (.int .i64 (next + 1))) := ((Tch.refl S w).below HB1.out).put (p := ⟨p, 3, none⟩) (.inl sp) _
  have hs2 : (w1.setCell ⟨p, 3, none⟩ (.int .i64 (next + 1))).heap.size = vb + 1 := by simp [HS1.out]
  obtain ⟨w2, hw2⟩ : ∃ w2, w1.setCell ⟨p, 3, none⟩ (.int .i64 (next + 1)) = w2 := ⟨_, rfl⟩
  rw [hw2] at hp2 hr2 hm2 hA2 hT2 hs2 ⊢
  clear hw2 x1 x3 m3 HP HR HM HA1
  have x1 : w2.cell? ⟨p, 1, none⟩ = some (.slice A l cap) := hp2.cell 1
  have y0 : w2.cell? ⟨vb, 0, none⟩ = some (.int .i64 til) := hA2.cell 0
  have y1 : w2.cell? ⟨vb, 1, none⟩ = some (.int .u32 id) := hA2.cell 1
  have hpl2 := hp2.lt
  have hba : Below w2.heap.size w2 (w2.drew.alloc (.cells #[.int .i64 til, .int .u32 id, .int .i64 next] 216)) := ext_alloc (ext_drew (Below.refl _ _)) _
  have HRX := Lib.hid (hr2.keep hba)
  have HPX := Lib.hid (hp2.keep hba)
  have HMX := Lib.hid (hm2.same (hba.block mb hm2.lt))
  have HTX := Lib.hid (hT2.below hba)
  have HS2 := Lib.hid hs2
  have HCS : ∀ w', Below w2.heap.size w2 w' → (w'.cell? ⟨p, 1, none⟩ = some (.slice A l cap) ∧ w'.cell? ⟨vb, 0, none⟩ = some (.int .i64 til) ∧ w'.cell? ⟨vb, 1, none⟩ = some (.int .u32 id)) := fun w' hb => ⟨(hb.cell (p := ⟨p, 1, none⟩) hp2.lt).trans x1, (hb.cell (p := ⟨vb, 0, none⟩) hA2.lt).trans y0, (hb.cell (p := ⟨vb, 1, none⟩) hA2.lt).trans y1⟩
  have HCS := Lib.hid HCS
  have HAX := Lib.hid (hA2.keep hba)
  clear hp2 hr2 hm2 hA2 hT2 hs2 hba x1 y0 y1
  refine region_any_drew (by kernel_rfl) ?_
  refine AnyTill.any (S := (fun w' => w'.cell? ⟨p, 1, none⟩ = some (.slice A l cap) ∧ w'.cell? ⟨vb, 0, none⟩ = some (.int .i64 til) ∧ w'.cell? ⟨vb, 1, none⟩ = some (.int .u32 id))) (t := 12) _ _ _ _ ?_
  have hHeld := (show (fun w' => w'.cell? ⟨p, 1, none⟩ = some (.slice A l cap) ∧ w'.cell? ⟨vb, 0, none⟩ = some (.int .i64 til) ∧ w'.cell? ⟨vb, 1, none⟩ = some (.int .u32 id)) w2.drew from HCS.out _ (ext_drew (Below.refl _ _)))
  refine till_take (i := 0) (oi := ?o1) (d := (some 26)) (v := ?v1) ?hi1 (by kernel_rfl) (by kernel_rfl) (by kernel_rfl) (by kernel_rfl) (by kernel_rfl) (fun _ _ _ h => h) ?hd1 ?hw1 ?hy1 hHeld ?_
  case hi1 => (simp only [List.getElem?_toArray, List.getElem?_cons_zero]; exact rfl)
  case hd1 => rfl
  case hw1 => rfl
  case hy1 => (intro w hSw; (try dsimp only at hSw); go_simp; try with_reducible rfl)
  try simp only [Act.put, List.setIfInBounds_toArray, List.set_cons_zero, List.set_cons_succ]
  refine till_take (i := 1) (oi := ?o2) (d := (some 27)) (v := ?v2) ?hi2 (by kernel_rfl) (by kernel_rfl) (by kernel_rfl) (by kernel_rfl) (by kernel_rfl) (fun _ _ _ h => h) ?hd2 ?hw2 ?hy2 hHeld ?_
  case hi2 => (simp only [List.getElem?_toArray, List.getElem?_cons_zero, List.getElem?_cons_succ]; exact rfl)
  case hd2 => rfl
  case hw2 => rfl
  case hy2 => (intro w hSw; (try dsimp only at hSw); go_simp; try with_reducible rfl)
  try simp only [Act.put, List.setIfInBounds_toArray, List.set_cons_zero, List.set_cons_succ]
  refine till_take (i := 2) (oi := ?o3) (d := (some 28)) (v := ?v3) ?hi3 (by kernel_rfl) (by kernel_rfl) (by kernel_rfl) (by kernel_rfl) (by kernel_rfl) (fun _ _ _ h => h) ?hd3 ?hw3 ?hy3 hHeld ?_
  case hi3 => (simp only [List.getElem?_toArray, List.getElem?_cons_zero, List.getElem?_cons_succ]; exact rfl)
  case hd3 => rfl
  case hw3 => rfl
  case hy3 => (intro w hSw; (try dsimp only at hSw); go_simp; try with_reducible rfl)
  try simp only [Act.put, List.setIfInBounds_toArray, List.set_cons_zero, List.set_cons_succ]
  refine till_take (i := 3) (oi := ?o4) (d := (some 29)) (v := ?v4) ?hi4 (by kernel_rfl) (by kernel_rfl) (by kernel_rfl) (by kernel_rfl) (by kernel_rfl) (fun _ _ _ h => h) ?hd4 ?hw4 ?hy4 hHeld ?_
  case hi4 => (simp only [List.getElem?_toArray, List.getElem?_cons_zero, List.getElem?_cons_succ]; exact rfl)
  case hd4 => rfl
  case hw4 => rfl
  case hy4 => (intro w hSw; (try dsimp only at hSw); go_simp; try with_reducible rfl)
  try simp only [Act.put, List.setIfInBounds_toArray, List.set_cons_zero, List.set_cons_succ]
  refine till_take (i := 4) (oi := ?o5) (d := (some 30)) (v := ?v5) ?hi5 (by kernel_rfl) (by kernel_rfl) (by kernel_rfl) (by kernel_rfl) (by kernel_rfl) (fun _ _ _ h => h) ?hd5 ?hw5 ?hy5 hHeld ?_
  case hi5 => (simp only [List.getElem?_toArray, List.getElem?_cons_zero, List.getElem?_cons_succ]; exact rfl)
  case hd5 => rfl
  case hw5 => rfl
  case hy5 => (intro w hSw; (try dsimp only at hSw); go_simp; try with_reducible rfl)
  try simp only [Act.put, List.setIfInBounds_toArray, List.set_cons_zero, List.set_cons_succ]
  refine till_take (i := 5) (oi := ?o6) (d := (some 31)) (v := ?v6) ?hi6 (by kernel_rfl) (by kernel_rfl) (by kernel_rfl) (by kernel_rfl) (by kernel_rfl) (fun _ _ _ h => h) ?hd6 ?hw6 ?hy6 hHeld ?_
  case hi6 => (simp only [List.getElem?_toArray, List.getElem?_cons_zero, List.getElem?_cons_succ]; exact rfl)
  case hd6 => rfl
  case hw6 => rfl
  case hy6 => (intro w hSw; (try dsimp only at hSw); go_simp; try with_reducible rfl)
  try simp only [Act.put, List.setIfInBounds_toArray, List.set_cons_zero, List.set_cons_succ]
  refine till_take (i := 6) (oi := ?o7) (d := (some 32)) (v := ?v7) ?hi7 (by kernel_rfl) (by kernel_rfl) (by kernel_rfl) (by kernel_rfl) (by kernel_rfl) (fun _ _ _ h => h) ?hd7 ?hw7 ?hy7 hHeld ?_
  case hi7 => (simp only [List.getElem?_toArray, List.getElem?_cons_zero, List.getElem?_cons_succ]; exact rfl)
  case hd7 => rfl
  case hw7 => rfl
  case hy7 => (intro w hSw; (try dsimp only at hSw); go_simp; try with_reducible rfl)
  try simp only [Act.put, List.setIfInBounds_toArray, List.set_cons_zero, List.set_cons_succ]
  refine till_take (i := 7) (oi := ?o8) (d := (some 33)) (v := ?v8) ?hi8 (by kernel_rfl) (by kernel_rfl) (by kernel_rfl) (by kernel_rfl) (by kernel_rfl) (fun _ _ _ h => h) ?hd8 ?hw8 ?hy8 hHeld ?_
  case hi8 => (simp only [List.getElem?_toArray, List.getElem?_cons_zero, List.getElem?_cons_succ]; exact rfl)
  case hd8 => rfl
  case hw8 => rfl
  case hy8 => (intro w hSw; (try dsimp only at hSw); go_simp; try with_reducible rfl)
  try simp only [Act.put, List.setIfInBounds_toArray, List.set_cons_zero, List.set_cons_succ]
  refine AnyTill.step (i := 8) (by kernel_rfl) (by kernel_rfl) rfl (fun K hK => ?_)
  go_simp
  go_wp2_with fail
  refine hK.out _ _ (by first | exact HCS.out _ (ext_alloc (ext_drew (Below.refl _ _)) _) | exact ⟨x1, y0, y1⟩) (fun hHeld8 => ?_)
  clear hK K
  try simp only [Act.put, List.setIfInBounds_toArray, List.set_cons_zero, List.set_cons_succ]
  refine AnyTill.step (i := 9) (by kernel_rfl) (by kernel_rfl) rfl (fun K hK => ?_)
  rw [if_pos (by rfl)]
  refine wp_append_elem _ (.tmp 30) (.tmp 34) 211 rfl 216 i0 (.agg #[.int .i64 0, .int .u32 0, .int .i64 0]) 3 24 Tryz.underlying211 hi hz0 hz1 hz2 rfl (by decide) (.slice A l cap) l (itemL f) rfl HRX.out ⟨w2.heap.size, 0, none⟩ 1 [.int .i64 til, .int .u32 id, .int .i64 next] rfl rfl (news_any w2.drew _ _) (by intro u hu; simp at hu; rcases hu with rfl | rfl | rfl <;> rfl) (by have := HL.out; unfold maxLen; omega) (by have := HL.out; omega) ?_
  intro g cp w3 hr3 hg3
  have hp3 : Arr w3 p 213 #[lessV, .slice A l cap, .map (some mb), .int .i64 (next + 1)] := (hg3.block p HPX.out.lt (fun e => HRX.out.ne_arr e.symm HPX.out (by decide) rfl)).trans HPX.out
  have hm3 := HMX.out.same (hg3.block mb HMX.out.lt (fun e => HRX.out.ne_map e.symm HMX.out rfl))
  have hA3 : Arr w3 vb 151 #[.int .i64 til, .int .u32 id] := (hg3.block vb HAX.out.lt (fun e => HRX.out.ne_arr e.symm HAX.out (by decide) rfl)).trans HAX.out
  have hT3 := HTX.out.grown hg3 (fun k e => .inl (HRX.out.block k e))
  have x1 : w3.cell? ⟨p, 1, none⟩ = some (.slice A l cap) := Arr.cell hp3 1
  have y0 : w3.cell? ⟨vb, 0, none⟩ = some (.int .i64 til) := Arr.cell hA3 0
  have y1 : w3.cell? ⟨vb, 1, none⟩ = some (.int .u32 id) := Arr.cell hA3 1
  have m1 := Arr.mark hp3 1
  have HP3 := Lib.hid hp3; have HM3 := Lib.hid hm3; have HT3 := Lib.hid hT3; have HR3 := Lib.hid hr3
  clear hp3 hm3 hT3 hr3 hg3 hA3
  refine hK.out _ _ (by first | exact HCS.out _ (ext_alloc (ext_drew (Below.refl _ _)) _) | exact ⟨x1, y0, y1⟩) (fun hHeld9 => ?_)
  clear hK K
  try simp only [Act.put, List.setIfInBounds_toArray, List.set_cons_zero, List.set_cons_succ]
  refine till_pure (i := 10) (oi := ?o9) (d := (some 36)) (v := ?v9) ?hi9 (by kernel_rfl) (by kernel_rfl) (by kernel_rfl) (by kernel_rfl) (fun _ _ _ h => h) ?hd9 ?hw9 ?hy9 hHeld9 ?_
  case hi9 => (simp only [List.getElem?_toArray, List.getElem?_cons_zero, List.getElem?_cons_succ]; exact rfl)
  case hd9 => rfl
  case hw9 => rfl
  case hy9 => (intro w; go_simp; try with_reducible rfl)
  try simp only [Act.put, List.setIfInBounds_toArray, List.set_cons_zero, List.set_cons_succ]
  refine till_pure (i := 11) (oi := ?o10) (d := (some 37)) (v := ?v10) ?hi10 (by kernel_rfl) (by kernel_rfl) (by kernel_rfl) (by kernel_rfl) (fun _ _ _ h => h) ?hd10 ?hw10 ?hy10 hHeld9 ?_
  case hi10 => (simp only [List.getElem?_toArray, List.getElem?_cons_zero, List.getElem?_cons_succ]; exact rfl)
  case hd10 => rfl
  case hw10 => rfl
  case hy10 => (intro w; go_simp; try with_reducible rfl)
  try simp only [Act.put, List.setIfInBounds_toArray, List.set_cons_zero, List.set_cons_succ]
  refine AnyTill.last (by kernel_rfl) ?_
  refine any_drop 12 (by kernel_rfl) (by kernel_rfl) ?_
  simp only [List.drop_succ_cons, List.drop_zero]
  go_wp2_with fail
  have hpm : p ≠ mb := map_ne_arr HM3.out HP3.out
  have hp4 : Arr (w3.setCell ⟨p, 1, none⟩ (.slice (some ⟨g, 0, none⟩) (l + 1) cp)) p 213 #[lessV, .slice (some ⟨g, 0, none⟩) (l + 1) cp, .map (some mb), .int .i64 (next + 1)] := HP3.out.put 1 _
  have hr4 : RowIn (fun k => S k ∨ w.heap.size ≤ k) (w3.setCell ⟨p, 1, none⟩ (.slice (some ⟨g, 0, none⟩) (l + 1) cp)) 216 3 (.slice (some ⟨g, 0, none⟩) (l + 1) cp) (l + 1) (itemL (setL f l ⟨til, id, next⟩)) := by
    rw [← itemL_snoc]
    refine (HR3.out.mono ?_).put (q := ⟨p, 1, none⟩) (fun k hk => HR3.out.ne_arr hk HP3.out (by decide)) _
    intro k hk _
    rcases hk with hk | hk
    · exact .inl hk
    · right
      have h1 := HVB.out
      have h2 := HS2.out
      rw [hk]
      simp
      omega
  have hm4 : MapAt Tryz.prog 3 3 .i64 (w3.setCell ⟨p, 1, none⟩ (.slice (some ⟨g, 0, none⟩) (l + 1) cp)) mb l φ := HM3.out.same (Below.heap_setCell w3 ⟨p, 1, none⟩ _ mb (fun e => hpm e.symm))
  have hT4 : Tch S w (w3.setCell ⟨p, 1, none⟩ (.slice (some ⟨g, 0, none⟩) (l + 1) cp)) := HT3.out.put (p := ⟨p, 1, none⟩) (.inl sp) _
  obtain ⟨w4, hw4⟩ : ∃ w4, w3.setCell ⟨p, 1, none⟩ (.slice (some ⟨g, 0, none⟩) (l + 1) cp) = w4 := ⟨_, rfl⟩
  rw [hw4] at hp4 hr4 hm4 hT4 ⊢
  clear hw4 x1 y0 y1 m1 hHeld9 HP3 HR3 HM3 HT3 HRX HPX HMX HTX HAX HCS hHeld hHeld8
  have x1 : w4.cell? ⟨p, 1, none⟩ = some (.slice (some ⟨g, 0, none⟩) (l + 1) cp) := hp4.cell 1
  have x2 : w4.cell? ⟨p, 2, none⟩ = some (.map (some mb)) := hp4.cell 2
  have hm4' : MapAt Tryz.prog 3 3 .i64 w4.drew mb l φ := hm4
  have HM4 := Lib.hid hm4'
  have HP4 := Lib.hid hp4
  have HR4 := Lib.hid hr4
  have HT4 := Lib.hid hT4
  have hnx : next + 1 ≤ 1099511627776 := by omega
  have hlb : (l : Int) < 65536 := by have := HL.out; omega
  have HWL := Lib.hid (show IntKind.i64.wrap (l : Int) = (l : Int) from IntWalk.i64_in _ (by omega))
  clear hm4 hm4' hp4 hr4 hT4
  go_still_tail 11, (by kernel_rfl)
  change wpList _ _ _ _ _ w4.drew
  (repeat (fail_if_success at_mapUpdate; (first | go_values | go_skip | go_guarded | go_step | go_upon)))
  refine wpList_mapUpdate_at rfl _ _ _ 210 rfl 3 3 .i64 Tryz.underlying3 Tryz.underlying3 Tryz.underlying210 mb l φ rfl HM4.out (by have := HL.out; unfold maxLen; omega) next (IntKind.i64.wrap (l : Int)) rfl rfl (WalkArith.wf_i64 (by omega)) (by rw [HWL.out]; exact WalkArith.wf_i64 (by omega)) ?_
  intro w5 hm5 hg5
  have HM5 := Lib.hid hm5
  have HG5 := Lib.hid hg5
  clear hm5 hg5
  have hgr5 : w4.grownBy w5 (some mb) := ⟨HG5.out.os, HG5.out.tape, HG5.out.output, HG5.out.size, HG5.out.block⟩
  have hhs : ∀ i, i < l → (f i).handle ≠ next := fun i hi => by have := (HB9.out.2.2.2 i hi).2; omega
  have hm5 := HM5.out
  rw [HPL.out.none hhs, HWL.out] at hm5
  have hI5 : HeapIn (fun k => S k ∨ w.heap.size ≤ k) w5 p (l + 1) (next + 1) (setL f l ⟨til, id, next⟩) := by
    refine ⟨⟨_, mb, _, (hgr5.block p HP4.out.lt (by simpa using hpm)).trans HP4.out, HR4.out.own_block hgr5 (map_ne_row HM4.out (HR4.out.same fun _ _ _ => rfl)), hm5, HPL.out.snoc ⟨til, id, next⟩ hhs, .inl sp, .inl sm⟩, by have := HL.out; omega, by omega, hnx, fun i hi => ?_⟩
    by_cases e : i = l
    · subst e; rw [setL_same]; exact ⟨hn0, by show next < next + 1; omega⟩
    · rw [setL_other _ _ e]
      have := HB9.out.2.2.2 i (by omega)
      omega
  have hT5 := HT4.out.grown hgr5 (fun q e => .inl (by injection e with e; subst e; exact sm))
  have y1 : w5.cell? ⟨p, 1, none⟩ = some (.slice (some ⟨g, 0, none⟩) (l + 1) cp) := Arr.cell ((hgr5.block p HP4.out.lt (by simpa using hpm)).trans HP4.out) 1
  clear x1 x2 hm5 HM5 HG5 HM4 HP4 HR4 HT4 hgr5
  have HI5 := Lib.hid hI5
  have HT5 := Lib.hid hT5
  clear hI5 hT5
  have hw1 : ((l : Int) + 1) - 1 = (l : Int) := by omega
  go_wp2_with fail
  refine (settle_in _ p (l + 1) l (next + 1) _ w5 HI5.out (by omega)).mono ?_
  rintro e w6 ⟨⟨v6, rfl⟩, hI6, hT6⟩
  have HI6 := Lib.hid hI6
  have HT6 := Lib.hid (HT5.out.new hT6)
  clear hI6 hT6
  go_wp2_with fail
  go_ret2
  exact ⟨rfl, HI6.out, HT6.out⟩

end Go.Proofs.YtpoijhjjbmaedaaGreatDoor.Hp
end

/- Book: The book in memory: its parts, what keeps them. -/
section
namespace Go.Proofs.YtpoijhjjbmaedaaGreatDoor.Bk
open Go.RowKit
open Go.Proofs.YtpoijhjjbmaedaaGreatDoor.Bit (SetAt hasB)
open Go.Proofs.YtpoijhjjbmaedaaGreatDoor.Idx (IdxOk Slot)
open Go.Proofs.YtpoijhjjbmaedaaGreatDoor.Hp (HeapIn Due)

structure Bkg where
  id : Int
  seat : Nat
  til : Int
def bkgL (x : Bkg) : List Value := [.int .u32 x.id, .int .i64 x.seat, .int .i64 x.til]
theorem bkgL_len (x : Bkg) : (bkgL x).length = 3 := rfl
theorem bkgL_one (x : Bkg) : ∀ u ∈ bkgL x, u.oneCell' = true := by
  intro u hu
  simp only [bkgL, List.mem_cons, List.not_mem_nil, or_false] at hu
  rcases hu with rfl | rfl | rfl <;> rfl
theorem bkg_info : (Tryz.prog.info? 78).map (fun i => (i.zero, i.size, i.bytes)) = some (some (.agg #[.int .u32 0, .int .i64 0, .int .i64 0]), 3, 24) := by kernel_rfl
theorem bkg_size : (Tryz.prog.info? 78).map (·.size) = some 3 := by kernel_rfl
/-- where a book's parts lie, and what is in them -/
structure Parts where
  tp : Nat
  tg : Nat
  tc : Nat
  ip : Nat
  ig : Nat
  m : Nat
  sg : Nat
  sc : Nat
  hp : Nat
  hl : Nat
  mb : Nat
  hm : Nat
  ws : Nat → Nat
  f : Nat → Slot
  sb : Nat → Bkg
  hn : Int
  hf : Nat → Due
  φ : Int → Option Int
  H : Nat → Prop
structure Comp (S : Nat → Prop) (w : World) (b n codes : Nat) (group next clock : Int) (len : Nat) (q : Parts) : Prop where
  own : Arr w b 50 #[.int .i64 n, .int .i64 codes, .int .i64 group, .bool true, .int .i64 clock, .int .u32 next, .pointer (some ⟨q.tp, 0, none⟩), .pointer (some ⟨q.ip, 0, none⟩), .slice (some ⟨q.sg, 0, none⟩) n q.sc, .pointer (some ⟨q.hp, 0, none⟩), .map (some q.mb)]
  taken : SetAt w q.tp q.tg q.tc n q.ws
  ids : IdxOk w q.ip q.ig q.m codes len 0 q.f
  seats : RowIn S w 78 3 (.slice (some ⟨q.sg, 0, none⟩) n q.sc) n (fun i => bkgL (q.sb i))
  due : HeapIn q.H w q.hp q.hl q.hn q.hf
  held : MapAt Tryz.prog 33 3 .u32 w q.mb q.hm q.φ
  foot : S b ∧ S q.tp ∧ S q.tg ∧ S q.ip ∧ S q.ig ∧ S q.mb
  apart : ∀ k, q.H k → S k ∧ k ≠ b ∧ k ≠ q.tp ∧ k ≠ q.tg ∧ k ≠ q.ip ∧ k ≠ q.ig ∧ k ≠ q.sg ∧ k ≠ q.mb
  lt : ∀ k, S k → k < w.heap.size
section
variable {S : Nat → Prop} {w w' : World} {b n codes : Nat} {group next clock : Int} {len : Nat} {q : Parts}
theorem Comp.arrs (h : Comp S w b n codes group next clock len q) : (∃ cs, Arr w b 50 cs) ∧ (∃ cs, Arr w q.tp 209 cs) ∧ (∃ cs, Arr w q.tg 139 cs) ∧ (∃ cs, Arr w q.ip 200 cs) ∧ (∃ cs, Arr w q.ig 205 cs) ∧ (∃ cs, Arr w q.sg 78 cs) := by
  obtain ⟨cur, h1, _⟩ := h.taken.row
  obtain ⟨s, hs⟩ := h.ids.lies
  obtain ⟨cur2, h2, _⟩ := hs.rows
  exact ⟨⟨_, h.own⟩, ⟨_, h.taken.own⟩, ⟨cur, h1⟩, ⟨_, hs.own⟩, ⟨cur2, h2⟩, h.seats.arr⟩
theorem SetAt_same {p g c n : Nat} {ws : Nat → Nat} (h : SetAt w p g c n ws) (hp : w'.heap[p]? = w.heap[p]?) (hg : w'.heap[g]? = w.heap[g]?) : SetAt w' p g c n ws := by
  obtain ⟨cur, h1, h2⟩ := h.row
  exact ⟨hp.trans h.own, ⟨cur, hg.trans h1, h2⟩, h.small, h.apart⟩
/-- a step that turned one of the parts alone (T: the blocks it may have turned, and new ones) -/
theorem Comp.keepOwn {T : Nat → Prop} (h : Comp S w b n codes group next clock len q) (ht : Tch T w w') (hT : ¬ T b) : Arr w' b 50 #[.int .i64 n, .int .i64 codes, .int .i64 group, .bool true, .int .i64 clock, .int .u32 next, .pointer (some ⟨q.tp, 0, none⟩), .pointer (some ⟨q.ip, 0, none⟩), .slice (some ⟨q.sg, 0, none⟩) n q.sc, .pointer (some ⟨q.hp, 0, none⟩), .map (some q.mb)] := ht.arr h.own hT
theorem Comp.keepTaken {T : Nat → Prop} (h : Comp S w b n codes group next clock len q) (ht : Tch T w w') (h1 : ¬ T q.tp) (h2 : ¬ T q.tg) : SetAt w' q.tp q.tg q.tc n q.ws := by
  obtain ⟨_, ⟨_, a1⟩, ⟨_, a2⟩, _⟩ := h.arrs
  exact SetAt_same h.taken (ht.block _ a1.lt h1) (ht.block _ a2.lt h2)
theorem Comp.keepIds {T : Nat → Prop} (h : Comp S w b n codes group next clock len q) (ht : Tch T w w') (h1 : ¬ T q.ip) (h2 : ¬ T q.ig) : IdxOk w' q.ip q.ig q.m codes len 0 q.f :=
  h.ids.same (ht.block _ h.ids.lt.1 h1) (ht.block _ h.ids.lt.2 h2)
theorem Comp.keepSeats {T : Nat → Prop} (h : Comp S w b n codes group next clock len q) (ht : Tch T w w') (h1 : ¬ T q.sg) : RowIn S w' 78 3 (.slice (some ⟨q.sg, 0, none⟩) n q.sc) n (fun i => bkgL (q.sb i)) := by
  obtain ⟨_, _, _, _, _, ⟨_, a⟩⟩ := h.arrs
  exact h.seats.same1 (ht.block _ a.lt h1)
theorem Comp.keepDue {T : Nat → Prop} (h : Comp S w b n codes group next clock len q) (ht : Tch T w w') (h1 : ∀ k, q.H k → ¬ T k) : HeapIn q.H w' q.hp q.hl q.hn q.hf :=
  h.due.same fun k hk hl => ht.block k hl (h1 k hk)
theorem Comp.keepHeld {T : Nat → Prop} (h : Comp S w b n codes group next clock len q) (ht : Tch T w w') (h1 : ¬ T q.mb) : MapAt Tryz.prog 33 3 .u32 w' q.mb q.hm q.φ :=
  h.held.same (ht.block _ h.held.lt h1)
theorem Comp.below (h : Comp S w b n codes group next clock len q) (hb : Below w.heap.size w w') : Comp S w' b n codes group next clock len q := by
  have ht : Tch (fun _ => False) w w' := ⟨hb.os, hb.tape, hb.output, hb.size, fun k hk _ => hb.block k hk⟩
  exact ⟨h.keepOwn ht id, h.keepTaken ht id id, h.keepIds ht id id, h.keepSeats ht id, h.keepDue ht (fun _ _ => id), h.keepHeld ht id, h.foot, h.apart, fun k hk => Nat.lt_of_lt_of_le (h.lt k hk) hb.size⟩
theorem Comp.same (h : Comp S w b n codes group next clock len q) (hz : w.heap.size ≤ w'.heap.size) (hk : ∀ k, S k → k < w.heap.size → w'.heap[k]? = w.heap[k]?) : Comp S w' b n codes group next clock len q := by
  obtain ⟨⟨_, a0⟩, ⟨_, a1⟩, ⟨_, a2⟩, ⟨_, a3⟩, ⟨_, a4⟩, ⟨_, a5⟩⟩ := h.arrs
  obtain ⟨s0, s1, s2, s3, s4, s5⟩ := h.foot
  exact ⟨(hk b s0 a0.lt).trans h.own, SetAt_same h.taken (hk _ s1 a1.lt) (hk _ s2 a2.lt), h.ids.same (hk _ s3 a3.lt) (hk _ s4 a4.lt), h.seats.same1 (hk _ (h.seats.block _ rfl) a5.lt), h.due.same fun k hH hl => hk k (h.apart k hH).1 hl, h.held.same (hk _ s5 h.held.lt), h.foot, h.apart, fun k hk => Nat.lt_of_lt_of_le (h.lt k hk) hz⟩
theorem Comp.mono {T : Nat → Prop} (h : Comp S w b n codes group next clock len q) (hST : ∀ k, S k → T k) (hT : ∀ k, T k → k < w.heap.size) : Comp T w b n codes group next clock len q :=
  ⟨h.own, h.taken, h.ids, h.seats.mono fun k hk _ => hST k hk, h.due, h.held, ⟨hST _ h.foot.1, hST _ h.foot.2.1, hST _ h.foot.2.2.1, hST _ h.foot.2.2.2.1, hST _ h.foot.2.2.2.2.1, hST _ h.foot.2.2.2.2.2⟩, fun k hk => ⟨hST k (h.apart k hk).1, (h.apart k hk).2⟩, hT⟩
theorem Comp.ids_step (h : Comp S w b n codes group next clock len q) (ht : Tch (fun k => k = q.ip ∨ k = q.ig) w w') {len' : Nat} {f : Nat → Slot} (hi : IdxOk w' q.ip q.ig q.m codes len' 0 f) : Comp S w' b n codes group next clock len' { q with f := f } := by
  obtain ⟨⟨_, a0⟩, ⟨_, a1⟩, ⟨_, a2⟩, ⟨_, a3⟩, ⟨_, a4⟩, ⟨_, a5⟩⟩ := h.arrs
  have ne : ∀ {p : Nat} {t : TypeId} {cs : Array Value}, Arr w p t cs → t ≠ 200 → t ≠ 205 → ¬ (p = q.ip ∨ p = q.ig) := fun a h1 h2 e => by
    rcases e with e | e
    · exact arr_ne a a3 h1 e
    · exact arr_ne a a4 h2 e
  exact ⟨h.keepOwn ht (ne a0 (by decide) (by decide)), h.keepTaken ht (ne a1 (by decide) (by decide)) (ne a2 (by decide) (by decide)), hi, h.keepSeats ht (ne a5 (by decide) (by decide)), h.keepDue ht (fun k hk e => by rcases e with e | e; exact (h.apart k hk).2.2.2.2.1 e; exact (h.apart k hk).2.2.2.2.2.1 e), h.keepHeld ht (fun e => by rcases e with e | e; exact Hp.map_ne_arr h.held a3 e.symm; exact Hp.map_ne_arr h.held a4 e.symm), h.foot, h.apart, fun k hk => Nat.lt_of_lt_of_le (h.lt k hk) ht.size⟩
theorem Comp.taken_step (h : Comp S w b n codes group next clock len q) (ht : Tch (· = q.tg) w w') {ws : Nat → Nat} (hi : SetAt w' q.tp q.tg q.tc n ws) : Comp S w' b n codes group next clock len { q with ws := ws } := by
  obtain ⟨⟨_, a0⟩, ⟨_, a1⟩, ⟨_, a2⟩, ⟨_, a3⟩, ⟨_, a4⟩, ⟨_, a5⟩⟩ := h.arrs
  exact ⟨h.keepOwn ht (arr_ne a0 a2 (by decide)), hi, h.keepIds ht (arr_ne a3 a2 (by decide)) (arr_ne a4 a2 (by decide)), h.keepSeats ht (arr_ne a5 a2 (by decide)), h.keepDue ht (fun k hk => (h.apart k hk).2.2.2.1), h.keepHeld ht (fun e => Hp.map_ne_arr h.held a2 e.symm), h.foot, h.apart, fun k hk => Nat.lt_of_lt_of_le (h.lt k hk) ht.size⟩
theorem Comp.seats_step (h : Comp S w b n codes group next clock len q) (ht : Tch (· = q.sg) w w') {sb : Nat → Bkg} (hi : RowIn S w' 78 3 (.slice (some ⟨q.sg, 0, none⟩) n q.sc) n (fun i => bkgL (sb i))) : Comp S w' b n codes group next clock len { q with sb := sb } := by
  obtain ⟨⟨_, a0⟩, ⟨_, a1⟩, ⟨_, a2⟩, ⟨_, a3⟩, ⟨_, a4⟩, ⟨_, a5⟩⟩ := h.arrs
  exact ⟨h.keepOwn ht (arr_ne a0 a5 (by decide)), h.keepTaken ht (arr_ne a1 a5 (by decide)) (arr_ne a2 a5 (by decide)), h.keepIds ht (arr_ne a3 a5 (by decide)) (arr_ne a4 a5 (by decide)), hi, h.keepDue ht (fun k hk => (h.apart k hk).2.2.2.2.2.2.1), h.keepHeld ht (fun e => Hp.map_ne_arr h.held a5 e.symm), h.foot, h.apart, fun k hk => Nat.lt_of_lt_of_le (h.lt k hk) ht.size⟩
theorem Comp.held_step (h : Comp S w b n codes group next clock len q) (ht : Tch (· = q.mb) w w') {hm : Nat} {φ : Int → Option Int} (hi : MapAt Tryz.prog 33 3 .u32 w' q.mb hm φ) : Comp S w' b n codes group next clock len { q with hm := hm, φ := φ } := by
  obtain ⟨⟨_, a0⟩, ⟨_, a1⟩, ⟨_, a2⟩, ⟨_, a3⟩, ⟨_, a4⟩, ⟨_, a5⟩⟩ := h.arrs
  exact ⟨h.keepOwn ht (Hp.map_ne_arr h.held a0), h.keepTaken ht (Hp.map_ne_arr h.held a1) (Hp.map_ne_arr h.held a2), h.keepIds ht (Hp.map_ne_arr h.held a3) (Hp.map_ne_arr h.held a4), h.keepSeats ht (Hp.map_ne_arr h.held a5), h.keepDue ht (fun k hk => (h.apart k hk).2.2.2.2.2.2.2), hi, h.foot, h.apart, fun k hk => Nat.lt_of_lt_of_le (h.lt k hk) ht.size⟩
/-- what Push has turned -/
theorem Comp.due_step (h : Comp S w b n codes group next clock len q) (ht : Tch q.H w w') {hl : Nat} {hn : Int} {hf : Nat → Due} (hi : HeapIn (fun k => q.H k ∨ w.heap.size ≤ k) w' q.hp hl hn hf) :
    Comp (fun k => (S k ∨ w.heap.size ≤ k) ∧ k < w'.heap.size) w' b n codes group next clock len { q with hl := hl, hn := hn, hf := hf, H := fun k => (q.H k ∨ w.heap.size ≤ k) ∧ k < w'.heap.size } := by
  obtain ⟨⟨_, a0⟩, ⟨_, a1⟩, ⟨_, a2⟩, ⟨_, a3⟩, ⟨_, a4⟩, ⟨_, a5⟩⟩ := h.arrs
  have l0 := a0.lt; have l1 := a1.lt; have l2 := a2.lt; have l3 := a3.lt; have l4 := a4.lt; have l6 := a5.lt
  have l5 := h.held.lt
  have hz := ht.size
  have hno : ∀ x, (∀ k, q.H k → k ≠ x) → ¬ q.H x := fun x hx e => hx x e rfl
  refine ⟨h.keepOwn ht (hno _ fun k hk => (h.apart k hk).2.1), h.keepTaken ht (hno _ fun k hk => (h.apart k hk).2.2.1) (hno _ fun k hk => (h.apart k hk).2.2.2.1), h.keepIds ht (hno _ fun k hk => (h.apart k hk).2.2.2.2.1) (hno _ fun k hk => (h.apart k hk).2.2.2.2.2.1), (h.keepSeats ht (hno _ fun k hk => (h.apart k hk).2.2.2.2.2.2.1)).mono fun k hk hk2 => ⟨.inl hk, hk2⟩, hi.mono fun k hk hk2 => ⟨hk, hk2⟩, h.keepHeld ht (hno _ fun k hk => (h.apart k hk).2.2.2.2.2.2.2), ⟨⟨.inl h.foot.1, (show b < w'.heap.size by omega)⟩, ⟨.inl h.foot.2.1, (show q.tp < w'.heap.size by omega)⟩, ⟨.inl h.foot.2.2.1, (show q.tg < w'.heap.size by omega)⟩, ⟨.inl h.foot.2.2.2.1, (show q.ip < w'.heap.size by omega)⟩, ⟨.inl h.foot.2.2.2.2.1, (show q.ig < w'.heap.size by omega)⟩, ⟨.inl h.foot.2.2.2.2.2, (show q.mb < w'.heap.size by omega)⟩⟩, fun k hk => ?_, fun k hk => hk.2⟩
  obtain ⟨hk, hk3⟩ := hk
  rcases hk with hk | hk
  · exact ⟨⟨.inl (h.apart k hk).1, hk3⟩, (h.apart k hk).2⟩
  · exact ⟨⟨.inr hk, hk3⟩, (show k ≠ b by omega), (show k ≠ q.tp by omega), (show k ≠ q.tg by omega), (show k ≠ q.ip by omega), (show k ≠ q.ig by omega), (show k ≠ q.sg by omega), (show k ≠ q.mb by omega)⟩
end

end Go.Proofs.YtpoijhjjbmaedaaGreatDoor.Bk
end
