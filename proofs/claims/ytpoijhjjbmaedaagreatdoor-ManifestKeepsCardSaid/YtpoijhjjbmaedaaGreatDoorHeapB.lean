/- Packed: Heap3 Heap4 -/
import Derived.Test.YtpoijhjjbmaedaaGreatDoorHeapA
import Derived.Test.YtpoijhjjbmaedaaGreatDoorKitA
set_option linter.unusedVariables false
set_option linter.unusedSimpArgs false
/- Heap3: The heap of what is due: what it is in memory; swap. -/
section
namespace Go.Proofs.YtpoijhjjbmaedaaGreatDoor.Hp
open Go.RowKit

theorem item_info : (Tryz.prog.info? 216).map (fun i => (i.zero, i.size, i.bytes)) = some (some (.agg #[.int .i64 0, .int .u32 0, .int .i64 0]), 3, 24) := by kernel_rfl
theorem item_size : (Tryz.prog.info? 216).map (·.size) = some 3 := by kernel_rfl
theorem int_zero (w : World) : (zeroValue 3).run Tryz.prog w = .ok (.int .i64 0) w := by kernel_rfl
theorem item_one (f : Nat → Due) (i : Nat) : ∀ u ∈ itemL f i, u.oneCell' = true := by
  intro u hu
  simp only [itemL, List.mem_cons, List.not_mem_nil, or_false] at hu
  rcases hu with rfl | rfl | rfl <;> rfl
theorem row_ne {S : Nat → Prop} {w : World} {e t : TypeId} {sz n g cap p : Nat} {c : Nat → List Value} {cs : Array Value} (h : RowIn S w e sz (.slice (some ⟨g, 0, none⟩) n cap) n c) (ha : Arr w p t cs) (ht : t ≠ e) : p ≠ g := by
  rintro rfl
  rcases h.own.2 with ⟨hv, _⟩ | ⟨g', cap', cur, hv, _, hh, _⟩
  · cases hv
  · injection hv with e1
    injection e1 with e1
    injection e1 with e1
    subst e1
    rw [Arr] at ha
    rw [ha] at hh
    injection hh with hh
    injection hh with _ h2
    exact ht h2
theorem map_ne_arr {P : Program} {k e t : TypeId} {q : IntKind} {w : World} {b n p : Nat} {φ : Int → Option Int} {cs : Array Value} (h : MapAt P k e q w b n φ) (ha : Arr w p t cs) : p ≠ b := by
  rintro rfl
  obtain ⟨D, ⟨es, clock, hb, _⟩, _⟩ := h
  rw [Arr] at ha
  rw [ha] at hb
  injection hb with hb
  cases hb
theorem map_ne_row {P : Program} {k e t : TypeId} {q : IntKind} {S : Nat → Prop} {w : World} {b n sz m g cap : Nat} {φ : Int → Option Int} {c : Nat → List Value} (h : MapAt P k e q w b n φ) (hr : RowIn S w t sz (.slice (some ⟨g, 0, none⟩) m cap) m c) : g ≠ b := by
  rintro rfl
  obtain ⟨D, ⟨es, clock, hb, _⟩, _⟩ := h
  rcases hr.own.2 with ⟨hv, _⟩ | ⟨g', cap', cur, hv, _, hh, _⟩
  · cases hv
  · injection hv with e1
    injection e1 with e1
    injection e1 with e1
    subst e1
    rw [hh] at hb
    injection hb with hb
    cases hb
theorem _root_.Go.Proofs.YtpoijhjjbmaedaaGreatDoor.RowIn.own_block {S : Nat → Prop} {w w' : World} {e : TypeId} {sz n g cap b : Nat} {c : Nat → List Value} (h : RowIn S w e sz (.slice (some ⟨g, 0, none⟩) n cap) n c) (hg : w.grownBy w' (some b)) (hb : g ≠ b) : RowIn S w' e sz (.slice (some ⟨g, 0, none⟩) n cap) n c :=
  ⟨own_same h.own fun q hq => hg.block q (own_lt h.own hq).1 (fun e => by
    have e1 : g = q := by simpa [Value.ownBlock] using hq
    injection e with e; exact hb (e1.trans e)), h.block⟩
/-- the heap at p: l items, the blocks in S -/
structure HeapIn (S : Nat → Prop) (w : World) (p l : Nat) (next : Int) (f : Nat → Due) : Prop where
  lies : ∃ iv mb φ, Arr w p 213 #[lessV, iv, .map (some mb), .int .i64 next] ∧ RowIn S w 216 3 iv l (itemL f) ∧ MapAt Tryz.prog 3 3 .i64 w mb l φ ∧ Placed f l φ ∧ S p ∧ S mb
  bound : l ≤ 65536 ∧ 0 ≤ next ∧ next ≤ 1099511627776 ∧ ∀ i, i < l → 0 ≤ (f i).handle ∧ (f i).handle < next
theorem itemL_swap (f : Nat → Due) (i k : Nat) : setL (setL (itemL f) i (itemL f k)) k (itemL f i) = itemL (swapD f i k) := by
  funext j
  unfold setL
  by_cases h1 : j = k
  · subst h1
    rw [if_pos rfl]
    by_cases h2 : j = i
    · subst h2; simp [itemL, swapD]
    · simp [itemL, swapD, h2]
  · rw [if_neg h1]
    by_cases h2 : j = i
    · subst h2; simp [itemL, swapD]
    · simp [itemL, swapD, h1, h2]
theorem Placed.inj {f : Nat → Due} {l : Nat} {φ : Int → Option Int} (h : Placed f l φ) {i j : Nat} (hi : i < l) (hj : j < l) (e : (f i).handle = (f j).handle) : i = j := by
  have h1 := h.1 i hi
  have h2 := h.1 j hj
  rw [e, h2] at h1
  injection h1 with h1
  omega
theorem swap_at (f : Nat → Due) (i k : Nat) : swapD f i k i = f k ∧ swapD f i k k = f i := by
  constructor
  · simp [swapD]
  · by_cases h : k = i
    · subst h; simp [swapD]
    · simp [swapD, h]
theorem swap_else (f : Nat → Due) {i k j : Nat} (h1 : j ≠ i) (h2 : j ≠ k) : swapD f i k j = f j := by simp [swapD, h1, h2]
theorem Placed.swap {f : Nat → Due} {l : Nat} {φ : Int → Option Int} (h : Placed f l φ) {i k : Nat} (hi : i < l) (hk : k < l) : Placed (swapD f i k) l (mput (mput φ (f k).handle (some (i : Int))) (f i).handle (some (k : Int))) := by
  refine ⟨fun j hj => ?_, fun x y hx => ?_⟩
  · by_cases h1 : j = k
    · subst h1; rw [(swap_at f i j).2, mput_same]
    · by_cases h2 : j = i
      · subst h2
        rw [(swap_at f j k).1, mput_other _ _ (fun e => h1 (h.inj hj hk e.symm)), mput_same]
      · rw [swap_else f h2 h1, mput_other _ _ (fun e => h2 (h.inj hj hi e)), mput_other _ _ (fun e => h1 (h.inj hj hk e))]
        exact h.1 j hj
  · by_cases h1 : x = (f i).handle
    · subst h1
      rw [mput_same] at hx
      injection hx with hx
      exact ⟨k, hk, hx.symm, by rw [(swap_at f i k).2]⟩
    · rw [mput_other _ _ h1] at hx
      by_cases h2 : x = (f k).handle
      · subst h2
        rw [mput_same] at hx
        injection hx with hx
        exact ⟨i, hi, hx.symm, by rw [(swap_at f i k).1]⟩
      · rw [mput_other _ _ h2] at hx
        obtain ⟨j, hj, e1, e2⟩ := h.2 x y hx
        refine ⟨j, hj, e1, ?_⟩
        rw [swap_else f (fun e => h1 (by rw [← e2, e])) (fun e => h2 (by rw [← e2, e]))]
        exact e2

set_option maxRecDepth 100000 in
set_option maxHeartbeats 2000000 in
theorem swap_in (S : Nat → Prop) (p l i k : Nat) (next : Int) (f : Nat → Due) (w : World) (h : HeapIn S w p l next f) (hi : i < l) (hk : k < l) :
    Calls Tryz.prog 167 #[.pointer (some ⟨p, 0, none⟩), .int .i64 i, .int .i64 k] w fun e w' => (∃ v, e = .returned v) ∧ HeapIn S w' p l next (swapD f i k) ∧ Tch S w w' := by
  obtain ⟨iv, mb, φ, hp, hr, hm, hpl, sp, sm⟩ := h.lies
  obtain ⟨g, cap, rfl, sg, hcap, hcapm, hgl⟩ := hr.form (by omega)
  have hpg := row_ne hr hp (by decide)
  have hpm := map_ne_arr hm hp
  have hgm := map_ne_row hm hr
  have x1 : w.cell? ⟨p, 1, none⟩ = some (.slice (some ⟨g, 0, none⟩) l cap) := hp.cell 1
  have ri := hr.range (itemL_len f) hi
  have rk := hr.range (itemL_len f) hk
  have y0 : w.cell? ⟨g, i * 3, none⟩ = some (.int .i64 (f i).til) := ri 0 _ rfl
  have y1 : w.cell? ⟨g, i * 3 + 1, none⟩ = some (.int .u32 (f i).id) := ri 1 _ rfl
  have y2 : w.cell? ⟨g, i * 3 + 2, none⟩ = some (.int .i64 (f i).handle) := ri 2 _ rfl
  have z0 : w.cell? ⟨g, k * 3, none⟩ = some (.int .i64 (f k).til) := rk 0 _ rfl
  have z1 : w.cell? ⟨g, k * 3 + 1, none⟩ = some (.int .u32 (f k).id) := rk 1 _ rfl
  have z2 : w.cell? ⟨g, k * 3 + 2, none⟩ = some (.int .i64 (f k).handle) := rk 2 _ rfl
  have hi1 : (i : Int) < (l : Int) := by omega
  have hk1 : (k : Int) < (l : Int) := by omega
  have hi0 : (0 : Int) ≤ (i : Int) := by omega
  have hk0 : (0 : Int) ≤ (k : Int) := by omega
  have hl6 : l ≤ 65536 := h.bound.1
  have hr' : RowIn S w.drew 216 3 (.slice (some ⟨g, 0, none⟩) l cap) l (itemL f) := hr.same fun _ _ _ => rfl
  have HR := Lib.hid hr'
  clear hr'
  have HP := Lib.hid hp
  have HM := Lib.hid hm
  have HPL := Lib.hid hpl
  have HH := Lib.hid h
  clear h hp hr hm hpl ri rk
  go_enter Tryz.func167, Tryz.ntmps167
  go_wp2_with fail
  refine region_any_drew (by kernel_rfl) ?_
  refine AnyTill.any (S := (fun w' => w'.cell? ⟨p, 1, none⟩ = some (.slice (some ⟨g, 0, none⟩) l cap) ∧ w'.cell? ⟨g, i * 3, none⟩ = some (.int .i64 (f i).til) ∧ w'.cell? ⟨g, i * 3 + 1, none⟩ = some (.int .u32 (f i).id) ∧ w'.cell? ⟨g, i * 3 + 2, none⟩ = some (.int .i64 (f i).handle) ∧ w'.cell? ⟨g, k * 3, none⟩ = some (.int .i64 (f k).til) ∧ w'.cell? ⟨g, k * 3 + 1, none⟩ = some (.int .u32 (f k).id) ∧ w'.cell? ⟨g, k * 3 + 2, none⟩ = some (.int .i64 (f k).handle))) (t := 25) _ _ _ _ ?_
  have hHeld := (show (fun w' => w'.cell? ⟨p, 1, none⟩ = some (.slice (some ⟨g, 0, none⟩) l cap) ∧ w'.cell? ⟨g, i * 3, none⟩ = some (.int .i64 (f i).til) ∧ w'.cell? ⟨g, i * 3 + 1, none⟩ = some (.int .u32 (f i).id) ∧ w'.cell? ⟨g, i * 3 + 2, none⟩ = some (.int .i64 (f i).handle) ∧ w'.cell? ⟨g, k * 3, none⟩ = some (.int .i64 (f k).til) ∧ w'.cell? ⟨g, k * 3 + 1, none⟩ = some (.int .u32 (f k).id) ∧ w'.cell? ⟨g, k * 3 + 2, none⟩ = some (.int .i64 (f k).handle)) w.drew from ⟨x1, y0, y1, y2, z0, z1, z2⟩)
  refine till_take (i := 0) (oi := ?o1) (d := (some 6)) (v := ?v1) ?hi1 (by kernel_rfl) (by kernel_rfl) (by kernel_rfl) (by kernel_rfl) (by kernel_rfl) (fun _ _ _ h => h) ?hd1 ?hw1 ?hy1 hHeld ?_
  case hi1 => (simp only [List.getElem?_toArray, List.getElem?_cons_zero]; exact rfl)
  case hd1 => rfl
  case hw1 => rfl
  case hy1 => (intro w hSw; (try dsimp only at hSw); go_simp; try with_reducible rfl)
  try simp only [Act.put, List.setIfInBounds_toArray, List.set_cons_zero, List.set_cons_succ]
  refine till_take (i := 1) (oi := ?o2) (d := (some 7)) (v := ?v2) ?hi2 (by kernel_rfl) (by kernel_rfl) (by kernel_rfl) (by kernel_rfl) (by kernel_rfl) (fun _ _ _ h => h) ?hd2 ?hw2 ?hy2 hHeld ?_
  case hi2 => (simp only [List.getElem?_toArray, List.getElem?_cons_zero, List.getElem?_cons_succ]; exact rfl)
  case hd2 => rfl
  case hw2 => rfl
  case hy2 => (intro w hSw; (try dsimp only at hSw); go_simp; try with_reducible rfl)
  try simp only [Act.put, List.setIfInBounds_toArray, List.set_cons_zero, List.set_cons_succ]
  refine till_take (i := 2) (oi := ?o3) (d := (some 8)) (v := ?v3) ?hi3 (by kernel_rfl) (by kernel_rfl) (by kernel_rfl) (by kernel_rfl) (by kernel_rfl) (fun _ _ _ h => h) ?hd3 ?hw3 ?hy3 hHeld ?_
  case hi3 => (simp only [List.getElem?_toArray, List.getElem?_cons_zero, List.getElem?_cons_succ]; exact rfl)
  case hd3 => rfl
  case hw3 => rfl
  case hy3 => (intro w hSw; (try dsimp only at hSw); go_simp; try with_reducible rfl)
  try simp only [Act.put, List.setIfInBounds_toArray, List.set_cons_zero, List.set_cons_succ]
  refine till_take (i := 3) (oi := ?o4) (d := (some 9)) (v := ?v4) ?hi4 (by kernel_rfl) (by kernel_rfl) (by kernel_rfl) (by kernel_rfl) (by kernel_rfl) (fun _ _ _ h => h) ?hd4 ?hw4 ?hy4 hHeld ?_
  case hi4 => (simp only [List.getElem?_toArray, List.getElem?_cons_zero, List.getElem?_cons_succ]; exact rfl)
  case hd4 => rfl
  case hw4 => rfl
  case hy4 => (intro w hSw; (try dsimp only at hSw); go_simp; try with_reducible rfl)
  try simp only [Act.put, List.setIfInBounds_toArray, List.set_cons_zero, List.set_cons_succ]
  refine till_take (i := 4) (oi := ?o5) (d := (some 10)) (v := ?v5) ?hi5 (by kernel_rfl) (by kernel_rfl) (by kernel_rfl) (by kernel_rfl) (by kernel_rfl) (fun _ _ _ h => h) ?hd5 ?hw5 ?hy5 hHeld ?_
  case hi5 => (simp only [List.getElem?_toArray, List.getElem?_cons_zero, List.getElem?_cons_succ]; exact rfl)
  case hd5 => rfl
  case hw5 => rfl
  case hy5 => (intro w hSw; (try dsimp only at hSw); go_simp; try with_reducible rfl)
  try simp only [Act.put, List.setIfInBounds_toArray, List.set_cons_zero, List.set_cons_succ]
  refine till_pure (i := 5) (oi := ?o6) (d := (some 11)) (v := ?v6) ?hi6 (by kernel_rfl) (by kernel_rfl) (by kernel_rfl) (by kernel_rfl) (fun _ _ _ h => h) ?hd6 ?hw6 ?hy6 hHeld ?_
  case hi6 => (simp only [List.getElem?_toArray, List.getElem?_cons_zero, List.getElem?_cons_succ]; exact rfl)
  case hd6 => rfl
  case hw6 => rfl
  case hy6 => (intro w; go_simp; try with_reducible rfl)
  try simp only [Act.put, List.setIfInBounds_toArray, List.set_cons_zero, List.set_cons_succ]
  refine till_pure (i := 6) (oi := ?o7) (d := (some 12)) (v := ?v7) ?hi7 (by kernel_rfl) (by kernel_rfl) (by kernel_rfl) (by kernel_rfl) (fun _ _ _ h => h) ?hd7 ?hw7 ?hy7 hHeld ?_
  case hi7 => (simp only [List.getElem?_toArray, List.getElem?_cons_zero, List.getElem?_cons_succ]; exact rfl)
  case hd7 => rfl
  case hw7 => rfl
  case hy7 => (intro w; go_simp; try with_reducible rfl)
  try simp only [Act.put, List.setIfInBounds_toArray, List.set_cons_zero, List.set_cons_succ]
  refine till_pure (i := 7) (oi := ?o8) (d := (some 13)) (v := ?v8) ?hi8 (by kernel_rfl) (by kernel_rfl) (by kernel_rfl) (by kernel_rfl) (fun _ _ _ h => h) ?hd8 ?hw8 ?hy8 hHeld ?_
  case hi8 => (simp only [List.getElem?_toArray, List.getElem?_cons_zero, List.getElem?_cons_succ]; exact rfl)
  case hd8 => rfl
  case hw8 => rfl
  case hy8 => (intro w; go_simp; try with_reducible rfl)
  try simp only [Act.put, List.setIfInBounds_toArray, List.set_cons_zero, List.set_cons_succ]
  refine till_take (i := 8) (oi := ?o9) (d := (some 14)) (v := ?v9) ?hi9 (by kernel_rfl) (by kernel_rfl) (by kernel_rfl) (by kernel_rfl) (by kernel_rfl) (fun _ _ _ h => h) ?hd9 ?hw9 ?hy9 hHeld ?_
  case hi9 => (simp only [List.getElem?_toArray, List.getElem?_cons_zero, List.getElem?_cons_succ]; exact rfl)
  case hd9 => rfl
  case hw9 => rfl
  case hy9 => (intro w hSw; (try dsimp only at hSw); go_simp; try with_reducible rfl)
  try simp only [Act.put, List.setIfInBounds_toArray, List.set_cons_zero, List.set_cons_succ]
  refine till_pure (i := 9) (oi := ?o10) (d := (some 15)) (v := ?v10) ?hi10 (by kernel_rfl) (by kernel_rfl) (by kernel_rfl) (by kernel_rfl) (fun _ _ _ h => h) ?hd10 ?hw10 ?hy10 hHeld ?_
  case hi10 => (simp only [List.getElem?_toArray, List.getElem?_cons_zero, List.getElem?_cons_succ]; exact rfl)
  case hd10 => rfl
  case hw10 => rfl
  case hy10 => (intro w; go_simp; try with_reducible rfl)
  try simp only [Act.put, List.setIfInBounds_toArray, List.set_cons_zero, List.set_cons_succ]
  refine till_take (i := 10) (oi := ?o11) (d := (some 16)) (v := ?v11) ?hi11 (by kernel_rfl) (by kernel_rfl) (by kernel_rfl) (by kernel_rfl) (by kernel_rfl) (fun _ _ _ h => h) ?hd11 ?hw11 ?hy11 hHeld ?_
  case hi11 => (simp only [List.getElem?_toArray, List.getElem?_cons_zero, List.getElem?_cons_succ]; exact rfl)
  case hd11 => rfl
  case hw11 => rfl
  case hy11 => (intro w hSw; (try dsimp only at hSw); go_simp; try with_reducible rfl)
  try simp only [Act.put, List.setIfInBounds_toArray, List.set_cons_zero, List.set_cons_succ]
  refine till_take (i := 11) (oi := ?o12) (d := (some 17)) (v := ?v12) ?hi12 (by kernel_rfl) (by kernel_rfl) (by kernel_rfl) (by kernel_rfl) (by kernel_rfl) (fun _ _ _ h => h) ?hd12 ?hw12 ?hy12 hHeld ?_
  case hi12 => (simp only [List.getElem?_toArray, List.getElem?_cons_zero, List.getElem?_cons_succ]; exact rfl)
  case hd12 => rfl
  case hw12 => rfl
  case hy12 => (intro w hSw; (try dsimp only at hSw); go_simp; try with_reducible rfl)
  try simp only [Act.put, List.setIfInBounds_toArray, List.set_cons_zero, List.set_cons_succ]
  refine till_take (i := 12) (oi := ?o13) (d := (some 18)) (v := ?v13) ?hi13 (by kernel_rfl) (by kernel_rfl) (by kernel_rfl) (by kernel_rfl) (by kernel_rfl) (fun _ _ _ h => h) ?hd13 ?hw13 ?hy13 hHeld ?_
  case hi13 => (simp only [List.getElem?_toArray, List.getElem?_cons_zero, List.getElem?_cons_succ]; exact rfl)
  case hd13 => rfl
  case hw13 => rfl
  case hy13 => (intro w hSw; (try dsimp only at hSw); go_simp; try with_reducible rfl)
  try simp only [Act.put, List.setIfInBounds_toArray, List.set_cons_zero, List.set_cons_succ]
  refine till_take (i := 13) (oi := ?o14) (d := (some 19)) (v := ?v14) ?hi14 (by kernel_rfl) (by kernel_rfl) (by kernel_rfl) (by kernel_rfl) (by kernel_rfl) (fun _ _ _ h => h) ?hd14 ?hw14 ?hy14 hHeld ?_
  case hi14 => (simp only [List.getElem?_toArray, List.getElem?_cons_zero, List.getElem?_cons_succ]; exact rfl)
  case hd14 => rfl
  case hw14 => rfl
  case hy14 => (intro w hSw; (try dsimp only at hSw); go_simp; try with_reducible rfl)
  try simp only [Act.put, List.setIfInBounds_toArray, List.set_cons_zero, List.set_cons_succ]
  refine till_take (i := 14) (oi := ?o15) (d := (some 20)) (v := ?v15) ?hi15 (by kernel_rfl) (by kernel_rfl) (by kernel_rfl) (by kernel_rfl) (by kernel_rfl) (fun _ _ _ h => h) ?hd15 ?hw15 ?hy15 hHeld ?_
  case hi15 => (simp only [List.getElem?_toArray, List.getElem?_cons_zero, List.getElem?_cons_succ]; exact rfl)
  case hd15 => rfl
  case hw15 => rfl
  case hy15 => (intro w hSw; (try dsimp only at hSw); go_simp; try with_reducible rfl)
  try simp only [Act.put, List.setIfInBounds_toArray, List.set_cons_zero, List.set_cons_succ]
  refine till_take (i := 15) (oi := ?o16) (d := (some 21)) (v := ?v16) ?hi16 (by kernel_rfl) (by kernel_rfl) (by kernel_rfl) (by kernel_rfl) (by kernel_rfl) (fun _ _ _ h => h) ?hd16 ?hw16 ?hy16 hHeld ?_
  case hi16 => (simp only [List.getElem?_toArray, List.getElem?_cons_zero, List.getElem?_cons_succ]; exact rfl)
  case hd16 => rfl
  case hw16 => rfl
  case hy16 => (intro w hSw; (try dsimp only at hSw); go_simp; try with_reducible rfl)
  try simp only [Act.put, List.setIfInBounds_toArray, List.set_cons_zero, List.set_cons_succ]
  refine till_take (i := 16) (oi := ?o17) (d := (some 22)) (v := ?v17) ?hi17 (by kernel_rfl) (by kernel_rfl) (by kernel_rfl) (by kernel_rfl) (by kernel_rfl) (fun _ _ _ h => h) ?hd17 ?hw17 ?hy17 hHeld ?_
  case hi17 => (simp only [List.getElem?_toArray, List.getElem?_cons_zero, List.getElem?_cons_succ]; exact rfl)
  case hd17 => rfl
  case hw17 => rfl
  case hy17 => (intro w hSw; (try dsimp only at hSw); go_simp; try with_reducible rfl)
  try simp only [Act.put, List.setIfInBounds_toArray, List.set_cons_zero, List.set_cons_succ]
  refine till_pure (i := 17) (oi := ?o18) (d := (some 23)) (v := ?v18) ?hi18 (by kernel_rfl) (by kernel_rfl) (by kernel_rfl) (by kernel_rfl) (fun _ _ _ h => h) ?hd18 ?hw18 ?hy18 hHeld ?_
  case hi18 => (simp only [List.getElem?_toArray, List.getElem?_cons_zero, List.getElem?_cons_succ]; exact rfl)
  case hd18 => rfl
  case hw18 => rfl
  case hy18 => (intro w; go_simp; try with_reducible rfl)
  try simp only [Act.put, List.setIfInBounds_toArray, List.set_cons_zero, List.set_cons_succ]
  refine till_pure (i := 18) (oi := ?o19) (d := (some 24)) (v := ?v19) ?hi19 (by kernel_rfl) (by kernel_rfl) (by kernel_rfl) (by kernel_rfl) (fun _ _ _ h => h) ?hd19 ?hw19 ?hy19 hHeld ?_
  case hi19 => (simp only [List.getElem?_toArray, List.getElem?_cons_zero, List.getElem?_cons_succ]; exact rfl)
  case hd19 => rfl
  case hw19 => rfl
  case hy19 => (intro w; go_simp; try with_reducible rfl)
  try simp only [Act.put, List.setIfInBounds_toArray, List.set_cons_zero, List.set_cons_succ]
  refine till_pure (i := 19) (oi := ?o20) (d := (some 25)) (v := ?v20) ?hi20 (by kernel_rfl) (by kernel_rfl) (by kernel_rfl) (by kernel_rfl) (fun _ _ _ h => h) ?hd20 ?hw20 ?hy20 hHeld ?_
  case hi20 => (simp only [List.getElem?_toArray, List.getElem?_cons_zero, List.getElem?_cons_succ]; exact rfl)
  case hd20 => rfl
  case hw20 => rfl
  case hy20 => (intro w; go_simp; try with_reducible rfl)
  try simp only [Act.put, List.setIfInBounds_toArray, List.set_cons_zero, List.set_cons_succ]
  refine till_take (i := 20) (oi := ?o21) (d := (some 26)) (v := ?v21) ?hi21 (by kernel_rfl) (by kernel_rfl) (by kernel_rfl) (by kernel_rfl) (by kernel_rfl) (fun _ _ _ h => h) ?hd21 ?hw21 ?hy21 hHeld ?_
  case hi21 => (simp only [List.getElem?_toArray, List.getElem?_cons_zero, List.getElem?_cons_succ]; exact rfl)
  case hd21 => rfl
  case hw21 => rfl
  case hy21 => (intro w hSw; (try dsimp only at hSw); go_simp; try with_reducible rfl)
  try simp only [Act.put, List.setIfInBounds_toArray, List.set_cons_zero, List.set_cons_succ]
  refine till_pure (i := 21) (oi := ?o22) (d := (some 27)) (v := ?v22) ?hi22 (by kernel_rfl) (by kernel_rfl) (by kernel_rfl) (by kernel_rfl) (fun _ _ _ h => h) ?hd22 ?hw22 ?hy22 hHeld ?_
  case hi22 => (simp only [List.getElem?_toArray, List.getElem?_cons_zero, List.getElem?_cons_succ]; exact rfl)
  case hd22 => rfl
  case hw22 => rfl
  case hy22 => (intro w; go_simp; try with_reducible rfl)
  try simp only [Act.put, List.setIfInBounds_toArray, List.set_cons_zero, List.set_cons_succ]
  refine till_pure (i := 22) (oi := ?o23) (d := (some 28)) (v := ?v23) ?hi23 (by kernel_rfl) (by kernel_rfl) (by kernel_rfl) (by kernel_rfl) (fun _ _ _ h => h) ?hd23 ?hw23 ?hy23 hHeld ?_
  case hi23 => (simp only [List.getElem?_toArray, List.getElem?_cons_zero, List.getElem?_cons_succ]; exact rfl)
  case hd23 => rfl
  case hw23 => rfl
  case hy23 => (intro w; go_simp; try with_reducible rfl)
  try simp only [Act.put, List.setIfInBounds_toArray, List.set_cons_zero, List.set_cons_succ]
  refine till_take (i := 23) (oi := ?o24) (d := (some 29)) (v := ?v24) ?hi24 (by kernel_rfl) (by kernel_rfl) (by kernel_rfl) (by kernel_rfl) (by kernel_rfl) (fun _ _ _ h => h) ?hd24 ?hw24 ?hy24 hHeld ?_
  case hi24 => (simp only [List.getElem?_toArray, List.getElem?_cons_zero, List.getElem?_cons_succ]; exact rfl)
  case hd24 => rfl
  case hw24 => rfl
  case hy24 => (intro w hSw; (try dsimp only at hSw); go_simp; try with_reducible rfl)
  try simp only [Act.put, List.setIfInBounds_toArray, List.set_cons_zero, List.set_cons_succ]
  refine till_take (i := 24) (oi := ?o25) (d := (some 30)) (v := ?v25) ?hi25 (by kernel_rfl) (by kernel_rfl) (by kernel_rfl) (by kernel_rfl) (by kernel_rfl) (fun _ _ _ h => h) ?hd25 ?hw25 ?hy25 hHeld ?_
  case hi25 => (simp only [List.getElem?_toArray, List.getElem?_cons_zero, List.getElem?_cons_succ]; exact rfl)
  case hd25 => rfl
  case hw25 => rfl
  case hy25 => (intro w hSw; (try dsimp only at hSw); go_simp; try with_reducible rfl)
  try simp only [Act.put, List.setIfInBounds_toArray, List.set_cons_zero, List.set_cons_succ]
  refine AnyTill.last (by kernel_rfl) ?_
  refine any_drop 25 (by kernel_rfl) (by kernel_rfl) ?_
  simp only [List.drop_succ_cons, List.drop_zero]
  go_wp2_with (first | (refine wpList_store_elem rfl 216 _ _ rfl HR.out (itemL_len f) i hi rfl (itemL f k) rfl rfl (item_one f k) item_size ?_; intro w3 hr3 hg3 hs3; have HR3 := Lib.hid hr3; have HG3 := Lib.hid hg3; clear hr3 hg3) | (refine wpList_store_elem rfl 216 _ _ rfl HR3.out (fun j => by unfold setL; split <;> rfl) k hk rfl (itemL f i) rfl rfl (item_one f i) item_size ?_; intro w4 hr4 hg4 hs4; have HR4 := Lib.hid hr4; have HG4 := Lib.hid hg4; clear hr4 hg4))
  have hpg4 : w4.heap[p]? = w.heap[p]? := (HG4.out.block p (by have := HG3.out.size; exact Nat.lt_of_lt_of_le (show p < w.drew.heap.size from HP.out.lt) this) (by simpa using hpg)).trans (HG3.out.block p HP.out.lt (by simpa using hpg))
  have hmb4 : w4.heap[mb]? = w.heap[mb]? := (HG4.out.block mb (by have := HG3.out.size; exact Nat.lt_of_lt_of_le (show mb < w.drew.heap.size from HM.out.lt) this) (by simpa using fun e => hgm e.symm)).trans (HG3.out.block mb HM.out.lt (by simpa using fun e => hgm e.symm))
  have hp4 : Arr w4 p 213 #[lessV, .slice (some ⟨g, 0, none⟩) l cap, .map (some mb), .int .i64 next] := hpg4.trans HP.out
  have hm4 := HM.out.same hmb4
  have hr4 := HR4.out
  rw [itemL_swap] at hr4
  have hT4 : Tch S w w4 := ((Tch.refl S w).grown (show w.grownBy w3 (some g) from ⟨HG3.out.os, HG3.out.tape, HG3.out.output, HG3.out.size, HG3.out.block⟩) (fun q e => .inl (by injection e with e; subst e; exact sg))).grown HG4.out (fun q e => .inl (by injection e with e; subst e; exact sg))
  clear x1 y0 y1 y2 z0 z1 z2 HR HP HM HR3 HR4 HG3 HG4 hs3 hs4 hpg4 hmb4 w3
  have x1 : w4.cell? ⟨p, 1, none⟩ = some (.slice (some ⟨g, 0, none⟩) l cap) := hp4.cell 1
  have x2 : w4.cell? ⟨p, 2, none⟩ = some (.map (some mb)) := hp4.cell 2
  have y2 : w4.cell? ⟨g, i * 3 + 2, none⟩ = some (.int .i64 (f k).handle) := by
    have := hr4.range (itemL_len _) hi 2 _ rfl
    rwa [(swap_at f i k).1] at this
  have z2 : w4.cell? ⟨g, k * 3 + 2, none⟩ = some (.int .i64 (f i).handle) := by
    have := hr4.range (itemL_len _) hk 2 _ rfl
    rwa [(swap_at f i k).2] at this
  have HR4 := Lib.hid hr4
  have HP4 := Lib.hid hp4
  have HT4 := Lib.hid hT4
  have hm4' : MapAt Tryz.prog 3 3 .i64 w4.drew mb l φ := hm4
  have HM4 := Lib.hid hm4'
  obtain ⟨hbi, hbi'⟩ := HH.out.bound.2.2.2 i hi
  obtain ⟨hbk, hbk'⟩ := HH.out.bound.2.2.2 k hk
  have hnx := HH.out.bound.2.2.1
  clear hr4 hp4 hT4 hm4 hm4'
  go_still_tail 13, (by kernel_rfl)
  change wpList _ _ _ _ _ w4.drew
  go_wp2_with (at_mapUpdate; refine wpList_mapUpdate_at rfl _ _ _ 210 rfl 3 3 .i64 Tryz.underlying3 Tryz.underlying3 Tryz.underlying210 mb l φ rfl HM4.out (by unfold maxLen; omega) _ _ rfl rfl (WalkArith.wf_i64 (by omega)) (WalkArith.wf_i64 (by omega)) ?_; intro w5 hm5 hg5; have HM5 := Lib.hid hm5; have HG5 := Lib.hid hg5; clear hm5 hg5)
  have hm5 := HM5.out
  rw [HPL.out.1 k hk] at hm5
  have hgr5 : w4.grownBy w5 (some mb) := ⟨HG5.out.os, HG5.out.tape, HG5.out.output, HG5.out.size, HG5.out.block⟩
  have hp5 : Arr w5 p 213 #[lessV, .slice (some ⟨g, 0, none⟩) l cap, .map (some mb), .int .i64 next] := (hgr5.block p HP4.out.lt (by simpa using hpm)).trans HP4.out
  have hr5 : RowIn S w5 216 3 (.slice (some ⟨g, 0, none⟩) l cap) l (itemL (swapD f i k)) := HR4.out.own_block hgr5 hgm
  have hT5 := HT4.out.grown hgr5 (fun q e => .inl (by injection e with e; subst e; exact sm))
  clear x1 x2 y2 z2 HM4 HM5 HG5 HP4 HR4 HT4
  have x1 : w5.cell? ⟨p, 1, none⟩ = some (.slice (some ⟨g, 0, none⟩) l cap) := hp5.cell 1
  have x2 : w5.cell? ⟨p, 2, none⟩ = some (.map (some mb)) := hp5.cell 2
  have z2 : w5.cell? ⟨g, k * 3 + 2, none⟩ = some (.int .i64 (f i).handle) := by
    have := hr5.range (itemL_len _) hk 2 _ rfl
    rwa [(swap_at f i k).2] at this
  have hm5' : MapAt Tryz.prog 3 3 .i64 w5.drew mb l (mput φ (f k).handle (some (i : Int))) := hm5
  have HM5 := Lib.hid hm5'
  have HR5 := Lib.hid hr5
  have HP5 := Lib.hid hp5
  have HT5 := Lib.hid hT5
  have HGR5 := Lib.hid hgr5
  clear hm5 hm5' hr5 hp5 hT5 hgr5
  go_still_tail 13, (by kernel_rfl)
  change wpList _ _ _ _ _ w5.drew
  go_wp2_with (at_mapUpdate; refine wpList_mapUpdate_at rfl _ _ _ 210 rfl 3 3 .i64 Tryz.underlying3 Tryz.underlying3 Tryz.underlying210 mb l _ rfl HM5.out (by unfold maxLen; omega) _ _ rfl rfl (WalkArith.wf_i64 (by omega)) (WalkArith.wf_i64 (by omega)) ?_; intro w6 hm6 hg6; have HM6 := Lib.hid hm6; have HG6 := Lib.hid hg6; clear hm6 hg6)
  have hm6 := HM6.out
  have hφ : mput φ (f k).handle (some (i : Int)) (f i).handle = some (if i = k then (i : Int) else (i : Int)) := by
    by_cases e : (f i).handle = (f k).handle
    · rw [e, mput_same]; simp
    · rw [mput_other _ _ e, HPL.out.1 i hi]; simp
  rw [hφ] at hm6
  have hgr6 : w5.grownBy w6 (some mb) := ⟨HG6.out.os, HG6.out.tape, HG6.out.output, HG6.out.size, HG6.out.block⟩
  have hp6 : Arr w6 p 213 #[lessV, .slice (some ⟨g, 0, none⟩) l cap, .map (some mb), .int .i64 next] := (hgr6.block p HP5.out.lt (by simpa using hpm)).trans HP5.out
  have hr6 := HR5.out.own_block hgr6 hgm
  have hT6 := HT5.out.grown hgr6 (fun q e => .inl (by injection e with e; subst e; exact sm))
  refine bodyPost_end (results_none Tryz.results167 _ _ _) rfl ⟨⟨_, rfl⟩, ⟨⟨_, mb, _, hp6, hr6, hm6, HPL.out.swap hi hk, sp, sm⟩, HH.out.bound.1, HH.out.bound.2.1, HH.out.bound.2.2.1, fun j hj => ?_⟩, hT6⟩
  by_cases h1 : j = k
  · subst h1; rw [(swap_at f i j).2]; exact HH.out.bound.2.2.2 i hi
  · by_cases h2 : j = i
    · subst h2; rw [(swap_at f j k).1]; exact HH.out.bound.2.2.2 k hk
    · rw [swap_else f h2 h1]; exact HH.out.bound.2.2.2 j hj

end Go.Proofs.YtpoijhjjbmaedaaGreatDoor.Hp
end

/- Heap4: The heap of what is due: ahead and settle over the heap in memory. -/
section
namespace Go.Proofs.YtpoijhjjbmaedaaGreatDoor.Hp
open Go.RowKit

theorem RowIn_keepT {S : Nat → Prop} {w w' : World} (hb : Below w.heap.size w w') {p l : Nat} {next : Int} {f : Nat → Due} (h : HeapIn S w p l next f) : HeapIn S w' p l next f := by
  obtain ⟨iv, mb, φ, hp, hr, hm, hpl, sp, sm⟩ := h.lies
  exact ⟨⟨iv, mb, φ, hp.keep hb, hr.keep hb, hm.same (hb.block mb hm.lt), hpl, sp, sm⟩, h.bound⟩
theorem ahead_in (S : Nat → Prop) (p l i k : Nat) (next : Int) (f : Nat → Due) (w : World) (h : HeapIn S w p l next f) (hi : i < l) (hk : k < l) :
    Calls Tryz.prog 166 #[.pointer (some ⟨p, 0, none⟩), .int .i64 i, .int .i64 k] w fun e w' => e = .returned (.bool (aheadD f i k)) ∧ Below w.heap.size w w' := by
  obtain ⟨iv, mb, φ, hp, hr, hm, hpl, sp, sm⟩ := h.lies
  obtain ⟨g, cap, rfl, sg, hcap, hcapm, hgl⟩ := hr.form (by omega)
  have ri := hr.range (itemL_len f) hi
  have rk := hr.range (itemL_len f) hk
  exact ahead_raw p g cap l i k _ _ _ _ _ _ w (hp.cell 0) (hp.cell 1) (ri 0 _ rfl) (ri 1 _ rfl) (ri 2 _ rfl) (rk 0 _ rfl) (rk 1 _ rfl) (rk 2 _ rfl) hi hk (by have := h.bound.1; omega) hcapm hp.lt hgl

set_option maxRecDepth 100000 in
set_option maxHeartbeats 2000000 in
theorem settle_in (S : Nat → Prop) (p l a0 : Nat) (next : Int) (f : Nat → Due) (w : World) (h : HeapIn S w p l next f) (ha : a0 < l) :
    Calls Tryz.prog 134 #[.pointer (some ⟨p, 0, none⟩), .int .i64 a0] w fun e w' => (∃ v, e = .returned v) ∧ HeapIn S w' p l next (settleD f l a0) ∧ Tch S w w' := by
  have HH := Lib.hid h
  have hl6 : l ≤ 65536 := h.bound.1
  clear h
  go_enter Tryz.func134, Tryz.ntmps134
  go_wp2_with fail
  go_loopw [1] (fun at_ wr => ∃ (k a : Nat) (f' : Nat → Due), a ≤ k ∧ a < l ∧ at_ = .int .i64 a ∧ HeapIn S wr p l next f' ∧ Tch S w wr ∧ up k f' a = up a0 f a0) (fun at_ _ => (intOf at_).toNat)
  case atStart => exact ⟨a0, a0, f, Nat.le_refl _, ha, rfl, HH.out, Tch.refl S w, rfl⟩
  case round =>
    obtain ⟨k, a, f', hka, hal, rfl, hI, ht, hup⟩ := hrel
    have HI := Lib.hid hI
    have HT := Lib.hid ht
    have HU := Lib.hid hup
    clear hI ht hup HH
    have ha0 : (0 : Int) ≤ (a : Int) := by omega
    have hal1 : (a : Int) ≤ 65536 := by omega
    rcases Nat.eq_zero_or_pos a with h0 | h0
    · have hst : up k f' a = (f', a) := up_stop (.inl h0)
      have HUS := Lib.hid (HU.out.symm.trans hst)
      have hq : ¬ (0 : Int) < (a : Int) := by omega
      clear HU hst h0
      go_wp2_with fail
      go_loopw [1, 4, 5] (fun at2 le kk wr2 => ∃ (k2 a2 : Nat) (f2 : Nat → Due), a2 < l ∧ l - a2 ≤ k2 ∧ at2 = .int .i64 a2 ∧ HeapIn S wr2 p l next f2 ∧ Tch S w wr2 ∧ down l k2 f2 a2 = settleD f l a0) (fun at2 _ _ _ => (l - intOf at2).toNat)
      case atStart => exact ⟨l, a, f', hal, by omega, rfl, HI.out, HT.out, by rw [settleD, HUS.out]⟩
      case round =>
        rename World => wo
        obtain ⟨k2, a2, f2, ha2, hk2, rfl, hI, ht, hdn⟩ := hrel
        clear HI HT HUS
        have HI := Lib.hid hI
        have HT := Lib.hid ht
        have HD := Lib.hid hdn
        clear hI ht hdn
        have ha20 : (0 : Int) ≤ (a2 : Int) := by omega
        have ha21 : (a2 : Int) ≤ 65536 := by omega
        go_wp2_with fail
        go_loopw [4, 5] (fun le kk wr3 => ∃ r : Nat, r ≤ 2 ∧ le = .int .i64 (pk f2 l a2 r : Nat) ∧ kk = .int .i64 (2 * (a2 : Int) + 1 + (r : Int)) ∧ HeapIn S wr3 p l next f2 ∧ Tch S w wr3) (fun _ kk _ => (2 * (a2 : Int) + 3 - intOf kk).toNat)
        case atStart => exact ⟨0, by omega, rfl, by go_num, HI.out, HT.out⟩
        case round =>
          rename World => wi
          obtain ⟨r, hr2, rfl, rfl, hI, ht⟩ := hrel
          clear HI HT
          have HI := Lib.hid hI
          have HT := Lib.hid ht
          clear hI ht
          obtain ⟨q, hq⟩ : ∃ q, pk f2 l a2 r = q := ⟨_, rfl⟩
          have hql : q < l := by rw [← hq]; exact pk_lt ha2 r
          have hqa := pk_ge (f := f2) (l := l) (at_ := a2) r
          rw [hq] at hqa ⊢
          have HQ := Lib.hid hq
          have HQA := Lib.hid hqa
          clear hq hqa
          obtain ⟨iv, mb, φ, hpA, hrA, hmA, hplA, spA, smA⟩ := HI.out.lies
          obtain ⟨g, cap, rfl, sg, hcap, hcapm, hgl⟩ := hrA.form (by omega)
          have x1 : wi.cell? ⟨p, 1, none⟩ = some (.slice (some ⟨g, 0, none⟩) l cap) := hpA.cell 1
          clear hpA hrA hmA hplA spA smA hgl sg hcap hcapm
          by_cases hr : r < 2
          · by_cases hl : 2 * a2 + 1 + r < l
            · have hc1 : (2 * (a2 : Int) + 1 + (r : Int)) ≤ 2 * (a2 : Int) + 2 := by omega
              have hc2 : (2 * (a2 : Int) + 1 + (r : Int)) < (l : Int) := by omega
              obtain ⟨kn, hkn⟩ : ∃ kn : Nat, 2 * a2 + 1 + r = kn := ⟨_, rfl⟩
              have hki : 2 * (a2 : Int) + 1 + (r : Int) = (kn : Int) := by omega
              rw [hki] at hc1 hc2 ⊢
              have hkl : kn < l := by omega
              have hk0 : (0 : Int) ≤ (kn : Int) := by omega
              have hk6 : (kn : Int) ≤ 65536 := by omega
              have HKN := Lib.hid hkn
              have HKI := Lib.hid hki
              clear hkn hki hl
              cases hah : aheadD f2 kn q
              case true =>
                have hst : pk f2 l a2 (r + 1) = kn := by
                  have := pk_yes (f := f2) (l := l) (at_ := a2) (r := r) (by rw [HKN.out]; exact hkl) (by rw [HKN.out, HQ.out]; exact hah)
                  rw [this, HKN.out]
                have HST := Lib.hid hst
                clear hst
                go_wp2_with fail
                refine (ahead_in S p l kn q next f2 _ HI.out hkl hql).mono ?_
                rw [hah]
                rintro e w2 ⟨rfl, hb2⟩
                have HI2 := Lib.hid (RowIn_keepT hb2 HI.out)
                have HT2 := Lib.hid (HT.out.below hb2)
                clear hb2
                go_wp2_with fail
                go_roundw
                case rel => exact ⟨r + 1, by omega, by rw [HST.out], by have := HKI.out; first | (congr 1; omega) | go_num, HI2.out, HT2.out⟩
                case measure => simp [intOf]; omega
              case false =>
                have hst : pk f2 l a2 (r + 1) = q := by
                  have := pk_no (f := f2) (l := l) (at_ := a2) (r := r) (by rw [HKN.out, HQ.out]; exact hah)
                  rw [this, HQ.out]
                have HST := Lib.hid hst
                clear hst
                go_wp2_with fail
                refine (ahead_in S p l kn q next f2 _ HI.out hkl hql).mono ?_
                rw [hah]
                rintro e w2 ⟨rfl, hb2⟩
                have HI2 := Lib.hid (RowIn_keepT hb2 HI.out)
                have HT2 := Lib.hid (HT.out.below hb2)
                clear hb2
                go_wp2_with fail
                go_roundw
                case rel => exact ⟨r + 1, by omega, by rw [HST.out], by have := HKI.out; first | (congr 1; omega) | go_num, HI2.out, HT2.out⟩
                case measure => simp [intOf]; omega
            · have hc1 : (2 * (a2 : Int) + 1 + (r : Int)) ≤ 2 * (a2 : Int) + 2 := by omega
              have hc2 : ¬ (2 * (a2 : Int) + 1 + (r : Int)) < (l : Int) := by omega
              have hpick : pick f2 l a2 = q := by
                have := pk_stop (f := f2) (l := l) (at_ := a2) (r := r) (by omega) (2 - r)
                rw [show r + (2 - r) = 2 by omega, HQ.out] at this
                exact this
              have HPK := Lib.hid hpick
              clear hpick
              have hq0 : (0 : Int) ≤ (q : Int) := by omega
              by_cases hqa : q = a2
              · subst hqa
                have HDN := Lib.hid (HD.out.symm.trans (down_stop HPK.out))
                go_wp2_with fail
                refine bodyPost_ret (results_none Tryz.results134 _ _ _) rfl ⟨⟨_, rfl⟩, ?_, HT.out⟩
                rw [HDN.out]
                exact HI.out
              · have hne : ((q : Int) == (a2 : Int)) = false := by simp; omega
                have hlt : a2 < q := by rcases HQA.out with h1 | h1; exact absurd h1 hqa; exact h1
                obtain ⟨j, hj⟩ : ∃ j, k2 = j + 1 := ⟨k2 - 1, by omega⟩
                have HDN := Lib.hid (show down l j (swapD f2 a2 q) q = settleD f l a0 from by
                  have h1 := HD.out
                  rw [hj, down_step (by rw [HPK.out]; exact hqa), HPK.out] at h1
                  exact h1)
                have HJ := Lib.hid (show l - q ≤ j by omega)
                have HQE := Lib.hid hqa
                clear hqa hj
                go_wp2_with fail
                refine (swap_in S p l a2 q next f2 _ HI.out ha2 hql).mono ?_
                rintro e w3 ⟨⟨v3, rfl⟩, hI3, hT3⟩
                have HI3 := Lib.hid hI3
                have HT3 := Lib.hid (HT.out.trans hT3)
                clear hI3 hT3
                go_wp2_with fail
                go_roundw
                case rel => exact ⟨j, q, swapD f2 a2 q, hql, HJ.out, by first | rfl | go_num, HI3.out, HT3.out, HDN.out⟩
                case measure => simp [intOf]; omega
          · have hc1 : ¬ (2 * (a2 : Int) + 1 + (r : Int)) ≤ 2 * (a2 : Int) + 2 := by omega
            have hpick : pick f2 l a2 = q := by
              have e2 : r = 2 := by omega
              have := HQ.out
              rw [e2] at this
              exact this
            have HPK := Lib.hid hpick
            clear hpick
            have hq0 : (0 : Int) ≤ (q : Int) := by omega
            by_cases hqa : q = a2
            · subst hqa
              have HDN := Lib.hid (HD.out.symm.trans (down_stop HPK.out))
              go_wp2_with fail
              refine bodyPost_ret (results_none Tryz.results134 _ _ _) rfl ⟨⟨_, rfl⟩, ?_, HT.out⟩
              rw [HDN.out]
              exact HI.out
            · have hne : ((q : Int) == (a2 : Int)) = false := by simp; omega
              have hlt : a2 < q := by rcases HQA.out with h1 | h1; exact absurd h1 hqa; exact h1
              obtain ⟨j, hj⟩ : ∃ j, k2 = j + 1 := ⟨k2 - 1, by omega⟩
              have HDN := Lib.hid (show down l j (swapD f2 a2 q) q = settleD f l a0 from by
                have h1 := HD.out
                rw [hj, down_step (by rw [HPK.out]; exact hqa), HPK.out] at h1
                exact h1)
              have HJ := Lib.hid (show l - q ≤ j by omega)
              have HQE := Lib.hid hqa
              clear hqa hj
              go_wp2_with fail
              refine (swap_in S p l a2 q next f2 _ HI.out ha2 hql).mono ?_
              rintro e w3 ⟨⟨v3, rfl⟩, hI3, hT3⟩
              have HI3 := Lib.hid hI3
              have HT3 := Lib.hid (HT.out.trans hT3)
              clear hI3 hT3
              go_wp2_with fail
              go_roundw
              case rel => exact ⟨j, q, swapD f2 a2 q, hql, HJ.out, by first | rfl | go_num, HI3.out, HT3.out, HDN.out⟩
              case measure => simp [intOf]; omega
    · have hq : (0 : Int) < (a : Int) := by omega
      obtain ⟨b, hb⟩ : ∃ b, (a - 1) / 2 = b := ⟨_, rfl⟩
      have hba : b < a := by omega
      have hbi : ((a : Int) - 1) / 2 = (b : Int) := by omega
      have hbl : b < l := by omega
      have hb0 : (0 : Int) ≤ (b : Int) := by omega
      have hb1 : (b : Int) ≤ 65536 := by omega
      cases hah : aheadD f' a b
      case true =>
        have hstep : ∀ j, k = j + 1 → up k f' a = up j (swapD f' a b) b := fun j e => by
          subst e
          have := up_step (k := j) (f := f') h0 (by rw [hb]; exact hah)
          rwa [hb] at this
        have hk0 : ∃ j, k = j + 1 := ⟨k - 1, by omega⟩
        obtain ⟨j, hj⟩ := hk0
        have HUS := Lib.hid ((hstep j hj).symm.trans HU.out)
        have hbj : b ≤ j := by omega
        have HK := Lib.hid hbj
        clear HU hstep hka hj hbj h0
        have HB := Lib.hid hb
        clear hb
        go_wp2_with fail
        refine (ahead_in S p l a b next f' _ HI.out hal hbl).mono ?_
        rw [hah]
        rintro e w2 ⟨rfl, hb2⟩
        have hI2 := RowIn_keepT hb2 HI.out
        have hT2 := HT.out.below hb2
        have HI2 := Lib.hid hI2
        have HT2 := Lib.hid hT2
        clear hI2 hT2 hb2
        go_wp2_with fail
        refine (swap_in S p l a b next f' _ HI2.out hal hbl).mono ?_
        rintro e w3 ⟨⟨v3, rfl⟩, hI3, hT3⟩
        have HI3 := Lib.hid hI3
        have HT3 := Lib.hid (HT2.out.trans hT3)
        clear hI3 hT3
        go_wp2_with fail
        go_roundw
        case rel => exact ⟨j, b, swapD f' a b, HK.out, hbl, by first | rfl | go_num, HI3.out, HT3.out, HUS.out⟩
        case measure => simp [intOf]; omega
      case false =>
        have hst : up k f' a = (f', a) := up_stop (.inr (by rw [hb]; exact hah))
        have HUS := Lib.hid (HU.out.symm.trans hst)
        clear HU hst h0
        have HB := Lib.hid hb
        clear hb
        go_wp2_with fail
        refine (ahead_in S p l a b next f' _ HI.out hal hbl).mono ?_
        rw [hah]
        rintro e w2 ⟨rfl, hb2⟩
        have hI2 := RowIn_keepT hb2 HI.out
        have hT2 := HT.out.below hb2
        clear HI HT
        have HI := Lib.hid hI2
        have HT := Lib.hid hT2
        clear hI2 hT2 hb2 hq hbi hb0 hb1 hba hbl HB hah
        go_wp2_with fail
        go_loopw [1, 4, 5] (fun at2 le kk wr2 => ∃ (k2 a2 : Nat) (f2 : Nat → Due), a2 < l ∧ l - a2 ≤ k2 ∧ at2 = .int .i64 a2 ∧ HeapIn S wr2 p l next f2 ∧ Tch S w wr2 ∧ down l k2 f2 a2 = settleD f l a0) (fun at2 _ _ _ => (l - intOf at2).toNat)
        case atStart => exact ⟨l, a, f', hal, by omega, rfl, HI.out, HT.out, by rw [settleD, HUS.out]⟩
        case round =>
          rename World => wo
          obtain ⟨k2, a2, f2, ha2, hk2, rfl, hI, ht, hdn⟩ := hrel
          clear HI HT HUS
          have HI := Lib.hid hI
          have HT := Lib.hid ht
          have HD := Lib.hid hdn
          clear hI ht hdn
          have ha20 : (0 : Int) ≤ (a2 : Int) := by omega
          have ha21 : (a2 : Int) ≤ 65536 := by omega
          go_wp2_with fail
          go_loopw [4, 5] (fun le kk wr3 => ∃ r : Nat, r ≤ 2 ∧ le = .int .i64 (pk f2 l a2 r : Nat) ∧ kk = .int .i64 (2 * (a2 : Int) + 1 + (r : Int)) ∧ HeapIn S wr3 p l next f2 ∧ Tch S w wr3) (fun _ kk _ => (2 * (a2 : Int) + 3 - intOf kk).toNat)
          case atStart => exact ⟨0, by omega, rfl, by go_num, HI.out, HT.out⟩
          case round =>
            rename World => wi
            obtain ⟨r, hr2, rfl, rfl, hI, ht⟩ := hrel
            clear HI HT
            have HI := Lib.hid hI
            have HT := Lib.hid ht
            clear hI ht
            obtain ⟨q, hq⟩ : ∃ q, pk f2 l a2 r = q := ⟨_, rfl⟩
            have hql : q < l := by rw [← hq]; exact pk_lt ha2 r
            have hqa := pk_ge (f := f2) (l := l) (at_ := a2) r
            rw [hq] at hqa ⊢
            have HQ := Lib.hid hq
            have HQA := Lib.hid hqa
            clear hq hqa
            obtain ⟨iv, mb, φ, hpA, hrA, hmA, hplA, spA, smA⟩ := HI.out.lies
            obtain ⟨g, cap, rfl, sg, hcap, hcapm, hgl⟩ := hrA.form (by omega)
            have x1 : wi.cell? ⟨p, 1, none⟩ = some (.slice (some ⟨g, 0, none⟩) l cap) := hpA.cell 1
            clear hpA hrA hmA hplA spA smA hgl sg hcap hcapm
            by_cases hr : r < 2
            · by_cases hl : 2 * a2 + 1 + r < l
              · have hc1 : (2 * (a2 : Int) + 1 + (r : Int)) ≤ 2 * (a2 : Int) + 2 := by omega
                have hc2 : (2 * (a2 : Int) + 1 + (r : Int)) < (l : Int) := by omega
                obtain ⟨kn, hkn⟩ : ∃ kn : Nat, 2 * a2 + 1 + r = kn := ⟨_, rfl⟩
                have hki : 2 * (a2 : Int) + 1 + (r : Int) = (kn : Int) := by omega
                rw [hki] at hc1 hc2 ⊢
                have hkl : kn < l := by omega
                have hk0 : (0 : Int) ≤ (kn : Int) := by omega
                have hk6 : (kn : Int) ≤ 65536 := by omega
                have HKN := Lib.hid hkn
                have HKI := Lib.hid hki
                clear hkn hki hl
                cases hah : aheadD f2 kn q
                case true =>
                  have hst : pk f2 l a2 (r + 1) = kn := by
                    have := pk_yes (f := f2) (l := l) (at_ := a2) (r := r) (by rw [HKN.out]; exact hkl) (by rw [HKN.out, HQ.out]; exact hah)
                    rw [this, HKN.out]
                  have HST := Lib.hid hst
                  clear hst
                  go_wp2_with fail
                  refine (ahead_in S p l kn q next f2 _ HI.out hkl hql).mono ?_
                  rw [hah]
                  rintro e w2 ⟨rfl, hb2⟩
                  have HI2 := Lib.hid (RowIn_keepT hb2 HI.out)
                  have HT2 := Lib.hid (HT.out.below hb2)
                  clear hb2
                  go_wp2_with fail
                  go_roundw
                  case rel => exact ⟨r + 1, by omega, by rw [HST.out], by have := HKI.out; first | (congr 1; omega) | go_num, HI2.out, HT2.out⟩
                  case measure => simp [intOf]; omega
                case false =>
                  have hst : pk f2 l a2 (r + 1) = q := by
                    have := pk_no (f := f2) (l := l) (at_ := a2) (r := r) (by rw [HKN.out, HQ.out]; exact hah)
                    rw [this, HQ.out]
                  have HST := Lib.hid hst
                  clear hst
                  go_wp2_with fail
                  refine (ahead_in S p l kn q next f2 _ HI.out hkl hql).mono ?_
                  rw [hah]
                  rintro e w2 ⟨rfl, hb2⟩
                  have HI2 := Lib.hid (RowIn_keepT hb2 HI.out)
                  have HT2 := Lib.hid (HT.out.below hb2)
                  clear hb2
                  go_wp2_with fail
                  go_roundw
                  case rel => exact ⟨r + 1, by omega, by rw [HST.out], by have := HKI.out; first | (congr 1; omega) | go_num, HI2.out, HT2.out⟩
                  case measure => simp [intOf]; omega
              · have hc1 : (2 * (a2 : Int) + 1 + (r : Int)) ≤ 2 * (a2 : Int) + 2 := by omega
                have hc2 : ¬ (2 * (a2 : Int) + 1 + (r : Int)) < (l : Int) := by omega
                have hpick : pick f2 l a2 = q := by
                  have := pk_stop (f := f2) (l := l) (at_ := a2) (r := r) (by omega) (2 - r)
                  rw [show r + (2 - r) = 2 by omega, HQ.out] at this
                  exact this
                have HPK := Lib.hid hpick
                clear hpick
                have hq0 : (0 : Int) ≤ (q : Int) := by omega
                by_cases hqa : q = a2
                · subst hqa
                  have HDN := Lib.hid (HD.out.symm.trans (down_stop HPK.out))
                  go_wp2_with fail
                  refine bodyPost_ret (results_none Tryz.results134 _ _ _) rfl ⟨⟨_, rfl⟩, ?_, HT.out⟩
                  rw [HDN.out]
                  exact HI.out
                · have hne : ((q : Int) == (a2 : Int)) = false := by simp; omega
                  have hlt : a2 < q := by rcases HQA.out with h1 | h1; exact absurd h1 hqa; exact h1
                  obtain ⟨j, hj⟩ : ∃ j, k2 = j + 1 := ⟨k2 - 1, by omega⟩
                  have HDN := Lib.hid (show down l j (swapD f2 a2 q) q = settleD f l a0 from by
                    have h1 := HD.out
                    rw [hj, down_step (by rw [HPK.out]; exact hqa), HPK.out] at h1
                    exact h1)
                  have HJ := Lib.hid (show l - q ≤ j by omega)
                  have HQE := Lib.hid hqa
                  clear hqa hj
                  go_wp2_with fail
                  refine (swap_in S p l a2 q next f2 _ HI.out ha2 hql).mono ?_
                  rintro e w3 ⟨⟨v3, rfl⟩, hI3, hT3⟩
                  have HI3 := Lib.hid hI3
                  have HT3 := Lib.hid (HT.out.trans hT3)
                  clear hI3 hT3
                  go_wp2_with fail
                  go_roundw
                  case rel => exact ⟨j, q, swapD f2 a2 q, hql, HJ.out, by first | rfl | go_num, HI3.out, HT3.out, HDN.out⟩
                  case measure => simp [intOf]; omega
            · have hc1 : ¬ (2 * (a2 : Int) + 1 + (r : Int)) ≤ 2 * (a2 : Int) + 2 := by omega
              have hpick : pick f2 l a2 = q := by
                have e2 : r = 2 := by omega
                have := HQ.out
                rw [e2] at this
                exact this
              have HPK := Lib.hid hpick
              clear hpick
              have hq0 : (0 : Int) ≤ (q : Int) := by omega
              by_cases hqa : q = a2
              · subst hqa
                have HDN := Lib.hid (HD.out.symm.trans (down_stop HPK.out))
                go_wp2_with fail
                refine bodyPost_ret (results_none Tryz.results134 _ _ _) rfl ⟨⟨_, rfl⟩, ?_, HT.out⟩
                rw [HDN.out]
                exact HI.out
              · have hne : ((q : Int) == (a2 : Int)) = false := by simp; omega
                have hlt : a2 < q := by rcases HQA.out with h1 | h1; exact absurd h1 hqa; exact h1
                obtain ⟨j, hj⟩ : ∃ j, k2 = j + 1 := ⟨k2 - 1, by omega⟩
                have HDN := Lib.hid (show down l j (swapD f2 a2 q) q = settleD f l a0 from by
                  have h1 := HD.out
                  rw [hj, down_step (by rw [HPK.out]; exact hqa), HPK.out] at h1
                  exact h1)
                have HJ := Lib.hid (show l - q ≤ j by omega)
                have HQE := Lib.hid hqa
                clear hqa hj
                go_wp2_with fail
                refine (swap_in S p l a2 q next f2 _ HI.out ha2 hql).mono ?_
                rintro e w3 ⟨⟨v3, rfl⟩, hI3, hT3⟩
                have HI3 := Lib.hid hI3
                have HT3 := Lib.hid (HT.out.trans hT3)
                clear hI3 hT3
                go_wp2_with fail
                go_roundw
                case rel => exact ⟨j, q, swapD f2 a2 q, hql, HJ.out, by first | rfl | go_num, HI3.out, HT3.out, HDN.out⟩
                case measure => simp [intOf]; omega

end Go.Proofs.YtpoijhjjbmaedaaGreatDoor.Hp
end
