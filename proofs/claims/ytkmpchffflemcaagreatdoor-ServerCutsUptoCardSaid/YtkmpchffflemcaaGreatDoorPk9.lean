/- Packed: Book4, BookB, BLen, GeoEng. -/
import Derived.Test.YtkmpchffflemcaaGreatDoorPk1
import Derived.Test.YtkmpchffflemcaaGreatDoorPk8
set_option linter.unusedVariables false
set_option linter.unusedSimpArgs false
/- The book: may. -/
section
set_option linter.unusedVariables false
set_option linter.unusedSimpArgs false
namespace Go.Proofs.YtkmpchffflemcaaGreatDoor.Bk
open Go.RowKit
open Go.Proofs.YtkmpchffflemcaaGreatDoor.Bit (SetAt hasB)

set_option maxRecDepth 100000 in
set_option maxHeartbeats 2000000 in
theorem may_no0 (S : Nat → Prop) (b n codes : Nat) (group next clock : Int) (L : List Bkg) (q : Parts) (id seat til last : Int) (w : World) (h : BookAt S w b n codes group next clock L q) (c0 : decide (id ≤ last) = true) :
    Calls Tryz.prog 253 #[.pointer (some ⟨b, 0, none⟩), .agg #[.int .u32 id, .int .i64 seat, .int .i64 til], .int .u32 last] w fun e w' => e = .returned (.bool false) ∧ Below w.heap.size w w' := by
  have HH := Lib.hid h
  clear h
  go_enter Tryz.func253, Tryz.ntmps253
  go_wp2_with fail
  have hb1 : Below w.heap.size w (w.alloc (.cells #[.int .u32 id, .int .i64 seat, .int .i64 til] 258)) := ext_alloc (Below.refl _ _) _
  have hA1 : Arr (w.alloc (.cells #[.int .u32 id, .int .i64 seat, .int .i64 til] 258)) w.heap.size 258 #[.int .u32 id, .int .i64 seat, .int .i64 til] := Arr.fresh w _ _
  obtain ⟨w1, hw1⟩ : ∃ w1, w.alloc (.cells #[.int .u32 id, .int .i64 seat, .int .i64 til] 258) = w1 := ⟨_, rfl⟩
  obtain ⟨vb, hvb⟩ : ∃ vb, w.heap.size = vb := ⟨_, rfl⟩
  rw [hw1] at hb1 hA1 ⊢
  have HC1 := Lib.hid (HH.out.comp.below hb1)
  have HB1 := Lib.hid hb1
  clear hb1
  rw [hvb] at hA1 ⊢
  clear hw1 hvb
  have HCS : ∀ w', Below w1.heap.size w1 w' → (w'.cell? ⟨vb, 0, none⟩ = some (.int .u32 id) ∧ w'.cell? ⟨vb, 1, none⟩ = some (.int .i64 seat) ∧ w'.cell? ⟨vb, 2, none⟩ = some (.int .i64 til) ∧ w'.cell? ⟨b, 0, none⟩ = some (.int .i64 n) ∧ w'.cell? ⟨b, 4, none⟩ = some (.int .i64 clock) ∧ w'.cell? ⟨b, 5, none⟩ = some (.int .u32 next) ∧ w'.cell? ⟨b, 6, none⟩ = some (.pointer (some ⟨q.tp, 0, none⟩)) ∧ Below w1.heap.size w1 w') := fun w' hb => ⟨(hA1.keep hb).cell 0, (hA1.keep hb).cell 1, (hA1.keep hb).cell 2, (HC1.out.own.keep hb).cell 0, (HC1.out.own.keep hb).cell 4, (HC1.out.own.keep hb).cell 5, (HC1.out.own.keep hb).cell 6, hb⟩
  have HCS := Lib.hid HCS
  clear hA1
  refine wp_region_held_drew (S := (fun w' => w'.cell? ⟨vb, 0, none⟩ = some (.int .u32 id) ∧ w'.cell? ⟨vb, 1, none⟩ = some (.int .i64 seat) ∧ w'.cell? ⟨vb, 2, none⟩ = some (.int .i64 til) ∧ w'.cell? ⟨b, 0, none⟩ = some (.int .i64 n) ∧ w'.cell? ⟨b, 4, none⟩ = some (.int .i64 clock) ∧ w'.cell? ⟨b, 5, none⟩ = some (.int .u32 next) ∧ w'.cell? ⟨b, 6, none⟩ = some (.pointer (some ⟨q.tp, 0, none⟩)) ∧ Below w1.heap.size w1 w')) (by kernel_rfl) (by exact HCS.out _ (ext_drew (Below.refl _ _))) (fun hHeld => ?_)
  refine tky 0 (some 8) (by assumption) ?_
  try simp only [Act.put, List.setIfInBounds_toArray, List.set_cons_zero, List.set_cons_succ]
  refine tky 1 (some 9) (by assumption) ?_
  try simp only [Act.put, List.setIfInBounds_toArray, List.set_cons_zero, List.set_cons_succ]
  refine tky 2 (some 10) (by assumption) ?_
  try simp only [Act.put, List.setIfInBounds_toArray, List.set_cons_zero, List.set_cons_succ]
  refine tky 3 (some 11) (by assumption) ?_
  try simp only [Act.put, List.setIfInBounds_toArray, List.set_cons_zero, List.set_cons_succ]
  refine tky 4 (some 12) (by assumption) ?_
  try simp only [Act.put, List.setIfInBounds_toArray, List.set_cons_zero, List.set_cons_succ]
  refine tkn 5 (some 13) (by assumption) ?_
  try simp only [Act.put, List.setIfInBounds_toArray, List.set_cons_zero, List.set_cons_succ]
  refine tkn 6 (some 14) (by assumption) ?_
  try simp only [Act.put, List.setIfInBounds_toArray, List.set_cons_zero, List.set_cons_succ]
  refine tkn 7 (some 15) (by assumption) ?_
  try simp only [Act.put, List.setIfInBounds_toArray, List.set_cons_zero, List.set_cons_succ]
  refine tkn 8 (some 16) (by assumption) ?_
  try simp only [Act.put, List.setIfInBounds_toArray, List.set_cons_zero, List.set_cons_succ]
  refine tkn 9 (some 17) (by assumption) ?_
  try simp only [Act.put, List.setIfInBounds_toArray, List.set_cons_zero, List.set_cons_succ]
  refine tkn 10 (some 18) (by assumption) ?_
  try simp only [Act.put, List.setIfInBounds_toArray, List.set_cons_zero, List.set_cons_succ]
  refine tkn 11 (some 19) (by assumption) ?_
  try simp only [Act.put, List.setIfInBounds_toArray, List.set_cons_zero, List.set_cons_succ]
  refine tky 12 (some 20) (by assumption) ?_
  try simp only [Act.put, List.setIfInBounds_toArray, List.set_cons_zero, List.set_cons_succ]
  refine tky 13 (some 21) (by assumption) ?_
  try simp only [Act.put, List.setIfInBounds_toArray, List.set_cons_zero, List.set_cons_succ]
  refine tkn 14 (some 22) (by assumption) ?_
  try simp only [Act.put, List.setIfInBounds_toArray, List.set_cons_zero, List.set_cons_succ]
  refine tkn 15 (some 23) (by assumption) ?_
  try simp only [Act.put, List.setIfInBounds_toArray, List.set_cons_zero, List.set_cons_succ]
  refine tkn 16 (some 24) (by assumption) ?_
  try simp only [Act.put, List.setIfInBounds_toArray, List.set_cons_zero, List.set_cons_succ]
  refine tky 17 (some 25) (by assumption) ?_
  try simp only [Act.put, List.setIfInBounds_toArray, List.set_cons_zero, List.set_cons_succ]
  refine tky 18 (some 26) (by assumption) ?_
  try simp only [Act.put, List.setIfInBounds_toArray, List.set_cons_zero, List.set_cons_succ]
  refine tkn 19 (some 27) (by assumption) ?_
  try simp only [Act.put, List.setIfInBounds_toArray, List.set_cons_zero, List.set_cons_succ]
  refine tkn 20 (some 28) (by assumption) ?_
  try simp only [Act.put, List.setIfInBounds_toArray, List.set_cons_zero, List.set_cons_succ]
  refine tkn 21 (some 29) (by assumption) ?_
  try simp only [Act.put, List.setIfInBounds_toArray, List.set_cons_zero, List.set_cons_succ]
  refine tkn 22 (some 30) (by assumption) ?_
  try simp only [Act.put, List.setIfInBounds_toArray, List.set_cons_zero, List.set_cons_succ]
  refine tkn 23 (some 31) (by assumption) ?_
  try simp only [Act.put, List.setIfInBounds_toArray, List.set_cons_zero, List.set_cons_succ]
  refine tkn 24 (some 32) (by assumption) ?_
  try simp only [Act.put, List.setIfInBounds_toArray, List.set_cons_zero, List.set_cons_succ]
  refine tkn 25 (some 33) (by assumption) ?_
  try simp only [Act.put, List.setIfInBounds_toArray, List.set_cons_zero, List.set_cons_succ]
  refine tkn 26 (some 34) (by assumption) ?_
  try simp only [Act.put, List.setIfInBounds_toArray, List.set_cons_zero, List.set_cons_succ]
  refine tkn 27 (some 35) (by assumption) ?_
  try simp only [Act.put, List.setIfInBounds_toArray, List.set_cons_zero, List.set_cons_succ]
  refine tky 28 (some 36) (by assumption) ?_
  try simp only [Act.put, List.setIfInBounds_toArray, List.set_cons_zero, List.set_cons_succ]
  refine tky 29 (some 37) (by assumption) ?_
  try simp only [Act.put, List.setIfInBounds_toArray, List.set_cons_zero, List.set_cons_succ]
  refine tkn 30 (some 38) (by assumption) ?_
  try simp only [Act.put, List.setIfInBounds_toArray, List.set_cons_zero, List.set_cons_succ]
  refine tkn 31 (some 39) (by assumption) ?_
  try simp only [Act.put, List.setIfInBounds_toArray, List.set_cons_zero, List.set_cons_succ]
  refine tkn 32 (some 40) (by assumption) ?_
  try simp only [Act.put, List.setIfInBounds_toArray, List.set_cons_zero, List.set_cons_succ]
  refine tkn 33 (some 41) (by assumption) ?_
  try simp only [Act.put, List.setIfInBounds_toArray, List.set_cons_zero, List.set_cons_succ]
  refine tkn 34 (some 42) (by assumption) ?_
  try simp only [Act.put, List.setIfInBounds_toArray, List.set_cons_zero, List.set_cons_succ]
  refine tkn 35 (some 43) (by assumption) ?_
  try simp only [Act.put, List.setIfInBounds_toArray, List.set_cons_zero, List.set_cons_succ]
  refine tkn 36 (some 44) (by assumption) ?_
  try simp only [Act.put, List.setIfInBounds_toArray, List.set_cons_zero, List.set_cons_succ]
  refine tky 37 (some 45) (by assumption) ?_
  try simp only [Act.put, List.setIfInBounds_toArray, List.set_cons_zero, List.set_cons_succ]
  refine tky 38 (some 7) (by assumption) ?_
  try simp only [Act.put, List.setIfInBounds_toArray, List.set_cons_zero, List.set_cons_succ]
  refine wpAnyH_done (by kernel_rfl) ?_ _
  go_wp2_with fail
  go_ret
  exact ⟨rfl, ext_trans HB1.out (ext_drew (Below.refl _ _))⟩
set_option maxRecDepth 100000 in
set_option maxHeartbeats 2000000 in
theorem may_no1 (S : Nat → Prop) (b n codes : Nat) (group next clock : Int) (L : List Bkg) (q : Parts) (id seat til last : Int) (w : World) (h : BookAt S w b n codes group next clock L q) (c0 : decide (id ≤ last) = false) (c1 : decide (next ≤ id) = true) :
    Calls Tryz.prog 253 #[.pointer (some ⟨b, 0, none⟩), .agg #[.int .u32 id, .int .i64 seat, .int .i64 til], .int .u32 last] w fun e w' => e = .returned (.bool false) ∧ Below w.heap.size w w' := by
  have HH := Lib.hid h
  clear h
  go_enter Tryz.func253, Tryz.ntmps253
  go_wp2_with fail
  have hb1 : Below w.heap.size w (w.alloc (.cells #[.int .u32 id, .int .i64 seat, .int .i64 til] 258)) := ext_alloc (Below.refl _ _) _
  have hA1 : Arr (w.alloc (.cells #[.int .u32 id, .int .i64 seat, .int .i64 til] 258)) w.heap.size 258 #[.int .u32 id, .int .i64 seat, .int .i64 til] := Arr.fresh w _ _
  obtain ⟨w1, hw1⟩ : ∃ w1, w.alloc (.cells #[.int .u32 id, .int .i64 seat, .int .i64 til] 258) = w1 := ⟨_, rfl⟩
  obtain ⟨vb, hvb⟩ : ∃ vb, w.heap.size = vb := ⟨_, rfl⟩
  rw [hw1] at hb1 hA1 ⊢
  have HC1 := Lib.hid (HH.out.comp.below hb1)
  have HB1 := Lib.hid hb1
  clear hb1
  rw [hvb] at hA1 ⊢
  clear hw1 hvb
  have HCS : ∀ w', Below w1.heap.size w1 w' → (w'.cell? ⟨vb, 0, none⟩ = some (.int .u32 id) ∧ w'.cell? ⟨vb, 1, none⟩ = some (.int .i64 seat) ∧ w'.cell? ⟨vb, 2, none⟩ = some (.int .i64 til) ∧ w'.cell? ⟨b, 0, none⟩ = some (.int .i64 n) ∧ w'.cell? ⟨b, 4, none⟩ = some (.int .i64 clock) ∧ w'.cell? ⟨b, 5, none⟩ = some (.int .u32 next) ∧ w'.cell? ⟨b, 6, none⟩ = some (.pointer (some ⟨q.tp, 0, none⟩)) ∧ Below w1.heap.size w1 w') := fun w' hb => ⟨(hA1.keep hb).cell 0, (hA1.keep hb).cell 1, (hA1.keep hb).cell 2, (HC1.out.own.keep hb).cell 0, (HC1.out.own.keep hb).cell 4, (HC1.out.own.keep hb).cell 5, (HC1.out.own.keep hb).cell 6, hb⟩
  have HCS := Lib.hid HCS
  clear hA1
  refine wp_region_held_drew (S := (fun w' => w'.cell? ⟨vb, 0, none⟩ = some (.int .u32 id) ∧ w'.cell? ⟨vb, 1, none⟩ = some (.int .i64 seat) ∧ w'.cell? ⟨vb, 2, none⟩ = some (.int .i64 til) ∧ w'.cell? ⟨b, 0, none⟩ = some (.int .i64 n) ∧ w'.cell? ⟨b, 4, none⟩ = some (.int .i64 clock) ∧ w'.cell? ⟨b, 5, none⟩ = some (.int .u32 next) ∧ w'.cell? ⟨b, 6, none⟩ = some (.pointer (some ⟨q.tp, 0, none⟩)) ∧ Below w1.heap.size w1 w')) (by kernel_rfl) (by exact HCS.out _ (ext_drew (Below.refl _ _))) (fun hHeld => ?_)
  refine tky 0 (some 8) (by assumption) ?_
  try simp only [Act.put, List.setIfInBounds_toArray, List.set_cons_zero, List.set_cons_succ]
  refine tky 1 (some 9) (by assumption) ?_
  try simp only [Act.put, List.setIfInBounds_toArray, List.set_cons_zero, List.set_cons_succ]
  refine tky 2 (some 10) (by assumption) ?_
  try simp only [Act.put, List.setIfInBounds_toArray, List.set_cons_zero, List.set_cons_succ]
  refine tky 3 (some 11) (by assumption) ?_
  try simp only [Act.put, List.setIfInBounds_toArray, List.set_cons_zero, List.set_cons_succ]
  refine tky 4 (some 12) (by assumption) ?_
  try simp only [Act.put, List.setIfInBounds_toArray, List.set_cons_zero, List.set_cons_succ]
  refine tky 5 (some 13) (by assumption) ?_
  try simp only [Act.put, List.setIfInBounds_toArray, List.set_cons_zero, List.set_cons_succ]
  refine tky 6 (some 14) (by assumption) ?_
  try simp only [Act.put, List.setIfInBounds_toArray, List.set_cons_zero, List.set_cons_succ]
  refine tky 7 (some 15) (by assumption) ?_
  try simp only [Act.put, List.setIfInBounds_toArray, List.set_cons_zero, List.set_cons_succ]
  refine tky 8 (some 16) (by assumption) ?_
  try simp only [Act.put, List.setIfInBounds_toArray, List.set_cons_zero, List.set_cons_succ]
  refine tky 9 (some 17) (by assumption) ?_
  try simp only [Act.put, List.setIfInBounds_toArray, List.set_cons_zero, List.set_cons_succ]
  refine tky 10 (some 18) (by assumption) ?_
  try simp only [Act.put, List.setIfInBounds_toArray, List.set_cons_zero, List.set_cons_succ]
  refine tky 11 (some 19) (by assumption) ?_
  try simp only [Act.put, List.setIfInBounds_toArray, List.set_cons_zero, List.set_cons_succ]
  refine tky 12 (some 20) (by assumption) ?_
  try simp only [Act.put, List.setIfInBounds_toArray, List.set_cons_zero, List.set_cons_succ]
  refine tky 13 (some 21) (by assumption) ?_
  try simp only [Act.put, List.setIfInBounds_toArray, List.set_cons_zero, List.set_cons_succ]
  refine tkn 14 (some 22) (by assumption) ?_
  try simp only [Act.put, List.setIfInBounds_toArray, List.set_cons_zero, List.set_cons_succ]
  refine tkn 15 (some 23) (by assumption) ?_
  try simp only [Act.put, List.setIfInBounds_toArray, List.set_cons_zero, List.set_cons_succ]
  refine tkn 16 (some 24) (by assumption) ?_
  try simp only [Act.put, List.setIfInBounds_toArray, List.set_cons_zero, List.set_cons_succ]
  refine tky 17 (some 25) (by assumption) ?_
  try simp only [Act.put, List.setIfInBounds_toArray, List.set_cons_zero, List.set_cons_succ]
  refine tky 18 (some 26) (by assumption) ?_
  try simp only [Act.put, List.setIfInBounds_toArray, List.set_cons_zero, List.set_cons_succ]
  refine tkn 19 (some 27) (by assumption) ?_
  try simp only [Act.put, List.setIfInBounds_toArray, List.set_cons_zero, List.set_cons_succ]
  refine tkn 20 (some 28) (by assumption) ?_
  try simp only [Act.put, List.setIfInBounds_toArray, List.set_cons_zero, List.set_cons_succ]
  refine tkn 21 (some 29) (by assumption) ?_
  try simp only [Act.put, List.setIfInBounds_toArray, List.set_cons_zero, List.set_cons_succ]
  refine tkn 22 (some 30) (by assumption) ?_
  try simp only [Act.put, List.setIfInBounds_toArray, List.set_cons_zero, List.set_cons_succ]
  refine tkn 23 (some 31) (by assumption) ?_
  try simp only [Act.put, List.setIfInBounds_toArray, List.set_cons_zero, List.set_cons_succ]
  refine tkn 24 (some 32) (by assumption) ?_
  try simp only [Act.put, List.setIfInBounds_toArray, List.set_cons_zero, List.set_cons_succ]
  refine tkn 25 (some 33) (by assumption) ?_
  try simp only [Act.put, List.setIfInBounds_toArray, List.set_cons_zero, List.set_cons_succ]
  refine tkn 26 (some 34) (by assumption) ?_
  try simp only [Act.put, List.setIfInBounds_toArray, List.set_cons_zero, List.set_cons_succ]
  refine tkn 27 (some 35) (by assumption) ?_
  try simp only [Act.put, List.setIfInBounds_toArray, List.set_cons_zero, List.set_cons_succ]
  refine tky 28 (some 36) (by assumption) ?_
  try simp only [Act.put, List.setIfInBounds_toArray, List.set_cons_zero, List.set_cons_succ]
  refine tky 29 (some 37) (by assumption) ?_
  try simp only [Act.put, List.setIfInBounds_toArray, List.set_cons_zero, List.set_cons_succ]
  refine tkn 30 (some 38) (by assumption) ?_
  try simp only [Act.put, List.setIfInBounds_toArray, List.set_cons_zero, List.set_cons_succ]
  refine tkn 31 (some 39) (by assumption) ?_
  try simp only [Act.put, List.setIfInBounds_toArray, List.set_cons_zero, List.set_cons_succ]
  refine tkn 32 (some 40) (by assumption) ?_
  try simp only [Act.put, List.setIfInBounds_toArray, List.set_cons_zero, List.set_cons_succ]
  refine tkn 33 (some 41) (by assumption) ?_
  try simp only [Act.put, List.setIfInBounds_toArray, List.set_cons_zero, List.set_cons_succ]
  refine tkn 34 (some 42) (by assumption) ?_
  try simp only [Act.put, List.setIfInBounds_toArray, List.set_cons_zero, List.set_cons_succ]
  refine tkn 35 (some 43) (by assumption) ?_
  try simp only [Act.put, List.setIfInBounds_toArray, List.set_cons_zero, List.set_cons_succ]
  refine tkn 36 (some 44) (by assumption) ?_
  try simp only [Act.put, List.setIfInBounds_toArray, List.set_cons_zero, List.set_cons_succ]
  refine tky 37 (some 45) (by assumption) ?_
  try simp only [Act.put, List.setIfInBounds_toArray, List.set_cons_zero, List.set_cons_succ]
  refine tky 38 (some 7) (by assumption) ?_
  try simp only [Act.put, List.setIfInBounds_toArray, List.set_cons_zero, List.set_cons_succ]
  refine wpAnyH_done (by kernel_rfl) ?_ _
  go_wp2_with fail
  go_ret
  exact ⟨rfl, ext_trans HB1.out (ext_drew (Below.refl _ _))⟩
set_option maxRecDepth 100000 in
set_option maxHeartbeats 2000000 in
theorem may_no2 (S : Nat → Prop) (b n codes : Nat) (group next clock : Int) (L : List Bkg) (q : Parts) (id seat til last : Int) (w : World) (h : BookAt S w b n codes group next clock L q) (c0 : decide (id ≤ last) = false) (c1 : decide (next ≤ id) = false) (c2 : decide (seat < 0) = true) :
    Calls Tryz.prog 253 #[.pointer (some ⟨b, 0, none⟩), .agg #[.int .u32 id, .int .i64 seat, .int .i64 til], .int .u32 last] w fun e w' => e = .returned (.bool false) ∧ Below w.heap.size w w' := by
  have HH := Lib.hid h
  clear h
  go_enter Tryz.func253, Tryz.ntmps253
  go_wp2_with fail
  have hb1 : Below w.heap.size w (w.alloc (.cells #[.int .u32 id, .int .i64 seat, .int .i64 til] 258)) := ext_alloc (Below.refl _ _) _
  have hA1 : Arr (w.alloc (.cells #[.int .u32 id, .int .i64 seat, .int .i64 til] 258)) w.heap.size 258 #[.int .u32 id, .int .i64 seat, .int .i64 til] := Arr.fresh w _ _
  obtain ⟨w1, hw1⟩ : ∃ w1, w.alloc (.cells #[.int .u32 id, .int .i64 seat, .int .i64 til] 258) = w1 := ⟨_, rfl⟩
  obtain ⟨vb, hvb⟩ : ∃ vb, w.heap.size = vb := ⟨_, rfl⟩
  rw [hw1] at hb1 hA1 ⊢
  have HC1 := Lib.hid (HH.out.comp.below hb1)
  have HB1 := Lib.hid hb1
  clear hb1
  rw [hvb] at hA1 ⊢
  clear hw1 hvb
  have HCS : ∀ w', Below w1.heap.size w1 w' → (w'.cell? ⟨vb, 0, none⟩ = some (.int .u32 id) ∧ w'.cell? ⟨vb, 1, none⟩ = some (.int .i64 seat) ∧ w'.cell? ⟨vb, 2, none⟩ = some (.int .i64 til) ∧ w'.cell? ⟨b, 0, none⟩ = some (.int .i64 n) ∧ w'.cell? ⟨b, 4, none⟩ = some (.int .i64 clock) ∧ w'.cell? ⟨b, 5, none⟩ = some (.int .u32 next) ∧ w'.cell? ⟨b, 6, none⟩ = some (.pointer (some ⟨q.tp, 0, none⟩)) ∧ Below w1.heap.size w1 w') := fun w' hb => ⟨(hA1.keep hb).cell 0, (hA1.keep hb).cell 1, (hA1.keep hb).cell 2, (HC1.out.own.keep hb).cell 0, (HC1.out.own.keep hb).cell 4, (HC1.out.own.keep hb).cell 5, (HC1.out.own.keep hb).cell 6, hb⟩
  have HCS := Lib.hid HCS
  clear hA1
  refine wp_region_held_drew (S := (fun w' => w'.cell? ⟨vb, 0, none⟩ = some (.int .u32 id) ∧ w'.cell? ⟨vb, 1, none⟩ = some (.int .i64 seat) ∧ w'.cell? ⟨vb, 2, none⟩ = some (.int .i64 til) ∧ w'.cell? ⟨b, 0, none⟩ = some (.int .i64 n) ∧ w'.cell? ⟨b, 4, none⟩ = some (.int .i64 clock) ∧ w'.cell? ⟨b, 5, none⟩ = some (.int .u32 next) ∧ w'.cell? ⟨b, 6, none⟩ = some (.pointer (some ⟨q.tp, 0, none⟩)) ∧ Below w1.heap.size w1 w')) (by kernel_rfl) (by exact HCS.out _ (ext_drew (Below.refl _ _))) (fun hHeld => ?_)
  refine tky 0 (some 8) (by assumption) ?_
  try simp only [Act.put, List.setIfInBounds_toArray, List.set_cons_zero, List.set_cons_succ]
  refine tky 1 (some 9) (by assumption) ?_
  try simp only [Act.put, List.setIfInBounds_toArray, List.set_cons_zero, List.set_cons_succ]
  refine tky 2 (some 10) (by assumption) ?_
  try simp only [Act.put, List.setIfInBounds_toArray, List.set_cons_zero, List.set_cons_succ]
  refine tky 3 (some 11) (by assumption) ?_
  try simp only [Act.put, List.setIfInBounds_toArray, List.set_cons_zero, List.set_cons_succ]
  refine tky 4 (some 12) (by assumption) ?_
  try simp only [Act.put, List.setIfInBounds_toArray, List.set_cons_zero, List.set_cons_succ]
  refine tky 5 (some 13) (by assumption) ?_
  try simp only [Act.put, List.setIfInBounds_toArray, List.set_cons_zero, List.set_cons_succ]
  refine tky 6 (some 14) (by assumption) ?_
  try simp only [Act.put, List.setIfInBounds_toArray, List.set_cons_zero, List.set_cons_succ]
  refine tky 7 (some 15) (by assumption) ?_
  try simp only [Act.put, List.setIfInBounds_toArray, List.set_cons_zero, List.set_cons_succ]
  refine tky 8 (some 16) (by assumption) ?_
  try simp only [Act.put, List.setIfInBounds_toArray, List.set_cons_zero, List.set_cons_succ]
  refine tky 9 (some 17) (by assumption) ?_
  try simp only [Act.put, List.setIfInBounds_toArray, List.set_cons_zero, List.set_cons_succ]
  refine tky 10 (some 18) (by assumption) ?_
  try simp only [Act.put, List.setIfInBounds_toArray, List.set_cons_zero, List.set_cons_succ]
  refine tky 11 (some 19) (by assumption) ?_
  try simp only [Act.put, List.setIfInBounds_toArray, List.set_cons_zero, List.set_cons_succ]
  refine tky 12 (some 20) (by assumption) ?_
  try simp only [Act.put, List.setIfInBounds_toArray, List.set_cons_zero, List.set_cons_succ]
  refine tky 13 (some 21) (by assumption) ?_
  try simp only [Act.put, List.setIfInBounds_toArray, List.set_cons_zero, List.set_cons_succ]
  refine tky 14 (some 22) (by assumption) ?_
  try simp only [Act.put, List.setIfInBounds_toArray, List.set_cons_zero, List.set_cons_succ]
  refine tky 15 (some 23) (by assumption) ?_
  try simp only [Act.put, List.setIfInBounds_toArray, List.set_cons_zero, List.set_cons_succ]
  refine tky 16 (some 24) (by assumption) ?_
  try simp only [Act.put, List.setIfInBounds_toArray, List.set_cons_zero, List.set_cons_succ]
  refine tky 17 (some 25) (by assumption) ?_
  try simp only [Act.put, List.setIfInBounds_toArray, List.set_cons_zero, List.set_cons_succ]
  refine tky 18 (some 26) (by assumption) ?_
  try simp only [Act.put, List.setIfInBounds_toArray, List.set_cons_zero, List.set_cons_succ]
  refine tkn 19 (some 27) (by assumption) ?_
  try simp only [Act.put, List.setIfInBounds_toArray, List.set_cons_zero, List.set_cons_succ]
  refine tkn 20 (some 28) (by assumption) ?_
  try simp only [Act.put, List.setIfInBounds_toArray, List.set_cons_zero, List.set_cons_succ]
  refine tkn 21 (some 29) (by assumption) ?_
  try simp only [Act.put, List.setIfInBounds_toArray, List.set_cons_zero, List.set_cons_succ]
  refine tkn 22 (some 30) (by assumption) ?_
  try simp only [Act.put, List.setIfInBounds_toArray, List.set_cons_zero, List.set_cons_succ]
  refine tkn 23 (some 31) (by assumption) ?_
  try simp only [Act.put, List.setIfInBounds_toArray, List.set_cons_zero, List.set_cons_succ]
  refine tkn 24 (some 32) (by assumption) ?_
  try simp only [Act.put, List.setIfInBounds_toArray, List.set_cons_zero, List.set_cons_succ]
  refine tkn 25 (some 33) (by assumption) ?_
  try simp only [Act.put, List.setIfInBounds_toArray, List.set_cons_zero, List.set_cons_succ]
  refine tkn 26 (some 34) (by assumption) ?_
  try simp only [Act.put, List.setIfInBounds_toArray, List.set_cons_zero, List.set_cons_succ]
  refine tkn 27 (some 35) (by assumption) ?_
  try simp only [Act.put, List.setIfInBounds_toArray, List.set_cons_zero, List.set_cons_succ]
  refine tky 28 (some 36) (by assumption) ?_
  try simp only [Act.put, List.setIfInBounds_toArray, List.set_cons_zero, List.set_cons_succ]
  refine tky 29 (some 37) (by assumption) ?_
  try simp only [Act.put, List.setIfInBounds_toArray, List.set_cons_zero, List.set_cons_succ]
  refine tkn 30 (some 38) (by assumption) ?_
  try simp only [Act.put, List.setIfInBounds_toArray, List.set_cons_zero, List.set_cons_succ]
  refine tkn 31 (some 39) (by assumption) ?_
  try simp only [Act.put, List.setIfInBounds_toArray, List.set_cons_zero, List.set_cons_succ]
  refine tkn 32 (some 40) (by assumption) ?_
  try simp only [Act.put, List.setIfInBounds_toArray, List.set_cons_zero, List.set_cons_succ]
  refine tkn 33 (some 41) (by assumption) ?_
  try simp only [Act.put, List.setIfInBounds_toArray, List.set_cons_zero, List.set_cons_succ]
  refine tkn 34 (some 42) (by assumption) ?_
  try simp only [Act.put, List.setIfInBounds_toArray, List.set_cons_zero, List.set_cons_succ]
  refine tkn 35 (some 43) (by assumption) ?_
  try simp only [Act.put, List.setIfInBounds_toArray, List.set_cons_zero, List.set_cons_succ]
  refine tkn 36 (some 44) (by assumption) ?_
  try simp only [Act.put, List.setIfInBounds_toArray, List.set_cons_zero, List.set_cons_succ]
  refine tky 37 (some 45) (by assumption) ?_
  try simp only [Act.put, List.setIfInBounds_toArray, List.set_cons_zero, List.set_cons_succ]
  refine tky 38 (some 7) (by assumption) ?_
  try simp only [Act.put, List.setIfInBounds_toArray, List.set_cons_zero, List.set_cons_succ]
  refine wpAnyH_done (by kernel_rfl) ?_ _
  go_wp2_with fail
  go_ret
  exact ⟨rfl, ext_trans HB1.out (ext_drew (Below.refl _ _))⟩
set_option maxRecDepth 100000 in
set_option maxHeartbeats 2000000 in
theorem may_no3 (S : Nat → Prop) (b n codes : Nat) (group next clock : Int) (L : List Bkg) (q : Parts) (id seat til last : Int) (w : World) (h : BookAt S w b n codes group next clock L q) (c0 : decide (id ≤ last) = false) (c1 : decide (next ≤ id) = false) (c2 : decide (seat < 0) = false) (c3 : decide ((n : Int) ≤ seat) = true) :
    Calls Tryz.prog 253 #[.pointer (some ⟨b, 0, none⟩), .agg #[.int .u32 id, .int .i64 seat, .int .i64 til], .int .u32 last] w fun e w' => e = .returned (.bool false) ∧ Below w.heap.size w w' := by
  have HH := Lib.hid h
  clear h
  go_enter Tryz.func253, Tryz.ntmps253
  go_wp2_with fail
  have hb1 : Below w.heap.size w (w.alloc (.cells #[.int .u32 id, .int .i64 seat, .int .i64 til] 258)) := ext_alloc (Below.refl _ _) _
  have hA1 : Arr (w.alloc (.cells #[.int .u32 id, .int .i64 seat, .int .i64 til] 258)) w.heap.size 258 #[.int .u32 id, .int .i64 seat, .int .i64 til] := Arr.fresh w _ _
  obtain ⟨w1, hw1⟩ : ∃ w1, w.alloc (.cells #[.int .u32 id, .int .i64 seat, .int .i64 til] 258) = w1 := ⟨_, rfl⟩
  obtain ⟨vb, hvb⟩ : ∃ vb, w.heap.size = vb := ⟨_, rfl⟩
  rw [hw1] at hb1 hA1 ⊢
  have HC1 := Lib.hid (HH.out.comp.below hb1)
  have HB1 := Lib.hid hb1
  clear hb1
  rw [hvb] at hA1 ⊢
  clear hw1 hvb
  have HCS : ∀ w', Below w1.heap.size w1 w' → (w'.cell? ⟨vb, 0, none⟩ = some (.int .u32 id) ∧ w'.cell? ⟨vb, 1, none⟩ = some (.int .i64 seat) ∧ w'.cell? ⟨vb, 2, none⟩ = some (.int .i64 til) ∧ w'.cell? ⟨b, 0, none⟩ = some (.int .i64 n) ∧ w'.cell? ⟨b, 4, none⟩ = some (.int .i64 clock) ∧ w'.cell? ⟨b, 5, none⟩ = some (.int .u32 next) ∧ w'.cell? ⟨b, 6, none⟩ = some (.pointer (some ⟨q.tp, 0, none⟩)) ∧ Below w1.heap.size w1 w') := fun w' hb => ⟨(hA1.keep hb).cell 0, (hA1.keep hb).cell 1, (hA1.keep hb).cell 2, (HC1.out.own.keep hb).cell 0, (HC1.out.own.keep hb).cell 4, (HC1.out.own.keep hb).cell 5, (HC1.out.own.keep hb).cell 6, hb⟩
  have HCS := Lib.hid HCS
  clear hA1
  refine wp_region_held_drew (S := (fun w' => w'.cell? ⟨vb, 0, none⟩ = some (.int .u32 id) ∧ w'.cell? ⟨vb, 1, none⟩ = some (.int .i64 seat) ∧ w'.cell? ⟨vb, 2, none⟩ = some (.int .i64 til) ∧ w'.cell? ⟨b, 0, none⟩ = some (.int .i64 n) ∧ w'.cell? ⟨b, 4, none⟩ = some (.int .i64 clock) ∧ w'.cell? ⟨b, 5, none⟩ = some (.int .u32 next) ∧ w'.cell? ⟨b, 6, none⟩ = some (.pointer (some ⟨q.tp, 0, none⟩)) ∧ Below w1.heap.size w1 w')) (by kernel_rfl) (by exact HCS.out _ (ext_drew (Below.refl _ _))) (fun hHeld => ?_)
  refine tky 0 (some 8) (by assumption) ?_
  try simp only [Act.put, List.setIfInBounds_toArray, List.set_cons_zero, List.set_cons_succ]
  refine tky 1 (some 9) (by assumption) ?_
  try simp only [Act.put, List.setIfInBounds_toArray, List.set_cons_zero, List.set_cons_succ]
  refine tky 2 (some 10) (by assumption) ?_
  try simp only [Act.put, List.setIfInBounds_toArray, List.set_cons_zero, List.set_cons_succ]
  refine tky 3 (some 11) (by assumption) ?_
  try simp only [Act.put, List.setIfInBounds_toArray, List.set_cons_zero, List.set_cons_succ]
  refine tky 4 (some 12) (by assumption) ?_
  try simp only [Act.put, List.setIfInBounds_toArray, List.set_cons_zero, List.set_cons_succ]
  refine tky 5 (some 13) (by assumption) ?_
  try simp only [Act.put, List.setIfInBounds_toArray, List.set_cons_zero, List.set_cons_succ]
  refine tky 6 (some 14) (by assumption) ?_
  try simp only [Act.put, List.setIfInBounds_toArray, List.set_cons_zero, List.set_cons_succ]
  refine tky 7 (some 15) (by assumption) ?_
  try simp only [Act.put, List.setIfInBounds_toArray, List.set_cons_zero, List.set_cons_succ]
  refine tky 8 (some 16) (by assumption) ?_
  try simp only [Act.put, List.setIfInBounds_toArray, List.set_cons_zero, List.set_cons_succ]
  refine tky 9 (some 17) (by assumption) ?_
  try simp only [Act.put, List.setIfInBounds_toArray, List.set_cons_zero, List.set_cons_succ]
  refine tky 10 (some 18) (by assumption) ?_
  try simp only [Act.put, List.setIfInBounds_toArray, List.set_cons_zero, List.set_cons_succ]
  refine tky 11 (some 19) (by assumption) ?_
  try simp only [Act.put, List.setIfInBounds_toArray, List.set_cons_zero, List.set_cons_succ]
  refine tky 12 (some 20) (by assumption) ?_
  try simp only [Act.put, List.setIfInBounds_toArray, List.set_cons_zero, List.set_cons_succ]
  refine tky 13 (some 21) (by assumption) ?_
  try simp only [Act.put, List.setIfInBounds_toArray, List.set_cons_zero, List.set_cons_succ]
  refine tky 14 (some 22) (by assumption) ?_
  try simp only [Act.put, List.setIfInBounds_toArray, List.set_cons_zero, List.set_cons_succ]
  refine tky 15 (some 23) (by assumption) ?_
  try simp only [Act.put, List.setIfInBounds_toArray, List.set_cons_zero, List.set_cons_succ]
  refine tky 16 (some 24) (by assumption) ?_
  try simp only [Act.put, List.setIfInBounds_toArray, List.set_cons_zero, List.set_cons_succ]
  refine tky 17 (some 25) (by assumption) ?_
  try simp only [Act.put, List.setIfInBounds_toArray, List.set_cons_zero, List.set_cons_succ]
  refine tky 18 (some 26) (by assumption) ?_
  try simp only [Act.put, List.setIfInBounds_toArray, List.set_cons_zero, List.set_cons_succ]
  refine tky 19 (some 27) (by assumption) ?_
  try simp only [Act.put, List.setIfInBounds_toArray, List.set_cons_zero, List.set_cons_succ]
  refine tky 20 (some 28) (by assumption) ?_
  try simp only [Act.put, List.setIfInBounds_toArray, List.set_cons_zero, List.set_cons_succ]
  refine tky 21 (some 29) (by assumption) ?_
  try simp only [Act.put, List.setIfInBounds_toArray, List.set_cons_zero, List.set_cons_succ]
  refine tky 22 (some 30) (by assumption) ?_
  try simp only [Act.put, List.setIfInBounds_toArray, List.set_cons_zero, List.set_cons_succ]
  refine tky 23 (some 31) (by assumption) ?_
  try simp only [Act.put, List.setIfInBounds_toArray, List.set_cons_zero, List.set_cons_succ]
  refine tky 24 (some 32) (by assumption) ?_
  try simp only [Act.put, List.setIfInBounds_toArray, List.set_cons_zero, List.set_cons_succ]
  refine tky 25 (some 33) (by assumption) ?_
  try simp only [Act.put, List.setIfInBounds_toArray, List.set_cons_zero, List.set_cons_succ]
  refine tky 26 (some 34) (by assumption) ?_
  try simp only [Act.put, List.setIfInBounds_toArray, List.set_cons_zero, List.set_cons_succ]
  refine tky 27 (some 35) (by assumption) ?_
  try simp only [Act.put, List.setIfInBounds_toArray, List.set_cons_zero, List.set_cons_succ]
  refine tky 28 (some 36) (by assumption) ?_
  try simp only [Act.put, List.setIfInBounds_toArray, List.set_cons_zero, List.set_cons_succ]
  refine tky 29 (some 37) (by assumption) ?_
  try simp only [Act.put, List.setIfInBounds_toArray, List.set_cons_zero, List.set_cons_succ]
  refine tkn 30 (some 38) (by assumption) ?_
  try simp only [Act.put, List.setIfInBounds_toArray, List.set_cons_zero, List.set_cons_succ]
  refine tkn 31 (some 39) (by assumption) ?_
  try simp only [Act.put, List.setIfInBounds_toArray, List.set_cons_zero, List.set_cons_succ]
  refine tkn 32 (some 40) (by assumption) ?_
  try simp only [Act.put, List.setIfInBounds_toArray, List.set_cons_zero, List.set_cons_succ]
  refine tkn 33 (some 41) (by assumption) ?_
  try simp only [Act.put, List.setIfInBounds_toArray, List.set_cons_zero, List.set_cons_succ]
  refine tkn 34 (some 42) (by assumption) ?_
  try simp only [Act.put, List.setIfInBounds_toArray, List.set_cons_zero, List.set_cons_succ]
  refine tkn 35 (some 43) (by assumption) ?_
  try simp only [Act.put, List.setIfInBounds_toArray, List.set_cons_zero, List.set_cons_succ]
  refine tkn 36 (some 44) (by assumption) ?_
  try simp only [Act.put, List.setIfInBounds_toArray, List.set_cons_zero, List.set_cons_succ]
  refine tky 37 (some 45) (by assumption) ?_
  try simp only [Act.put, List.setIfInBounds_toArray, List.set_cons_zero, List.set_cons_succ]
  refine tky 38 (some 7) (by assumption) ?_
  try simp only [Act.put, List.setIfInBounds_toArray, List.set_cons_zero, List.set_cons_succ]
  refine wpAnyH_done (by kernel_rfl) ?_ _
  go_wp2_with fail
  go_ret
  exact ⟨rfl, ext_trans HB1.out (ext_drew (Below.refl _ _))⟩
set_option maxRecDepth 100000 in
set_option maxHeartbeats 2000000 in
theorem may_taken (S : Nat → Prop) (b n codes : Nat) (group next clock : Int) (L : List Bkg) (q : Parts) (id til last : Int) (i : Nat) (w : World) (h : BookAt S w b n codes group next clock L q) (c0 : decide (id ≤ last) = false) (c1 : decide (next ≤ id) = false) (hi : i < n) (hv : hasB q.ws i = true) :
    Calls Tryz.prog 253 #[.pointer (some ⟨b, 0, none⟩), .agg #[.int .u32 id, .int .i64 (i : Int), .int .i64 til], .int .u32 last] w fun e w' => e = .returned (.bool false) ∧ Below w.heap.size w w' := by
  have hn4 : n ≤ 1024 := h.small.2.2.2.2
  have c2 : decide ((i : Int) < 0) = false := decide_eq_false (by omega)
  have c3 : decide ((n : Int) ≤ (i : Int)) = false := decide_eq_false (by omega)
  have c3n : decide (n ≤ i) = false := decide_eq_false (by omega)
  have HHV := Lib.hid hv
  clear hv
  have HH := Lib.hid h
  clear h
  go_enter Tryz.func253, Tryz.ntmps253
  go_wp2_with fail
  have hb1 : Below w.heap.size w (w.alloc (.cells #[.int .u32 id, .int .i64 (i : Int), .int .i64 til] 258)) := ext_alloc (Below.refl _ _) _
  have hA1 : Arr (w.alloc (.cells #[.int .u32 id, .int .i64 (i : Int), .int .i64 til] 258)) w.heap.size 258 #[.int .u32 id, .int .i64 (i : Int), .int .i64 til] := Arr.fresh w _ _
  obtain ⟨w1, hw1⟩ : ∃ w1, w.alloc (.cells #[.int .u32 id, .int .i64 (i : Int), .int .i64 til] 258) = w1 := ⟨_, rfl⟩
  obtain ⟨vb, hvb⟩ : ∃ vb, w.heap.size = vb := ⟨_, rfl⟩
  rw [hw1] at hb1 hA1 ⊢
  have HC1 := Lib.hid (HH.out.comp.below hb1)
  have HB1 := Lib.hid hb1
  clear hb1
  rw [hvb] at hA1 ⊢
  clear hw1 hvb
  have HCS : ∀ w', Below w1.heap.size w1 w' → (w'.cell? ⟨vb, 0, none⟩ = some (.int .u32 id) ∧ w'.cell? ⟨vb, 1, none⟩ = some (.int .i64 (i : Int)) ∧ w'.cell? ⟨vb, 2, none⟩ = some (.int .i64 til) ∧ w'.cell? ⟨b, 0, none⟩ = some (.int .i64 n) ∧ w'.cell? ⟨b, 4, none⟩ = some (.int .i64 clock) ∧ w'.cell? ⟨b, 5, none⟩ = some (.int .u32 next) ∧ w'.cell? ⟨b, 6, none⟩ = some (.pointer (some ⟨q.tp, 0, none⟩)) ∧ Below w1.heap.size w1 w') := fun w' hb => ⟨(hA1.keep hb).cell 0, (hA1.keep hb).cell 1, (hA1.keep hb).cell 2, (HC1.out.own.keep hb).cell 0, (HC1.out.own.keep hb).cell 4, (HC1.out.own.keep hb).cell 5, (HC1.out.own.keep hb).cell 6, hb⟩
  have HCS := Lib.hid HCS
  clear hA1
  refine wp_region_held_drew (S := (fun w' => w'.cell? ⟨vb, 0, none⟩ = some (.int .u32 id) ∧ w'.cell? ⟨vb, 1, none⟩ = some (.int .i64 (i : Int)) ∧ w'.cell? ⟨vb, 2, none⟩ = some (.int .i64 til) ∧ w'.cell? ⟨b, 0, none⟩ = some (.int .i64 n) ∧ w'.cell? ⟨b, 4, none⟩ = some (.int .i64 clock) ∧ w'.cell? ⟨b, 5, none⟩ = some (.int .u32 next) ∧ w'.cell? ⟨b, 6, none⟩ = some (.pointer (some ⟨q.tp, 0, none⟩)) ∧ Below w1.heap.size w1 w')) (by kernel_rfl) (by exact HCS.out _ (ext_drew (Below.refl _ _))) (fun hHeld => ?_)
  refine tky 0 (some 8) (by assumption) ?_
  try simp only [Act.put, List.setIfInBounds_toArray, List.set_cons_zero, List.set_cons_succ]
  refine tky 1 (some 9) (by assumption) ?_
  try simp only [Act.put, List.setIfInBounds_toArray, List.set_cons_zero, List.set_cons_succ]
  refine tky 2 (some 10) (by assumption) ?_
  try simp only [Act.put, List.setIfInBounds_toArray, List.set_cons_zero, List.set_cons_succ]
  refine tky 3 (some 11) (by assumption) ?_
  try simp only [Act.put, List.setIfInBounds_toArray, List.set_cons_zero, List.set_cons_succ]
  refine tky 4 (some 12) (by assumption) ?_
  try simp only [Act.put, List.setIfInBounds_toArray, List.set_cons_zero, List.set_cons_succ]
  refine tky 5 (some 13) (by assumption) ?_
  try simp only [Act.put, List.setIfInBounds_toArray, List.set_cons_zero, List.set_cons_succ]
  refine tky 6 (some 14) (by assumption) ?_
  try simp only [Act.put, List.setIfInBounds_toArray, List.set_cons_zero, List.set_cons_succ]
  refine tky 7 (some 15) (by assumption) ?_
  try simp only [Act.put, List.setIfInBounds_toArray, List.set_cons_zero, List.set_cons_succ]
  refine tky 8 (some 16) (by assumption) ?_
  try simp only [Act.put, List.setIfInBounds_toArray, List.set_cons_zero, List.set_cons_succ]
  refine tky 9 (some 17) (by assumption) ?_
  try simp only [Act.put, List.setIfInBounds_toArray, List.set_cons_zero, List.set_cons_succ]
  refine tky 10 (some 18) (by assumption) ?_
  try simp only [Act.put, List.setIfInBounds_toArray, List.set_cons_zero, List.set_cons_succ]
  refine tky 11 (some 19) (by assumption) ?_
  try simp only [Act.put, List.setIfInBounds_toArray, List.set_cons_zero, List.set_cons_succ]
  refine tky 12 (some 20) (by assumption) ?_
  try simp only [Act.put, List.setIfInBounds_toArray, List.set_cons_zero, List.set_cons_succ]
  refine tky 13 (some 21) (by assumption) ?_
  try simp only [Act.put, List.setIfInBounds_toArray, List.set_cons_zero, List.set_cons_succ]
  refine tky 14 (some 22) (by assumption) ?_
  try simp only [Act.put, List.setIfInBounds_toArray, List.set_cons_zero, List.set_cons_succ]
  refine tky 15 (some 23) (by assumption) ?_
  try simp only [Act.put, List.setIfInBounds_toArray, List.set_cons_zero, List.set_cons_succ]
  refine tky 16 (some 24) (by assumption) ?_
  try simp only [Act.put, List.setIfInBounds_toArray, List.set_cons_zero, List.set_cons_succ]
  refine tky 17 (some 25) (by assumption) ?_
  try simp only [Act.put, List.setIfInBounds_toArray, List.set_cons_zero, List.set_cons_succ]
  refine tky 18 (some 26) (by assumption) ?_
  try simp only [Act.put, List.setIfInBounds_toArray, List.set_cons_zero, List.set_cons_succ]
  refine tky 19 (some 27) (by assumption) ?_
  try simp only [Act.put, List.setIfInBounds_toArray, List.set_cons_zero, List.set_cons_succ]
  refine tky 20 (some 28) (by assumption) ?_
  try simp only [Act.put, List.setIfInBounds_toArray, List.set_cons_zero, List.set_cons_succ]
  refine tky 21 (some 29) (by assumption) ?_
  try simp only [Act.put, List.setIfInBounds_toArray, List.set_cons_zero, List.set_cons_succ]
  refine tky 22 (some 30) (by assumption) ?_
  try simp only [Act.put, List.setIfInBounds_toArray, List.set_cons_zero, List.set_cons_succ]
  refine tky 23 (some 31) (by assumption) ?_
  try simp only [Act.put, List.setIfInBounds_toArray, List.set_cons_zero, List.set_cons_succ]
  refine tky 24 (some 32) (by assumption) ?_
  try simp only [Act.put, List.setIfInBounds_toArray, List.set_cons_zero, List.set_cons_succ]
  refine tky 25 (some 33) (by assumption) ?_
  try simp only [Act.put, List.setIfInBounds_toArray, List.set_cons_zero, List.set_cons_succ]
  refine tky 26 (some 34) (by assumption) ?_
  try simp only [Act.put, List.setIfInBounds_toArray, List.set_cons_zero, List.set_cons_succ]
  refine tky 27 (some 35) (by assumption) ?_
  try simp only [Act.put, List.setIfInBounds_toArray, List.set_cons_zero, List.set_cons_succ]
  refine tky 28 (some 36) (by assumption) ?_
  try simp only [Act.put, List.setIfInBounds_toArray, List.set_cons_zero, List.set_cons_succ]
  refine tky 29 (some 37) (by assumption) ?_
  try simp only [Act.put, List.setIfInBounds_toArray, List.set_cons_zero, List.set_cons_succ]
  refine tky 30 (some 38) (by assumption) ?_
  try simp only [Act.put, List.setIfInBounds_toArray, List.set_cons_zero, List.set_cons_succ]
  refine tky 31 (some 39) (by assumption) ?_
  try simp only [Act.put, List.setIfInBounds_toArray, List.set_cons_zero, List.set_cons_succ]
  refine tky 32 (some 40) (by assumption) ?_
  try simp only [Act.put, List.setIfInBounds_toArray, List.set_cons_zero, List.set_cons_succ]
  refine tky 33 (some 41) (by assumption) ?_
  try simp only [Act.put, List.setIfInBounds_toArray, List.set_cons_zero, List.set_cons_succ]
  refine tky 34 (some 42) (by assumption) ?_
  try simp only [Act.put, List.setIfInBounds_toArray, List.set_cons_zero, List.set_cons_succ]
  refine tky 35 (some 43) (by assumption) ?_
  try simp only [Act.put, List.setIfInBounds_toArray, List.set_cons_zero, List.set_cons_succ]
  refine wpAnyH_ready (rs := [36]) (by kernel_rfl) (by simp) ?_
  refine AllReadyH.cons rfl (fun K hK => ?_) AllReadyH.nil
  go_simp
  go_at_call 212
  refine (Bit.Has_in q.tp q.tg q.tc n i q.ws _ (HC1.out.below (ext_drew (Below.refl _ _))).taken hi (by omega)).mono ?_
  rintro e w3 ⟨rfl, hw3⟩
  rw [hw3, HHV.out]
  clear hw3 w3
  go_wp2_with fail
  refine hK.out _ _ (by first | assumption) (fun hHeld36 => ?_)
  clear hK K
  try simp only [Act.put, List.setIfInBounds_toArray, List.set_cons_zero, List.set_cons_succ]
  refine tky 37 (some 45) (by assumption) ?_
  try simp only [Act.put, List.setIfInBounds_toArray, List.set_cons_zero, List.set_cons_succ]
  refine tky 38 (some 7) (by assumption) ?_
  try simp only [Act.put, List.setIfInBounds_toArray, List.set_cons_zero, List.set_cons_succ]
  refine wpAnyH_done (by kernel_rfl) ?_ _
  go_wp2_with fail
  go_ret
  exact ⟨rfl, ext_trans HB1.out (by first | exact ext_drew (Below.refl _ _) | exact ext_drew (ext_drew (Below.refl _ _)))⟩
set_option maxRecDepth 100000 in
set_option maxHeartbeats 2000000 in
theorem may_zero (S : Nat → Prop) (b n codes : Nat) (group next clock : Int) (L : List Bkg) (q : Parts) (id til last : Int) (i : Nat) (w : World) (h : BookAt S w b n codes group next clock L q) (c0 : decide (id ≤ last) = false) (c1 : decide (next ≤ id) = false) (hi : i < n) (hv : hasB q.ws i = false) (c6 : (til == 0) = true) :
    Calls Tryz.prog 253 #[.pointer (some ⟨b, 0, none⟩), .agg #[.int .u32 id, .int .i64 (i : Int), .int .i64 til], .int .u32 last] w fun e w' => e = .returned (.bool true) ∧ Below w.heap.size w w' := by
  have hn4 : n ≤ 1024 := h.small.2.2.2.2
  have c2 : decide ((i : Int) < 0) = false := decide_eq_false (by omega)
  have c3 : decide ((n : Int) ≤ (i : Int)) = false := decide_eq_false (by omega)
  have c3n : decide (n ≤ i) = false := decide_eq_false (by omega)
  have HHV := Lib.hid hv
  clear hv
  have HH := Lib.hid h
  clear h
  go_enter Tryz.func253, Tryz.ntmps253
  go_wp2_with fail
  have hb1 : Below w.heap.size w (w.alloc (.cells #[.int .u32 id, .int .i64 (i : Int), .int .i64 til] 258)) := ext_alloc (Below.refl _ _) _
  have hA1 : Arr (w.alloc (.cells #[.int .u32 id, .int .i64 (i : Int), .int .i64 til] 258)) w.heap.size 258 #[.int .u32 id, .int .i64 (i : Int), .int .i64 til] := Arr.fresh w _ _
  obtain ⟨w1, hw1⟩ : ∃ w1, w.alloc (.cells #[.int .u32 id, .int .i64 (i : Int), .int .i64 til] 258) = w1 := ⟨_, rfl⟩
  obtain ⟨vb, hvb⟩ : ∃ vb, w.heap.size = vb := ⟨_, rfl⟩
  rw [hw1] at hb1 hA1 ⊢
  have HC1 := Lib.hid (HH.out.comp.below hb1)
  have HB1 := Lib.hid hb1
  clear hb1
  rw [hvb] at hA1 ⊢
  clear hw1 hvb
  have HCS : ∀ w', Below w1.heap.size w1 w' → (w'.cell? ⟨vb, 0, none⟩ = some (.int .u32 id) ∧ w'.cell? ⟨vb, 1, none⟩ = some (.int .i64 (i : Int)) ∧ w'.cell? ⟨vb, 2, none⟩ = some (.int .i64 til) ∧ w'.cell? ⟨b, 0, none⟩ = some (.int .i64 n) ∧ w'.cell? ⟨b, 4, none⟩ = some (.int .i64 clock) ∧ w'.cell? ⟨b, 5, none⟩ = some (.int .u32 next) ∧ w'.cell? ⟨b, 6, none⟩ = some (.pointer (some ⟨q.tp, 0, none⟩)) ∧ Below w1.heap.size w1 w') := fun w' hb => ⟨(hA1.keep hb).cell 0, (hA1.keep hb).cell 1, (hA1.keep hb).cell 2, (HC1.out.own.keep hb).cell 0, (HC1.out.own.keep hb).cell 4, (HC1.out.own.keep hb).cell 5, (HC1.out.own.keep hb).cell 6, hb⟩
  have HCS := Lib.hid HCS
  clear hA1
  refine wp_region_held_drew (S := (fun w' => w'.cell? ⟨vb, 0, none⟩ = some (.int .u32 id) ∧ w'.cell? ⟨vb, 1, none⟩ = some (.int .i64 (i : Int)) ∧ w'.cell? ⟨vb, 2, none⟩ = some (.int .i64 til) ∧ w'.cell? ⟨b, 0, none⟩ = some (.int .i64 n) ∧ w'.cell? ⟨b, 4, none⟩ = some (.int .i64 clock) ∧ w'.cell? ⟨b, 5, none⟩ = some (.int .u32 next) ∧ w'.cell? ⟨b, 6, none⟩ = some (.pointer (some ⟨q.tp, 0, none⟩)) ∧ Below w1.heap.size w1 w')) (by kernel_rfl) (by exact HCS.out _ (ext_drew (Below.refl _ _))) (fun hHeld => ?_)
  refine tky 0 (some 8) (by assumption) ?_
  try simp only [Act.put, List.setIfInBounds_toArray, List.set_cons_zero, List.set_cons_succ]
  refine tky 1 (some 9) (by assumption) ?_
  try simp only [Act.put, List.setIfInBounds_toArray, List.set_cons_zero, List.set_cons_succ]
  refine tky 2 (some 10) (by assumption) ?_
  try simp only [Act.put, List.setIfInBounds_toArray, List.set_cons_zero, List.set_cons_succ]
  refine tky 3 (some 11) (by assumption) ?_
  try simp only [Act.put, List.setIfInBounds_toArray, List.set_cons_zero, List.set_cons_succ]
  refine tky 4 (some 12) (by assumption) ?_
  try simp only [Act.put, List.setIfInBounds_toArray, List.set_cons_zero, List.set_cons_succ]
  refine tky 5 (some 13) (by assumption) ?_
  try simp only [Act.put, List.setIfInBounds_toArray, List.set_cons_zero, List.set_cons_succ]
  refine tky 6 (some 14) (by assumption) ?_
  try simp only [Act.put, List.setIfInBounds_toArray, List.set_cons_zero, List.set_cons_succ]
  refine tky 7 (some 15) (by assumption) ?_
  try simp only [Act.put, List.setIfInBounds_toArray, List.set_cons_zero, List.set_cons_succ]
  refine tky 8 (some 16) (by assumption) ?_
  try simp only [Act.put, List.setIfInBounds_toArray, List.set_cons_zero, List.set_cons_succ]
  refine tky 9 (some 17) (by assumption) ?_
  try simp only [Act.put, List.setIfInBounds_toArray, List.set_cons_zero, List.set_cons_succ]
  refine tky 10 (some 18) (by assumption) ?_
  try simp only [Act.put, List.setIfInBounds_toArray, List.set_cons_zero, List.set_cons_succ]
  refine tky 11 (some 19) (by assumption) ?_
  try simp only [Act.put, List.setIfInBounds_toArray, List.set_cons_zero, List.set_cons_succ]
  refine tky 12 (some 20) (by assumption) ?_
  try simp only [Act.put, List.setIfInBounds_toArray, List.set_cons_zero, List.set_cons_succ]
  refine tky 13 (some 21) (by assumption) ?_
  try simp only [Act.put, List.setIfInBounds_toArray, List.set_cons_zero, List.set_cons_succ]
  refine tky 14 (some 22) (by assumption) ?_
  try simp only [Act.put, List.setIfInBounds_toArray, List.set_cons_zero, List.set_cons_succ]
  refine tky 15 (some 23) (by assumption) ?_
  try simp only [Act.put, List.setIfInBounds_toArray, List.set_cons_zero, List.set_cons_succ]
  refine tky 16 (some 24) (by assumption) ?_
  try simp only [Act.put, List.setIfInBounds_toArray, List.set_cons_zero, List.set_cons_succ]
  refine tky 17 (some 25) (by assumption) ?_
  try simp only [Act.put, List.setIfInBounds_toArray, List.set_cons_zero, List.set_cons_succ]
  refine tky 18 (some 26) (by assumption) ?_
  try simp only [Act.put, List.setIfInBounds_toArray, List.set_cons_zero, List.set_cons_succ]
  refine tky 19 (some 27) (by assumption) ?_
  try simp only [Act.put, List.setIfInBounds_toArray, List.set_cons_zero, List.set_cons_succ]
  refine tky 20 (some 28) (by assumption) ?_
  try simp only [Act.put, List.setIfInBounds_toArray, List.set_cons_zero, List.set_cons_succ]
  refine tky 21 (some 29) (by assumption) ?_
  try simp only [Act.put, List.setIfInBounds_toArray, List.set_cons_zero, List.set_cons_succ]
  refine tky 22 (some 30) (by assumption) ?_
  try simp only [Act.put, List.setIfInBounds_toArray, List.set_cons_zero, List.set_cons_succ]
  refine tky 23 (some 31) (by assumption) ?_
  try simp only [Act.put, List.setIfInBounds_toArray, List.set_cons_zero, List.set_cons_succ]
  refine tky 24 (some 32) (by assumption) ?_
  try simp only [Act.put, List.setIfInBounds_toArray, List.set_cons_zero, List.set_cons_succ]
  refine tky 25 (some 33) (by assumption) ?_
  try simp only [Act.put, List.setIfInBounds_toArray, List.set_cons_zero, List.set_cons_succ]
  refine tky 26 (some 34) (by assumption) ?_
  try simp only [Act.put, List.setIfInBounds_toArray, List.set_cons_zero, List.set_cons_succ]
  refine tky 27 (some 35) (by assumption) ?_
  try simp only [Act.put, List.setIfInBounds_toArray, List.set_cons_zero, List.set_cons_succ]
  refine tky 28 (some 36) (by assumption) ?_
  try simp only [Act.put, List.setIfInBounds_toArray, List.set_cons_zero, List.set_cons_succ]
  refine tky 29 (some 37) (by assumption) ?_
  try simp only [Act.put, List.setIfInBounds_toArray, List.set_cons_zero, List.set_cons_succ]
  refine tky 30 (some 38) (by assumption) ?_
  try simp only [Act.put, List.setIfInBounds_toArray, List.set_cons_zero, List.set_cons_succ]
  refine tky 31 (some 39) (by assumption) ?_
  try simp only [Act.put, List.setIfInBounds_toArray, List.set_cons_zero, List.set_cons_succ]
  refine tky 32 (some 40) (by assumption) ?_
  try simp only [Act.put, List.setIfInBounds_toArray, List.set_cons_zero, List.set_cons_succ]
  refine tky 33 (some 41) (by assumption) ?_
  try simp only [Act.put, List.setIfInBounds_toArray, List.set_cons_zero, List.set_cons_succ]
  refine tky 34 (some 42) (by assumption) ?_
  try simp only [Act.put, List.setIfInBounds_toArray, List.set_cons_zero, List.set_cons_succ]
  refine tky 35 (some 43) (by assumption) ?_
  try simp only [Act.put, List.setIfInBounds_toArray, List.set_cons_zero, List.set_cons_succ]
  refine wpAnyH_ready (rs := [36]) (by kernel_rfl) (by simp) ?_
  refine AllReadyH.cons rfl (fun K hK => ?_) AllReadyH.nil
  go_simp
  go_at_call 212
  refine (Bit.Has_in q.tp q.tg q.tc n i q.ws _ (HC1.out.below (ext_drew (Below.refl _ _))).taken hi (by omega)).mono ?_
  rintro e w3 ⟨rfl, hw3⟩
  rw [hw3, HHV.out]
  clear hw3 w3
  go_wp2_with fail
  refine hK.out _ _ (by first | assumption) (fun hHeld36 => ?_)
  clear hK K
  try simp only [Act.put, List.setIfInBounds_toArray, List.set_cons_zero, List.set_cons_succ]
  refine tky 37 (some 45) (by assumption) ?_
  try simp only [Act.put, List.setIfInBounds_toArray, List.set_cons_zero, List.set_cons_succ]
  refine tky 38 (some 7) (by assumption) ?_
  try simp only [Act.put, List.setIfInBounds_toArray, List.set_cons_zero, List.set_cons_succ]
  refine wpAnyH_done (by kernel_rfl) ?_ _
  go_wp2_with fail
  go_ret
  exact ⟨rfl, ext_trans HB1.out (by first | exact ext_drew (Below.refl _ _) | exact ext_drew (ext_drew (Below.refl _ _)))⟩
set_option maxRecDepth 100000 in
set_option maxHeartbeats 2000000 in
theorem may_past (S : Nat → Prop) (b n codes : Nat) (group next clock : Int) (L : List Bkg) (q : Parts) (id til last : Int) (i : Nat) (w : World) (h : BookAt S w b n codes group next clock L q) (c0 : decide (id ≤ last) = false) (c1 : decide (next ≤ id) = false) (hi : i < n) (hv : hasB q.ws i = false) (c6 : (til == 0) = false) (c7 : decide (clock < til) = false) :
    Calls Tryz.prog 253 #[.pointer (some ⟨b, 0, none⟩), .agg #[.int .u32 id, .int .i64 (i : Int), .int .i64 til], .int .u32 last] w fun e w' => e = .returned (.bool false) ∧ Below w.heap.size w w' := by
  have hn4 : n ≤ 1024 := h.small.2.2.2.2
  have c2 : decide ((i : Int) < 0) = false := decide_eq_false (by omega)
  have c3 : decide ((n : Int) ≤ (i : Int)) = false := decide_eq_false (by omega)
  have c3n : decide (n ≤ i) = false := decide_eq_false (by omega)
  have HHV := Lib.hid hv
  clear hv
  have HH := Lib.hid h
  clear h
  go_enter Tryz.func253, Tryz.ntmps253
  go_wp2_with fail
  have hb1 : Below w.heap.size w (w.alloc (.cells #[.int .u32 id, .int .i64 (i : Int), .int .i64 til] 258)) := ext_alloc (Below.refl _ _) _
  have hA1 : Arr (w.alloc (.cells #[.int .u32 id, .int .i64 (i : Int), .int .i64 til] 258)) w.heap.size 258 #[.int .u32 id, .int .i64 (i : Int), .int .i64 til] := Arr.fresh w _ _
  obtain ⟨w1, hw1⟩ : ∃ w1, w.alloc (.cells #[.int .u32 id, .int .i64 (i : Int), .int .i64 til] 258) = w1 := ⟨_, rfl⟩
  obtain ⟨vb, hvb⟩ : ∃ vb, w.heap.size = vb := ⟨_, rfl⟩
  rw [hw1] at hb1 hA1 ⊢
  have HC1 := Lib.hid (HH.out.comp.below hb1)
  have HB1 := Lib.hid hb1
  clear hb1
  rw [hvb] at hA1 ⊢
  clear hw1 hvb
  have HCS : ∀ w', Below w1.heap.size w1 w' → (w'.cell? ⟨vb, 0, none⟩ = some (.int .u32 id) ∧ w'.cell? ⟨vb, 1, none⟩ = some (.int .i64 (i : Int)) ∧ w'.cell? ⟨vb, 2, none⟩ = some (.int .i64 til) ∧ w'.cell? ⟨b, 0, none⟩ = some (.int .i64 n) ∧ w'.cell? ⟨b, 4, none⟩ = some (.int .i64 clock) ∧ w'.cell? ⟨b, 5, none⟩ = some (.int .u32 next) ∧ w'.cell? ⟨b, 6, none⟩ = some (.pointer (some ⟨q.tp, 0, none⟩)) ∧ Below w1.heap.size w1 w') := fun w' hb => ⟨(hA1.keep hb).cell 0, (hA1.keep hb).cell 1, (hA1.keep hb).cell 2, (HC1.out.own.keep hb).cell 0, (HC1.out.own.keep hb).cell 4, (HC1.out.own.keep hb).cell 5, (HC1.out.own.keep hb).cell 6, hb⟩
  have HCS := Lib.hid HCS
  clear hA1
  refine wp_region_held_drew (S := (fun w' => w'.cell? ⟨vb, 0, none⟩ = some (.int .u32 id) ∧ w'.cell? ⟨vb, 1, none⟩ = some (.int .i64 (i : Int)) ∧ w'.cell? ⟨vb, 2, none⟩ = some (.int .i64 til) ∧ w'.cell? ⟨b, 0, none⟩ = some (.int .i64 n) ∧ w'.cell? ⟨b, 4, none⟩ = some (.int .i64 clock) ∧ w'.cell? ⟨b, 5, none⟩ = some (.int .u32 next) ∧ w'.cell? ⟨b, 6, none⟩ = some (.pointer (some ⟨q.tp, 0, none⟩)) ∧ Below w1.heap.size w1 w')) (by kernel_rfl) (by exact HCS.out _ (ext_drew (Below.refl _ _))) (fun hHeld => ?_)
  refine tky 0 (some 8) (by assumption) ?_
  try simp only [Act.put, List.setIfInBounds_toArray, List.set_cons_zero, List.set_cons_succ]
  refine tky 1 (some 9) (by assumption) ?_
  try simp only [Act.put, List.setIfInBounds_toArray, List.set_cons_zero, List.set_cons_succ]
  refine tky 2 (some 10) (by assumption) ?_
  try simp only [Act.put, List.setIfInBounds_toArray, List.set_cons_zero, List.set_cons_succ]
  refine tky 3 (some 11) (by assumption) ?_
  try simp only [Act.put, List.setIfInBounds_toArray, List.set_cons_zero, List.set_cons_succ]
  refine tky 4 (some 12) (by assumption) ?_
  try simp only [Act.put, List.setIfInBounds_toArray, List.set_cons_zero, List.set_cons_succ]
  refine tky 5 (some 13) (by assumption) ?_
  try simp only [Act.put, List.setIfInBounds_toArray, List.set_cons_zero, List.set_cons_succ]
  refine tky 6 (some 14) (by assumption) ?_
  try simp only [Act.put, List.setIfInBounds_toArray, List.set_cons_zero, List.set_cons_succ]
  refine tky 7 (some 15) (by assumption) ?_
  try simp only [Act.put, List.setIfInBounds_toArray, List.set_cons_zero, List.set_cons_succ]
  refine tky 8 (some 16) (by assumption) ?_
  try simp only [Act.put, List.setIfInBounds_toArray, List.set_cons_zero, List.set_cons_succ]
  refine tky 9 (some 17) (by assumption) ?_
  try simp only [Act.put, List.setIfInBounds_toArray, List.set_cons_zero, List.set_cons_succ]
  refine tky 10 (some 18) (by assumption) ?_
  try simp only [Act.put, List.setIfInBounds_toArray, List.set_cons_zero, List.set_cons_succ]
  refine tky 11 (some 19) (by assumption) ?_
  try simp only [Act.put, List.setIfInBounds_toArray, List.set_cons_zero, List.set_cons_succ]
  refine tky 12 (some 20) (by assumption) ?_
  try simp only [Act.put, List.setIfInBounds_toArray, List.set_cons_zero, List.set_cons_succ]
  refine tky 13 (some 21) (by assumption) ?_
  try simp only [Act.put, List.setIfInBounds_toArray, List.set_cons_zero, List.set_cons_succ]
  refine tky 14 (some 22) (by assumption) ?_
  try simp only [Act.put, List.setIfInBounds_toArray, List.set_cons_zero, List.set_cons_succ]
  refine tky 15 (some 23) (by assumption) ?_
  try simp only [Act.put, List.setIfInBounds_toArray, List.set_cons_zero, List.set_cons_succ]
  refine tky 16 (some 24) (by assumption) ?_
  try simp only [Act.put, List.setIfInBounds_toArray, List.set_cons_zero, List.set_cons_succ]
  refine tky 17 (some 25) (by assumption) ?_
  try simp only [Act.put, List.setIfInBounds_toArray, List.set_cons_zero, List.set_cons_succ]
  refine tky 18 (some 26) (by assumption) ?_
  try simp only [Act.put, List.setIfInBounds_toArray, List.set_cons_zero, List.set_cons_succ]
  refine tky 19 (some 27) (by assumption) ?_
  try simp only [Act.put, List.setIfInBounds_toArray, List.set_cons_zero, List.set_cons_succ]
  refine tky 20 (some 28) (by assumption) ?_
  try simp only [Act.put, List.setIfInBounds_toArray, List.set_cons_zero, List.set_cons_succ]
  refine tky 21 (some 29) (by assumption) ?_
  try simp only [Act.put, List.setIfInBounds_toArray, List.set_cons_zero, List.set_cons_succ]
  refine tky 22 (some 30) (by assumption) ?_
  try simp only [Act.put, List.setIfInBounds_toArray, List.set_cons_zero, List.set_cons_succ]
  refine tky 23 (some 31) (by assumption) ?_
  try simp only [Act.put, List.setIfInBounds_toArray, List.set_cons_zero, List.set_cons_succ]
  refine tky 24 (some 32) (by assumption) ?_
  try simp only [Act.put, List.setIfInBounds_toArray, List.set_cons_zero, List.set_cons_succ]
  refine tky 25 (some 33) (by assumption) ?_
  try simp only [Act.put, List.setIfInBounds_toArray, List.set_cons_zero, List.set_cons_succ]
  refine tky 26 (some 34) (by assumption) ?_
  try simp only [Act.put, List.setIfInBounds_toArray, List.set_cons_zero, List.set_cons_succ]
  refine tky 27 (some 35) (by assumption) ?_
  try simp only [Act.put, List.setIfInBounds_toArray, List.set_cons_zero, List.set_cons_succ]
  refine tky 28 (some 36) (by assumption) ?_
  try simp only [Act.put, List.setIfInBounds_toArray, List.set_cons_zero, List.set_cons_succ]
  refine tky 29 (some 37) (by assumption) ?_
  try simp only [Act.put, List.setIfInBounds_toArray, List.set_cons_zero, List.set_cons_succ]
  refine tky 30 (some 38) (by assumption) ?_
  try simp only [Act.put, List.setIfInBounds_toArray, List.set_cons_zero, List.set_cons_succ]
  refine tky 31 (some 39) (by assumption) ?_
  try simp only [Act.put, List.setIfInBounds_toArray, List.set_cons_zero, List.set_cons_succ]
  refine tky 32 (some 40) (by assumption) ?_
  try simp only [Act.put, List.setIfInBounds_toArray, List.set_cons_zero, List.set_cons_succ]
  refine tky 33 (some 41) (by assumption) ?_
  try simp only [Act.put, List.setIfInBounds_toArray, List.set_cons_zero, List.set_cons_succ]
  refine tky 34 (some 42) (by assumption) ?_
  try simp only [Act.put, List.setIfInBounds_toArray, List.set_cons_zero, List.set_cons_succ]
  refine tky 35 (some 43) (by assumption) ?_
  try simp only [Act.put, List.setIfInBounds_toArray, List.set_cons_zero, List.set_cons_succ]
  refine wpAnyH_ready (rs := [36]) (by kernel_rfl) (by simp) ?_
  refine AllReadyH.cons rfl (fun K hK => ?_) AllReadyH.nil
  go_simp
  go_at_call 212
  refine (Bit.Has_in q.tp q.tg q.tc n i q.ws _ (HC1.out.below (ext_drew (Below.refl _ _))).taken hi (by omega)).mono ?_
  rintro e w3 ⟨rfl, hw3⟩
  rw [hw3, HHV.out]
  clear hw3 w3
  go_wp2_with fail
  refine hK.out _ _ (by first | assumption) (fun hHeld36 => ?_)
  clear hK K
  try simp only [Act.put, List.setIfInBounds_toArray, List.set_cons_zero, List.set_cons_succ]
  refine tky 37 (some 45) (by assumption) ?_
  try simp only [Act.put, List.setIfInBounds_toArray, List.set_cons_zero, List.set_cons_succ]
  refine tky 38 (some 7) (by assumption) ?_
  try simp only [Act.put, List.setIfInBounds_toArray, List.set_cons_zero, List.set_cons_succ]
  refine wpAnyH_done (by kernel_rfl) ?_ _
  go_wp2_with fail
  refine wp_region_held_drew (S := (fun w' => w'.cell? ⟨vb, 0, none⟩ = some (.int .u32 id) ∧ w'.cell? ⟨vb, 1, none⟩ = some (.int .i64 (i : Int)) ∧ w'.cell? ⟨vb, 2, none⟩ = some (.int .i64 til) ∧ w'.cell? ⟨b, 0, none⟩ = some (.int .i64 n) ∧ w'.cell? ⟨b, 4, none⟩ = some (.int .i64 clock) ∧ w'.cell? ⟨b, 5, none⟩ = some (.int .u32 next) ∧ w'.cell? ⟨b, 6, none⟩ = some (.pointer (some ⟨q.tp, 0, none⟩)) ∧ Below w1.heap.size w1 w')) (by kernel_rfl) (by exact HCS.out _ (ext_drew (ext_drew (Below.refl _ _)))) (fun hHeld => ?_)
  refine tky 0 (some 50) (by assumption) ?_
  try simp only [Act.put, List.setIfInBounds_toArray, List.set_cons_zero, List.set_cons_succ]
  refine tky 1 (some 51) (by assumption) ?_
  try simp only [Act.put, List.setIfInBounds_toArray, List.set_cons_zero, List.set_cons_succ]
  refine tky 2 (some 52) (by assumption) ?_
  try simp only [Act.put, List.setIfInBounds_toArray, List.set_cons_zero, List.set_cons_succ]
  refine tky 3 (some 53) (by assumption) ?_
  try simp only [Act.put, List.setIfInBounds_toArray, List.set_cons_zero, List.set_cons_succ]
  refine tky 4 (some 54) (by assumption) ?_
  try simp only [Act.put, List.setIfInBounds_toArray, List.set_cons_zero, List.set_cons_succ]
  refine tky 5 (some 55) (by assumption) ?_
  try simp only [Act.put, List.setIfInBounds_toArray, List.set_cons_zero, List.set_cons_succ]
  refine tky 6 (some 56) (by assumption) ?_
  try simp only [Act.put, List.setIfInBounds_toArray, List.set_cons_zero, List.set_cons_succ]
  refine tky 7 (some 57) (by assumption) ?_
  try simp only [Act.put, List.setIfInBounds_toArray, List.set_cons_zero, List.set_cons_succ]
  refine tkn 8 (some 58) (by assumption) ?_
  try simp only [Act.put, List.setIfInBounds_toArray, List.set_cons_zero, List.set_cons_succ]
  refine tkn 9 (some 59) (by assumption) ?_
  try simp only [Act.put, List.setIfInBounds_toArray, List.set_cons_zero, List.set_cons_succ]
  refine tkn 10 (some 60) (by assumption) ?_
  try simp only [Act.put, List.setIfInBounds_toArray, List.set_cons_zero, List.set_cons_succ]
  refine tky 11 (some 61) (by assumption) ?_
  try simp only [Act.put, List.setIfInBounds_toArray, List.set_cons_zero, List.set_cons_succ]
  refine tky 12 (some 6) (by assumption) ?_
  try simp only [Act.put, List.setIfInBounds_toArray, List.set_cons_zero, List.set_cons_succ]
  refine wpAnyH_done (by kernel_rfl) ?_ _
  go_wp2_with fail
  go_ret
  exact ⟨rfl, ext_trans HB1.out (by first | exact ext_drew (Below.refl _ _) | exact ext_drew (ext_drew (Below.refl _ _)))⟩
set_option maxRecDepth 100000 in
set_option maxHeartbeats 2000000 in
theorem may_late (S : Nat → Prop) (b n codes : Nat) (group next clock : Int) (L : List Bkg) (q : Parts) (id til last : Int) (i : Nat) (w : World) (h : BookAt S w b n codes group next clock L q) (c0 : decide (id ≤ last) = false) (c1 : decide (next ≤ id) = false) (hi : i < n) (hv : hasB q.ws i = false) (c6 : (til == 0) = false) (c7 : decide (clock < til) = true) (c8 : decide (til ≤ 1099511627776) = false) :
    Calls Tryz.prog 253 #[.pointer (some ⟨b, 0, none⟩), .agg #[.int .u32 id, .int .i64 (i : Int), .int .i64 til], .int .u32 last] w fun e w' => e = .returned (.bool false) ∧ Below w.heap.size w w' := by
  have hn4 : n ≤ 1024 := h.small.2.2.2.2
  have c2 : decide ((i : Int) < 0) = false := decide_eq_false (by omega)
  have c3 : decide ((n : Int) ≤ (i : Int)) = false := decide_eq_false (by omega)
  have c3n : decide (n ≤ i) = false := decide_eq_false (by omega)
  have HHV := Lib.hid hv
  clear hv
  have HH := Lib.hid h
  clear h
  go_enter Tryz.func253, Tryz.ntmps253
  go_wp2_with fail
  have hb1 : Below w.heap.size w (w.alloc (.cells #[.int .u32 id, .int .i64 (i : Int), .int .i64 til] 258)) := ext_alloc (Below.refl _ _) _
  have hA1 : Arr (w.alloc (.cells #[.int .u32 id, .int .i64 (i : Int), .int .i64 til] 258)) w.heap.size 258 #[.int .u32 id, .int .i64 (i : Int), .int .i64 til] := Arr.fresh w _ _
  obtain ⟨w1, hw1⟩ : ∃ w1, w.alloc (.cells #[.int .u32 id, .int .i64 (i : Int), .int .i64 til] 258) = w1 := ⟨_, rfl⟩
  obtain ⟨vb, hvb⟩ : ∃ vb, w.heap.size = vb := ⟨_, rfl⟩
  rw [hw1] at hb1 hA1 ⊢
  have HC1 := Lib.hid (HH.out.comp.below hb1)
  have HB1 := Lib.hid hb1
  clear hb1
  rw [hvb] at hA1 ⊢
  clear hw1 hvb
  have HCS : ∀ w', Below w1.heap.size w1 w' → (w'.cell? ⟨vb, 0, none⟩ = some (.int .u32 id) ∧ w'.cell? ⟨vb, 1, none⟩ = some (.int .i64 (i : Int)) ∧ w'.cell? ⟨vb, 2, none⟩ = some (.int .i64 til) ∧ w'.cell? ⟨b, 0, none⟩ = some (.int .i64 n) ∧ w'.cell? ⟨b, 4, none⟩ = some (.int .i64 clock) ∧ w'.cell? ⟨b, 5, none⟩ = some (.int .u32 next) ∧ w'.cell? ⟨b, 6, none⟩ = some (.pointer (some ⟨q.tp, 0, none⟩)) ∧ Below w1.heap.size w1 w') := fun w' hb => ⟨(hA1.keep hb).cell 0, (hA1.keep hb).cell 1, (hA1.keep hb).cell 2, (HC1.out.own.keep hb).cell 0, (HC1.out.own.keep hb).cell 4, (HC1.out.own.keep hb).cell 5, (HC1.out.own.keep hb).cell 6, hb⟩
  have HCS := Lib.hid HCS
  clear hA1
  refine wp_region_held_drew (S := (fun w' => w'.cell? ⟨vb, 0, none⟩ = some (.int .u32 id) ∧ w'.cell? ⟨vb, 1, none⟩ = some (.int .i64 (i : Int)) ∧ w'.cell? ⟨vb, 2, none⟩ = some (.int .i64 til) ∧ w'.cell? ⟨b, 0, none⟩ = some (.int .i64 n) ∧ w'.cell? ⟨b, 4, none⟩ = some (.int .i64 clock) ∧ w'.cell? ⟨b, 5, none⟩ = some (.int .u32 next) ∧ w'.cell? ⟨b, 6, none⟩ = some (.pointer (some ⟨q.tp, 0, none⟩)) ∧ Below w1.heap.size w1 w')) (by kernel_rfl) (by exact HCS.out _ (ext_drew (Below.refl _ _))) (fun hHeld => ?_)
  refine tky 0 (some 8) (by assumption) ?_
  try simp only [Act.put, List.setIfInBounds_toArray, List.set_cons_zero, List.set_cons_succ]
  refine tky 1 (some 9) (by assumption) ?_
  try simp only [Act.put, List.setIfInBounds_toArray, List.set_cons_zero, List.set_cons_succ]
  refine tky 2 (some 10) (by assumption) ?_
  try simp only [Act.put, List.setIfInBounds_toArray, List.set_cons_zero, List.set_cons_succ]
  refine tky 3 (some 11) (by assumption) ?_
  try simp only [Act.put, List.setIfInBounds_toArray, List.set_cons_zero, List.set_cons_succ]
  refine tky 4 (some 12) (by assumption) ?_
  try simp only [Act.put, List.setIfInBounds_toArray, List.set_cons_zero, List.set_cons_succ]
  refine tky 5 (some 13) (by assumption) ?_
  try simp only [Act.put, List.setIfInBounds_toArray, List.set_cons_zero, List.set_cons_succ]
  refine tky 6 (some 14) (by assumption) ?_
  try simp only [Act.put, List.setIfInBounds_toArray, List.set_cons_zero, List.set_cons_succ]
  refine tky 7 (some 15) (by assumption) ?_
  try simp only [Act.put, List.setIfInBounds_toArray, List.set_cons_zero, List.set_cons_succ]
  refine tky 8 (some 16) (by assumption) ?_
  try simp only [Act.put, List.setIfInBounds_toArray, List.set_cons_zero, List.set_cons_succ]
  refine tky 9 (some 17) (by assumption) ?_
  try simp only [Act.put, List.setIfInBounds_toArray, List.set_cons_zero, List.set_cons_succ]
  refine tky 10 (some 18) (by assumption) ?_
  try simp only [Act.put, List.setIfInBounds_toArray, List.set_cons_zero, List.set_cons_succ]
  refine tky 11 (some 19) (by assumption) ?_
  try simp only [Act.put, List.setIfInBounds_toArray, List.set_cons_zero, List.set_cons_succ]
  refine tky 12 (some 20) (by assumption) ?_
  try simp only [Act.put, List.setIfInBounds_toArray, List.set_cons_zero, List.set_cons_succ]
  refine tky 13 (some 21) (by assumption) ?_
  try simp only [Act.put, List.setIfInBounds_toArray, List.set_cons_zero, List.set_cons_succ]
  refine tky 14 (some 22) (by assumption) ?_
  try simp only [Act.put, List.setIfInBounds_toArray, List.set_cons_zero, List.set_cons_succ]
  refine tky 15 (some 23) (by assumption) ?_
  try simp only [Act.put, List.setIfInBounds_toArray, List.set_cons_zero, List.set_cons_succ]
  refine tky 16 (some 24) (by assumption) ?_
  try simp only [Act.put, List.setIfInBounds_toArray, List.set_cons_zero, List.set_cons_succ]
  refine tky 17 (some 25) (by assumption) ?_
  try simp only [Act.put, List.setIfInBounds_toArray, List.set_cons_zero, List.set_cons_succ]
  refine tky 18 (some 26) (by assumption) ?_
  try simp only [Act.put, List.setIfInBounds_toArray, List.set_cons_zero, List.set_cons_succ]
  refine tky 19 (some 27) (by assumption) ?_
  try simp only [Act.put, List.setIfInBounds_toArray, List.set_cons_zero, List.set_cons_succ]
  refine tky 20 (some 28) (by assumption) ?_
  try simp only [Act.put, List.setIfInBounds_toArray, List.set_cons_zero, List.set_cons_succ]
  refine tky 21 (some 29) (by assumption) ?_
  try simp only [Act.put, List.setIfInBounds_toArray, List.set_cons_zero, List.set_cons_succ]
  refine tky 22 (some 30) (by assumption) ?_
  try simp only [Act.put, List.setIfInBounds_toArray, List.set_cons_zero, List.set_cons_succ]
  refine tky 23 (some 31) (by assumption) ?_
  try simp only [Act.put, List.setIfInBounds_toArray, List.set_cons_zero, List.set_cons_succ]
  refine tky 24 (some 32) (by assumption) ?_
  try simp only [Act.put, List.setIfInBounds_toArray, List.set_cons_zero, List.set_cons_succ]
  refine tky 25 (some 33) (by assumption) ?_
  try simp only [Act.put, List.setIfInBounds_toArray, List.set_cons_zero, List.set_cons_succ]
  refine tky 26 (some 34) (by assumption) ?_
  try simp only [Act.put, List.setIfInBounds_toArray, List.set_cons_zero, List.set_cons_succ]
  refine tky 27 (some 35) (by assumption) ?_
  try simp only [Act.put, List.setIfInBounds_toArray, List.set_cons_zero, List.set_cons_succ]
  refine tky 28 (some 36) (by assumption) ?_
  try simp only [Act.put, List.setIfInBounds_toArray, List.set_cons_zero, List.set_cons_succ]
  refine tky 29 (some 37) (by assumption) ?_
  try simp only [Act.put, List.setIfInBounds_toArray, List.set_cons_zero, List.set_cons_succ]
  refine tky 30 (some 38) (by assumption) ?_
  try simp only [Act.put, List.setIfInBounds_toArray, List.set_cons_zero, List.set_cons_succ]
  refine tky 31 (some 39) (by assumption) ?_
  try simp only [Act.put, List.setIfInBounds_toArray, List.set_cons_zero, List.set_cons_succ]
  refine tky 32 (some 40) (by assumption) ?_
  try simp only [Act.put, List.setIfInBounds_toArray, List.set_cons_zero, List.set_cons_succ]
  refine tky 33 (some 41) (by assumption) ?_
  try simp only [Act.put, List.setIfInBounds_toArray, List.set_cons_zero, List.set_cons_succ]
  refine tky 34 (some 42) (by assumption) ?_
  try simp only [Act.put, List.setIfInBounds_toArray, List.set_cons_zero, List.set_cons_succ]
  refine tky 35 (some 43) (by assumption) ?_
  try simp only [Act.put, List.setIfInBounds_toArray, List.set_cons_zero, List.set_cons_succ]
  refine wpAnyH_ready (rs := [36]) (by kernel_rfl) (by simp) ?_
  refine AllReadyH.cons rfl (fun K hK => ?_) AllReadyH.nil
  go_simp
  go_at_call 212
  refine (Bit.Has_in q.tp q.tg q.tc n i q.ws _ (HC1.out.below (ext_drew (Below.refl _ _))).taken hi (by omega)).mono ?_
  rintro e w3 ⟨rfl, hw3⟩
  rw [hw3, HHV.out]
  clear hw3 w3
  go_wp2_with fail
  refine hK.out _ _ (by first | assumption) (fun hHeld36 => ?_)
  clear hK K
  try simp only [Act.put, List.setIfInBounds_toArray, List.set_cons_zero, List.set_cons_succ]
  refine tky 37 (some 45) (by assumption) ?_
  try simp only [Act.put, List.setIfInBounds_toArray, List.set_cons_zero, List.set_cons_succ]
  refine tky 38 (some 7) (by assumption) ?_
  try simp only [Act.put, List.setIfInBounds_toArray, List.set_cons_zero, List.set_cons_succ]
  refine wpAnyH_done (by kernel_rfl) ?_ _
  go_wp2_with fail
  refine wp_region_held_drew (S := (fun w' => w'.cell? ⟨vb, 0, none⟩ = some (.int .u32 id) ∧ w'.cell? ⟨vb, 1, none⟩ = some (.int .i64 (i : Int)) ∧ w'.cell? ⟨vb, 2, none⟩ = some (.int .i64 til) ∧ w'.cell? ⟨b, 0, none⟩ = some (.int .i64 n) ∧ w'.cell? ⟨b, 4, none⟩ = some (.int .i64 clock) ∧ w'.cell? ⟨b, 5, none⟩ = some (.int .u32 next) ∧ w'.cell? ⟨b, 6, none⟩ = some (.pointer (some ⟨q.tp, 0, none⟩)) ∧ Below w1.heap.size w1 w')) (by kernel_rfl) (by exact HCS.out _ (ext_drew (ext_drew (Below.refl _ _)))) (fun hHeld => ?_)
  refine tky 0 (some 50) (by assumption) ?_
  try simp only [Act.put, List.setIfInBounds_toArray, List.set_cons_zero, List.set_cons_succ]
  refine tky 1 (some 51) (by assumption) ?_
  try simp only [Act.put, List.setIfInBounds_toArray, List.set_cons_zero, List.set_cons_succ]
  refine tky 2 (some 52) (by assumption) ?_
  try simp only [Act.put, List.setIfInBounds_toArray, List.set_cons_zero, List.set_cons_succ]
  refine tky 3 (some 53) (by assumption) ?_
  try simp only [Act.put, List.setIfInBounds_toArray, List.set_cons_zero, List.set_cons_succ]
  refine tky 4 (some 54) (by assumption) ?_
  try simp only [Act.put, List.setIfInBounds_toArray, List.set_cons_zero, List.set_cons_succ]
  refine tky 5 (some 55) (by assumption) ?_
  try simp only [Act.put, List.setIfInBounds_toArray, List.set_cons_zero, List.set_cons_succ]
  refine tky 6 (some 56) (by assumption) ?_
  try simp only [Act.put, List.setIfInBounds_toArray, List.set_cons_zero, List.set_cons_succ]
  refine tky 7 (some 57) (by assumption) ?_
  try simp only [Act.put, List.setIfInBounds_toArray, List.set_cons_zero, List.set_cons_succ]
  refine tky 8 (some 58) (by assumption) ?_
  try simp only [Act.put, List.setIfInBounds_toArray, List.set_cons_zero, List.set_cons_succ]
  refine tky 9 (some 59) (by assumption) ?_
  try simp only [Act.put, List.setIfInBounds_toArray, List.set_cons_zero, List.set_cons_succ]
  refine tky 10 (some 60) (by assumption) ?_
  try simp only [Act.put, List.setIfInBounds_toArray, List.set_cons_zero, List.set_cons_succ]
  refine tky 11 (some 61) (by assumption) ?_
  try simp only [Act.put, List.setIfInBounds_toArray, List.set_cons_zero, List.set_cons_succ]
  refine tky 12 (some 6) (by assumption) ?_
  try simp only [Act.put, List.setIfInBounds_toArray, List.set_cons_zero, List.set_cons_succ]
  refine wpAnyH_done (by kernel_rfl) ?_ _
  go_wp2_with fail
  go_ret
  exact ⟨rfl, ext_trans HB1.out (by first | exact ext_drew (Below.refl _ _) | exact ext_drew (ext_drew (Below.refl _ _)))⟩
set_option maxRecDepth 100000 in
set_option maxHeartbeats 2000000 in
theorem may_yes (S : Nat → Prop) (b n codes : Nat) (group next clock : Int) (L : List Bkg) (q : Parts) (id til last : Int) (i : Nat) (w : World) (h : BookAt S w b n codes group next clock L q) (c0 : decide (id ≤ last) = false) (c1 : decide (next ≤ id) = false) (hi : i < n) (hv : hasB q.ws i = false) (c6 : (til == 0) = false) (c7 : decide (clock < til) = true) (c8 : decide (til ≤ 1099511627776) = true) :
    Calls Tryz.prog 253 #[.pointer (some ⟨b, 0, none⟩), .agg #[.int .u32 id, .int .i64 (i : Int), .int .i64 til], .int .u32 last] w fun e w' => e = .returned (.bool true) ∧ Below w.heap.size w w' := by
  have hn4 : n ≤ 1024 := h.small.2.2.2.2
  have c2 : decide ((i : Int) < 0) = false := decide_eq_false (by omega)
  have c3 : decide ((n : Int) ≤ (i : Int)) = false := decide_eq_false (by omega)
  have c3n : decide (n ≤ i) = false := decide_eq_false (by omega)
  have HHV := Lib.hid hv
  clear hv
  have HH := Lib.hid h
  clear h
  go_enter Tryz.func253, Tryz.ntmps253
  go_wp2_with fail
  have hb1 : Below w.heap.size w (w.alloc (.cells #[.int .u32 id, .int .i64 (i : Int), .int .i64 til] 258)) := ext_alloc (Below.refl _ _) _
  have hA1 : Arr (w.alloc (.cells #[.int .u32 id, .int .i64 (i : Int), .int .i64 til] 258)) w.heap.size 258 #[.int .u32 id, .int .i64 (i : Int), .int .i64 til] := Arr.fresh w _ _
  obtain ⟨w1, hw1⟩ : ∃ w1, w.alloc (.cells #[.int .u32 id, .int .i64 (i : Int), .int .i64 til] 258) = w1 := ⟨_, rfl⟩
  obtain ⟨vb, hvb⟩ : ∃ vb, w.heap.size = vb := ⟨_, rfl⟩
  rw [hw1] at hb1 hA1 ⊢
  have HC1 := Lib.hid (HH.out.comp.below hb1)
  have HB1 := Lib.hid hb1
  clear hb1
  rw [hvb] at hA1 ⊢
  clear hw1 hvb
  have HCS : ∀ w', Below w1.heap.size w1 w' → (w'.cell? ⟨vb, 0, none⟩ = some (.int .u32 id) ∧ w'.cell? ⟨vb, 1, none⟩ = some (.int .i64 (i : Int)) ∧ w'.cell? ⟨vb, 2, none⟩ = some (.int .i64 til) ∧ w'.cell? ⟨b, 0, none⟩ = some (.int .i64 n) ∧ w'.cell? ⟨b, 4, none⟩ = some (.int .i64 clock) ∧ w'.cell? ⟨b, 5, none⟩ = some (.int .u32 next) ∧ w'.cell? ⟨b, 6, none⟩ = some (.pointer (some ⟨q.tp, 0, none⟩)) ∧ Below w1.heap.size w1 w') := fun w' hb => ⟨(hA1.keep hb).cell 0, (hA1.keep hb).cell 1, (hA1.keep hb).cell 2, (HC1.out.own.keep hb).cell 0, (HC1.out.own.keep hb).cell 4, (HC1.out.own.keep hb).cell 5, (HC1.out.own.keep hb).cell 6, hb⟩
  have HCS := Lib.hid HCS
  clear hA1
  refine wp_region_held_drew (S := (fun w' => w'.cell? ⟨vb, 0, none⟩ = some (.int .u32 id) ∧ w'.cell? ⟨vb, 1, none⟩ = some (.int .i64 (i : Int)) ∧ w'.cell? ⟨vb, 2, none⟩ = some (.int .i64 til) ∧ w'.cell? ⟨b, 0, none⟩ = some (.int .i64 n) ∧ w'.cell? ⟨b, 4, none⟩ = some (.int .i64 clock) ∧ w'.cell? ⟨b, 5, none⟩ = some (.int .u32 next) ∧ w'.cell? ⟨b, 6, none⟩ = some (.pointer (some ⟨q.tp, 0, none⟩)) ∧ Below w1.heap.size w1 w')) (by kernel_rfl) (by exact HCS.out _ (ext_drew (Below.refl _ _))) (fun hHeld => ?_)
  refine tky 0 (some 8) (by assumption) ?_
  try simp only [Act.put, List.setIfInBounds_toArray, List.set_cons_zero, List.set_cons_succ]
  refine tky 1 (some 9) (by assumption) ?_
  try simp only [Act.put, List.setIfInBounds_toArray, List.set_cons_zero, List.set_cons_succ]
  refine tky 2 (some 10) (by assumption) ?_
  try simp only [Act.put, List.setIfInBounds_toArray, List.set_cons_zero, List.set_cons_succ]
  refine tky 3 (some 11) (by assumption) ?_
  try simp only [Act.put, List.setIfInBounds_toArray, List.set_cons_zero, List.set_cons_succ]
  refine tky 4 (some 12) (by assumption) ?_
  try simp only [Act.put, List.setIfInBounds_toArray, List.set_cons_zero, List.set_cons_succ]
  refine tky 5 (some 13) (by assumption) ?_
  try simp only [Act.put, List.setIfInBounds_toArray, List.set_cons_zero, List.set_cons_succ]
  refine tky 6 (some 14) (by assumption) ?_
  try simp only [Act.put, List.setIfInBounds_toArray, List.set_cons_zero, List.set_cons_succ]
  refine tky 7 (some 15) (by assumption) ?_
  try simp only [Act.put, List.setIfInBounds_toArray, List.set_cons_zero, List.set_cons_succ]
  refine tky 8 (some 16) (by assumption) ?_
  try simp only [Act.put, List.setIfInBounds_toArray, List.set_cons_zero, List.set_cons_succ]
  refine tky 9 (some 17) (by assumption) ?_
  try simp only [Act.put, List.setIfInBounds_toArray, List.set_cons_zero, List.set_cons_succ]
  refine tky 10 (some 18) (by assumption) ?_
  try simp only [Act.put, List.setIfInBounds_toArray, List.set_cons_zero, List.set_cons_succ]
  refine tky 11 (some 19) (by assumption) ?_
  try simp only [Act.put, List.setIfInBounds_toArray, List.set_cons_zero, List.set_cons_succ]
  refine tky 12 (some 20) (by assumption) ?_
  try simp only [Act.put, List.setIfInBounds_toArray, List.set_cons_zero, List.set_cons_succ]
  refine tky 13 (some 21) (by assumption) ?_
  try simp only [Act.put, List.setIfInBounds_toArray, List.set_cons_zero, List.set_cons_succ]
  refine tky 14 (some 22) (by assumption) ?_
  try simp only [Act.put, List.setIfInBounds_toArray, List.set_cons_zero, List.set_cons_succ]
  refine tky 15 (some 23) (by assumption) ?_
  try simp only [Act.put, List.setIfInBounds_toArray, List.set_cons_zero, List.set_cons_succ]
  refine tky 16 (some 24) (by assumption) ?_
  try simp only [Act.put, List.setIfInBounds_toArray, List.set_cons_zero, List.set_cons_succ]
  refine tky 17 (some 25) (by assumption) ?_
  try simp only [Act.put, List.setIfInBounds_toArray, List.set_cons_zero, List.set_cons_succ]
  refine tky 18 (some 26) (by assumption) ?_
  try simp only [Act.put, List.setIfInBounds_toArray, List.set_cons_zero, List.set_cons_succ]
  refine tky 19 (some 27) (by assumption) ?_
  try simp only [Act.put, List.setIfInBounds_toArray, List.set_cons_zero, List.set_cons_succ]
  refine tky 20 (some 28) (by assumption) ?_
  try simp only [Act.put, List.setIfInBounds_toArray, List.set_cons_zero, List.set_cons_succ]
  refine tky 21 (some 29) (by assumption) ?_
  try simp only [Act.put, List.setIfInBounds_toArray, List.set_cons_zero, List.set_cons_succ]
  refine tky 22 (some 30) (by assumption) ?_
  try simp only [Act.put, List.setIfInBounds_toArray, List.set_cons_zero, List.set_cons_succ]
  refine tky 23 (some 31) (by assumption) ?_
  try simp only [Act.put, List.setIfInBounds_toArray, List.set_cons_zero, List.set_cons_succ]
  refine tky 24 (some 32) (by assumption) ?_
  try simp only [Act.put, List.setIfInBounds_toArray, List.set_cons_zero, List.set_cons_succ]
  refine tky 25 (some 33) (by assumption) ?_
  try simp only [Act.put, List.setIfInBounds_toArray, List.set_cons_zero, List.set_cons_succ]
  refine tky 26 (some 34) (by assumption) ?_
  try simp only [Act.put, List.setIfInBounds_toArray, List.set_cons_zero, List.set_cons_succ]
  refine tky 27 (some 35) (by assumption) ?_
  try simp only [Act.put, List.setIfInBounds_toArray, List.set_cons_zero, List.set_cons_succ]
  refine tky 28 (some 36) (by assumption) ?_
  try simp only [Act.put, List.setIfInBounds_toArray, List.set_cons_zero, List.set_cons_succ]
  refine tky 29 (some 37) (by assumption) ?_
  try simp only [Act.put, List.setIfInBounds_toArray, List.set_cons_zero, List.set_cons_succ]
  refine tky 30 (some 38) (by assumption) ?_
  try simp only [Act.put, List.setIfInBounds_toArray, List.set_cons_zero, List.set_cons_succ]
  refine tky 31 (some 39) (by assumption) ?_
  try simp only [Act.put, List.setIfInBounds_toArray, List.set_cons_zero, List.set_cons_succ]
  refine tky 32 (some 40) (by assumption) ?_
  try simp only [Act.put, List.setIfInBounds_toArray, List.set_cons_zero, List.set_cons_succ]
  refine tky 33 (some 41) (by assumption) ?_
  try simp only [Act.put, List.setIfInBounds_toArray, List.set_cons_zero, List.set_cons_succ]
  refine tky 34 (some 42) (by assumption) ?_
  try simp only [Act.put, List.setIfInBounds_toArray, List.set_cons_zero, List.set_cons_succ]
  refine tky 35 (some 43) (by assumption) ?_
  try simp only [Act.put, List.setIfInBounds_toArray, List.set_cons_zero, List.set_cons_succ]
  refine wpAnyH_ready (rs := [36]) (by kernel_rfl) (by simp) ?_
  refine AllReadyH.cons rfl (fun K hK => ?_) AllReadyH.nil
  go_simp
  go_at_call 212
  refine (Bit.Has_in q.tp q.tg q.tc n i q.ws _ (HC1.out.below (ext_drew (Below.refl _ _))).taken hi (by omega)).mono ?_
  rintro e w3 ⟨rfl, hw3⟩
  rw [hw3, HHV.out]
  clear hw3 w3
  go_wp2_with fail
  refine hK.out _ _ (by first | assumption) (fun hHeld36 => ?_)
  clear hK K
  try simp only [Act.put, List.setIfInBounds_toArray, List.set_cons_zero, List.set_cons_succ]
  refine tky 37 (some 45) (by assumption) ?_
  try simp only [Act.put, List.setIfInBounds_toArray, List.set_cons_zero, List.set_cons_succ]
  refine tky 38 (some 7) (by assumption) ?_
  try simp only [Act.put, List.setIfInBounds_toArray, List.set_cons_zero, List.set_cons_succ]
  refine wpAnyH_done (by kernel_rfl) ?_ _
  go_wp2_with fail
  refine wp_region_held_drew (S := (fun w' => w'.cell? ⟨vb, 0, none⟩ = some (.int .u32 id) ∧ w'.cell? ⟨vb, 1, none⟩ = some (.int .i64 (i : Int)) ∧ w'.cell? ⟨vb, 2, none⟩ = some (.int .i64 til) ∧ w'.cell? ⟨b, 0, none⟩ = some (.int .i64 n) ∧ w'.cell? ⟨b, 4, none⟩ = some (.int .i64 clock) ∧ w'.cell? ⟨b, 5, none⟩ = some (.int .u32 next) ∧ w'.cell? ⟨b, 6, none⟩ = some (.pointer (some ⟨q.tp, 0, none⟩)) ∧ Below w1.heap.size w1 w')) (by kernel_rfl) (by exact HCS.out _ (ext_drew (ext_drew (Below.refl _ _)))) (fun hHeld => ?_)
  refine tky 0 (some 50) (by assumption) ?_
  try simp only [Act.put, List.setIfInBounds_toArray, List.set_cons_zero, List.set_cons_succ]
  refine tky 1 (some 51) (by assumption) ?_
  try simp only [Act.put, List.setIfInBounds_toArray, List.set_cons_zero, List.set_cons_succ]
  refine tky 2 (some 52) (by assumption) ?_
  try simp only [Act.put, List.setIfInBounds_toArray, List.set_cons_zero, List.set_cons_succ]
  refine tky 3 (some 53) (by assumption) ?_
  try simp only [Act.put, List.setIfInBounds_toArray, List.set_cons_zero, List.set_cons_succ]
  refine tky 4 (some 54) (by assumption) ?_
  try simp only [Act.put, List.setIfInBounds_toArray, List.set_cons_zero, List.set_cons_succ]
  refine tky 5 (some 55) (by assumption) ?_
  try simp only [Act.put, List.setIfInBounds_toArray, List.set_cons_zero, List.set_cons_succ]
  refine tky 6 (some 56) (by assumption) ?_
  try simp only [Act.put, List.setIfInBounds_toArray, List.set_cons_zero, List.set_cons_succ]
  refine tky 7 (some 57) (by assumption) ?_
  try simp only [Act.put, List.setIfInBounds_toArray, List.set_cons_zero, List.set_cons_succ]
  refine tky 8 (some 58) (by assumption) ?_
  try simp only [Act.put, List.setIfInBounds_toArray, List.set_cons_zero, List.set_cons_succ]
  refine tky 9 (some 59) (by assumption) ?_
  try simp only [Act.put, List.setIfInBounds_toArray, List.set_cons_zero, List.set_cons_succ]
  refine tky 10 (some 60) (by assumption) ?_
  try simp only [Act.put, List.setIfInBounds_toArray, List.set_cons_zero, List.set_cons_succ]
  refine tky 11 (some 61) (by assumption) ?_
  try simp only [Act.put, List.setIfInBounds_toArray, List.set_cons_zero, List.set_cons_succ]
  refine tky 12 (some 6) (by assumption) ?_
  try simp only [Act.put, List.setIfInBounds_toArray, List.set_cons_zero, List.set_cons_succ]
  refine wpAnyH_done (by kernel_rfl) ?_ _
  go_wp2_with fail
  go_ret
  exact ⟨rfl, ext_trans HB1.out (by first | exact ext_drew (Below.refl _ _) | exact ext_drew (ext_drew (Below.refl _ _)))⟩

end Go.Proofs.YtkmpchffflemcaaGreatDoor.Bk
end

/- Packed: Book5 Book6 Book7 Book8 -/
section
set_option linter.unusedVariables false
set_option linter.unusedSimpArgs false
/- Book5: The book: what may come to it, as a plain rule; may as one contract; there, Shape, At. -/
section
namespace Go.Proofs.YtkmpchffflemcaaGreatDoor.Bk
open Go.RowKit
open Go.Proofs.YtkmpchffflemcaaGreatDoor.Bit (SetAt hasB)

structure Raw where
  id : Int
  seat : Int
  til : Int
def mayR (n : Nat) (next clock : Int) (L : List Bkg) (last : Int) (x : Raw) : Bool :=
  decide (last < x.id) && (decide (x.id < next) && (decide (0 ≤ x.seat) && (decide (x.seat < n) && (L.all (fun y => !decide ((y.seat : Int) = x.seat)) && (x.til == 0 || (decide (clock < x.til) && decide (x.til ≤ 1099511627776)))))))
def toB (x : Raw) : Bkg := ⟨x.id, x.seat.toNat, x.til⟩
def ofR (n : Nat) (next clock : Int) : List Bkg → Int → List Raw → Option (List Bkg)
  | L, _, [] => some L
  | L, last, x :: r => if mayR n next clock L last x = true then ofR n next clock (L ++ [toB x]) x.id r else none
def bookOf (n codes : Nat) (next clock : Int) (l : List Raw) : Option (List Bkg) :=
  if next < 1 ∨ clock < 0 ∨ 1099511627776 < clock ∨ codes < l.length then none else ofR n next clock [] 0 l

theorem taken_of {S : Nat → Prop} {w : World} {b n codes : Nat} {group next clock : Int} {L : List Bkg} {q : Parts} (h : BookAt S w b n codes group next clock L q) {i : Nat} (hi : i < n) : hasB q.ws i = !(L.all (fun y => !decide ((y.seat : Int) = (i : Int)))) := by
  rw [Bool.eq_iff_iff, h.bits i hi]
  constructor
  · rintro ⟨x, hx, e⟩
    rw [Bool.not_eq_true', List.all_eq_false]
    exact ⟨x, hx, by simp [e]⟩
  · intro hh
    rw [Bool.not_eq_true', List.all_eq_false] at hh
    obtain ⟨x, hx, e⟩ := hh
    refine ⟨x, hx, ?_⟩
    simp at e
    omega
theorem may_in (S : Nat → Prop) (b n codes : Nat) (group next clock : Int) (L : List Bkg) (q : Parts) (x : Raw) (last : Int) (w : World) (h : BookAt S w b n codes group next clock L q) :
    Calls Tryz.prog 253 #[.pointer (some ⟨b, 0, none⟩), .agg #[.int .u32 x.id, .int .i64 x.seat, .int .i64 x.til], .int .u32 last] w fun e w' => e = .returned (.bool (mayR n next clock L last x)) ∧ Below w.heap.size w w' := by
  obtain ⟨id, seat, til⟩ := x
  have hm : mayR n next clock L last ⟨id, seat, til⟩ = (decide (last < id) && (decide (id < next) && (decide (0 ≤ seat) && (decide (seat < n) && (L.all (fun y => !decide ((y.seat : Int) = seat)) && (til == 0 || (decide (clock < til) && decide (til ≤ 1099511627776)))))))) := rfl
  show Calls _ _ #[.pointer (some ⟨b, 0, none⟩), .agg #[.int .u32 id, .int .i64 seat, .int .i64 til], .int .u32 last] w _
  by_cases c0 : id ≤ last
  · rw [hm, decide_eq_false (show ¬ last < id by omega)]
    exact may_no0 S b n codes group next clock L q id seat til last w h (decide_eq_true c0)
  have d0 : decide (id ≤ last) = false := decide_eq_false c0
  rw [hm, decide_eq_true (show last < id by omega), Bool.true_and]
  by_cases c1 : next ≤ id
  · rw [decide_eq_false (show ¬ id < next by omega)]
    exact may_no1 S b n codes group next clock L q id seat til last w h d0 (decide_eq_true c1)
  have d1 : decide (next ≤ id) = false := decide_eq_false c1
  rw [decide_eq_true (show id < next by omega), Bool.true_and]
  by_cases c2 : seat < 0
  · rw [decide_eq_false (show ¬ 0 ≤ seat by omega)]
    exact may_no2 S b n codes group next clock L q id seat til last w h d0 d1 (decide_eq_true c2)
  have d2 : decide (seat < 0) = false := decide_eq_false c2
  rw [decide_eq_true (show 0 ≤ seat by omega), Bool.true_and]
  by_cases c3 : (n : Int) ≤ seat
  · rw [decide_eq_false (show ¬ seat < n by omega)]
    exact may_no3 S b n codes group next clock L q id seat til last w h d0 d1 d2 (decide_eq_true c3)
  rw [decide_eq_true (show seat < n by omega), Bool.true_and]
  obtain ⟨i, rfl⟩ : ∃ i : Nat, seat = (i : Int) := ⟨seat.toNat, by omega⟩
  have hi : i < n := by omega
  have ht := taken_of h hi
  cases ha : L.all (fun y => !decide ((y.seat : Int) = (i : Int)))
  · rw [ha] at ht
    exact may_taken S b n codes group next clock L q id til last i w h d0 d1 hi ht
  rw [ha] at ht
  rw [Bool.true_and]
  cases c6 : (til == 0)
  case true => exact may_zero S b n codes group next clock L q id til last i w h d0 d1 hi ht c6
  case false =>
    rw [Bool.false_or]
    cases c7 : decide (clock < til)
    case false => exact may_past S b n codes group next clock L q id til last i w h d0 d1 hi ht c6 c7
    case true =>
      rw [Bool.true_and]
      cases c8 : decide (til ≤ 1099511627776)
      case false => exact may_late S b n codes group next clock L q id til last i w h d0 d1 hi ht c6 c7 c8
      case true => exact may_yes S b n codes group next clock L q id til last i w h d0 d1 hi ht c6 c7 c8

end Go.Proofs.YtkmpchffflemcaaGreatDoor.Bk
end

/- Book6: The book: there, told, Shape, At. -/
section
namespace Go.Proofs.YtkmpchffflemcaaGreatDoor.Bk
open Go.RowKit
open Go.Proofs.YtkmpchffflemcaaGreatDoor.Bit (SetAt hasB)

set_option maxRecDepth 100000 in
set_option maxHeartbeats 1000000 in
theorem there_in (b : Nat) (v : Bool) (w : World) (h : w.cell? ⟨b, 3, none⟩ = some (.bool v)) : Calls Tryz.prog 136 #[.pointer (some ⟨b, 0, none⟩)] w fun e w' => e = .returned (.bool v) ∧ w' = w := by
  go_enter Tryz.func136, Tryz.ntmps136
  go_wp2_with fail
  go_ret
  exact ⟨rfl, rfl⟩
theorem shape_size : (Tryz.prog.info? 90).map (·.size) = some 3 := by kernel_rfl
set_option maxRecDepth 100000 in
set_option maxHeartbeats 1000000 in
theorem told_in (b : Nat) (s0 s1 s2 : Int) (w : World) (h0 : w.cell? ⟨b, 0, none⟩ = some (.int .i64 s0)) (h1 : w.cell? ⟨b, 1, none⟩ = some (.int .i64 s1)) (h2 : w.cell? ⟨b, 2, none⟩ = some (.int .i64 s2)) (hbl : b < w.heap.size) : Calls Tryz.prog 137 #[.pointer (some ⟨b, 0, none⟩)] w fun e w' => e = .returned (.agg #[.int .i64 s0, .int .i64 s1, .int .i64 s2]) ∧ Below w.heap.size w w' := by
  go_enter Tryz.func137, Tryz.ntmps137
  go_wp2_with fail
  refine bodyPost_ret (results_cell Tryz.results137 _ (by rfl) (run_load_blk 90 (Arr.fresh w 90 #[.int .i64 s0, .int .i64 s1, .int .i64 s2]) _ Tryz.underlying90 rfl shape_size)) rfl ⟨rfl, ext_alloc (Below.refl _ _) _⟩
set_option maxRecDepth 100000 in
set_option maxHeartbeats 1000000 in
theorem Shape_in {S : Nat → Prop} {w : World} {b n codes : Nat} {group next clock : Int} {len : Nat} {q : Parts} (h : Comp S w b n codes group next clock len q) : Calls Tryz.prog 92 #[.pointer (some ⟨b, 0, none⟩)] w fun e w' => e = .returned (.agg #[.int .i64 n, .int .i64 codes, .int .i64 group]) ∧ Below w.heap.size w w' := by
  have HH := Lib.hid h
  clear h
  go_enter Tryz.func92, Tryz.ntmps92
  go_wp2_with fail
  have hb1 : Below w.heap.size w (w.alloc (.cells #[.int .i64 0, .int .i64 0, .int .i64 0] 90)) := ext_alloc (Below.refl _ _) _
  have hA1 : Arr (w.alloc (.cells #[.int .i64 0, .int .i64 0, .int .i64 0] 90)) w.heap.size 90 #[.int .i64 0, .int .i64 0, .int .i64 0] := Arr.fresh w _ _
  obtain ⟨w1, hw1⟩ : ∃ w1, w.alloc (.cells #[.int .i64 0, .int .i64 0, .int .i64 0] 90) = w1 := ⟨_, rfl⟩
  obtain ⟨r, hr⟩ : ∃ r, w.heap.size = r := ⟨_, rfl⟩
  rw [hw1] at hb1 hA1 ⊢
  have hc1 := HH.out.below hb1
  have HB1 := Lib.hid hb1
  clear hb1
  rw [hr] at hA1 ⊢
  clear hw1
  refine (there_in b true w1 (hc1.own.cell 3)).mono ?_
  rintro e w2 ⟨rfl, hw2⟩
  rw [hw2]
  clear hw2 w2
  have HC1 := Lib.hid hc1; have HA1 := Lib.hid hA1; have HR := Lib.hid hr
  clear hc1 hA1 hr
  go_wp2_with fail
  refine (told_in b n codes group w1 (HC1.out.own.cell 0) (HC1.out.own.cell 1) (HC1.out.own.cell 2) HC1.out.own.lt).mono ?_
  rintro e w2 ⟨rfl, hb2⟩
  have hA2 := HA1.out.keep hb2
  have hb2' := ext_trans HB1.out hb2
  clear HC1 HB1 HA1 hb2
  have HA2 := Lib.hid hA2
  have HB2 := Lib.hid hb2'
  clear hA2 hb2'
  go_wp2_with (refine wpList_store_blk rfl 90 _ _ rfl r 90 _ #[.int .i64 n, .int .i64 codes, .int .i64 group] HA2.out rfl rfl rfl shape_size (by simp [Value.oneCell']) ?_; intro w3 hA3 hg3 hs3; have HA3 := Lib.hid hA3; have HG3 := Lib.hid hg3; clear hA3 hg3 hs3)
  refine bodyPost_ret (results_cell Tryz.results92 _ (by rfl) (run_load_blk 90 HA3.out _ Tryz.underlying90 rfl shape_size)) rfl ⟨rfl, ext_only HB2.out HG3.out (by have := HR.out; omega)⟩
end Go.Proofs.YtkmpchffflemcaaGreatDoor.Bk
end

/- Book7: The book: At. -/
section
namespace Go.Proofs.YtkmpchffflemcaaGreatDoor.Bk
open Go.RowKit
open Go.Proofs.YtkmpchffflemcaaGreatDoor.Bit (SetAt hasB)

end Go.Proofs.YtkmpchffflemcaaGreatDoor.Bk
end

/- Book8: The book: Of. -/
section
namespace Go.Proofs.YtkmpchffflemcaaGreatDoor.Bk
open Go.RowKit
open Go.Proofs.YtkmpchffflemcaaGreatDoor.Bit (SetAt hasB)

def rawL (x : Raw) : List Value := [.int .u32 x.id, .int .i64 x.seat, .int .i64 x.til]
/-- a list of bookings that came in -/
def Raws (w : World) (A : Option Addr) (l : List Raw) : Prop := l ≠ [] → ∃ g off, A = some ⟨g, off, none⟩ ∧ g < w.heap.size ∧ ∀ k, k < l.length → w.rangeAt g (off + k * 3) (rawL (l.getD k ⟨0, 0, 0⟩))
theorem Raws.keep {w w' : World} {A : Option Addr} {l : List Raw} (h : Raws w A l) (hb : Below w.heap.size w w') : Raws w' A l := fun hne => by
  obtain ⟨g, off, h1, h2, h3⟩ := h hne
  exact ⟨g, off, h1, Nat.lt_of_lt_of_le h2 hb.size, fun k hk j v hj => (hb.cell (p := ⟨g, off + k * 3 + j, none⟩) h2).trans (h3 k hk j v hj)⟩
theorem Comp.turn {S : Nat → Prop} {w w' : World} {b n codes : Nat} {group next clock next' clock' : Int} {len : Nat} {q : Parts} (h : Comp S w b n codes group next clock len q) (ht : Tch (· = b) w w') (hi : Arr w' b 195 #[.int .i64 n, .int .i64 codes, .int .i64 group, .bool true, .int .i64 clock', .int .u32 next', .pointer (some ⟨q.tp, 0, none⟩), .pointer (some ⟨q.ip, 0, none⟩), .slice (some ⟨q.sg, 0, none⟩) n q.sc, .pointer (some ⟨q.hp, 0, none⟩), .map (some q.mb)]) : Comp S w' b n codes group next' clock' len q := by
  obtain ⟨⟨_, a0⟩, ⟨_, a1⟩, ⟨_, a2⟩, ⟨_, a3⟩, ⟨_, a4⟩, ⟨_, a5⟩⟩ := h.arrs
  exact ⟨hi, h.keepTaken ht (arr_ne a1 a0 (by decide)) (arr_ne a2 a0 (by decide)), h.keepIds ht (arr_ne a3 a0 (by decide)) (arr_ne a4 a0 (by decide)), h.keepSeats ht (arr_ne a5 a0 (by decide)), h.keepDue ht (fun k hk => (h.apart k hk).2.1), h.keepHeld ht (fun e => Hp.map_ne_arr h.held a0 e.symm), h.foot, h.apart, fun k hk => Nat.lt_of_lt_of_le (h.lt k hk) ht.size⟩
theorem BookAt.turn {S : Nat → Prop} {w w' : World} {b n codes : Nat} {group next clock next' clock' : Int} {L : List Bkg} {q : Parts} (h : BookAt S w b n codes group next clock L q) (hc : Comp S w' b n codes group next' clock' L.length q) : BookAt S w' b n codes group next' clock' L q :=
  ⟨hc, h.bits, h.lies, h.under, h.listed, h.small⟩
theorem BookAt.below {S : Nat → Prop} {w w' : World} {b n codes : Nat} {group next clock : Int} {L : List Bkg} {q : Parts} (h : BookAt S w b n codes group next clock L q) (hb : Below w.heap.size w w') : BookAt S w' b n codes group next clock L q := h.turn (h.comp.below hb)
theorem mayR_yes {n : Nat} {next clock : Int} {L : List Bkg} {last : Int} {x : Raw} (h : mayR n next clock L last x = true) : last < x.id ∧ x.id < next ∧ 0 ≤ x.seat ∧ x.seat < n ∧ (∀ y ∈ L, (y.seat : Int) ≠ x.seat) ∧ (x.til = 0 ∨ clock < x.til ∧ x.til ≤ 1099511627776) := by
  simp only [mayR, Bool.and_eq_true, Bool.or_eq_true, decide_eq_true_eq, List.all_eq_true, Bool.not_eq_true', decide_eq_false_iff_not, beq_iff_eq] at h
  exact h

def OfOut (n codes : Nat) (group next clock : Int) (l : List Raw) (w : World) (e : Ending) (w' : World) : Prop := Below w.heap.size w w' ∧
  match bookOf n codes next clock l with
  | none => e = .returned (.tuple #[.pointer none, .int .i64 180])
  | some L => ∃ b S q, e = .returned (.tuple #[.pointer (some ⟨b, 0, none⟩), .int .i64 0]) ∧ BookAt S w' b n codes group next clock L q ∧ (∀ k, S k → w.heap.size ≤ k)
theorem OfOut.no {n codes : Nat} {group next clock : Int} {l : List Raw} {w w' : World} (h : bookOf n codes next clock l = none) (hb : Below w.heap.size w w') : OfOut n codes group next clock l w (.returned (.tuple #[.pointer none, .int .i64 180])) w' := by
  refine ⟨hb, ?_⟩
  rw [h]
set_option maxRecDepth 100000 in
set_option maxHeartbeats 4000000 in
theorem Of_in (n codes : Nat) (group next clock : Int) (l : List Raw) (A : Option Addr) (cap : Nat) (w : World) (h : Geo.okS n codes group = true) (hr : Raws w A l) (hl : l.length ≤ 17592186043904) (hnx : 0 ≤ next ∧ next < 4294967296) (hids : ∀ x ∈ l, 0 ≤ x.id ∧ x.id < 4294967296) :
    Calls Tryz.prog 221 #[.agg #[.int .i64 n, .int .i64 codes, .int .i64 group], .int .u32 next, .int .i64 clock, .slice A l.length cap] w (OfOut n codes group next clock l w) := by
  have hok := Geo.okS_yes h
  have hn1 : 1 ≤ n ∧ n ≤ 1024 := by omega
  have hcd1 : 1 ≤ codes ∧ codes ≤ 4096 := by omega
  have HOK := Lib.hid h
  have HR := Lib.hid hr
  have HIDS := Lib.hid hids
  clear h hr hok hids
  go_enter Tryz.func221, Tryz.ntmps221
  go_wp2_with fail
  have hb1 : Below w.heap.size w (w.alloc (.cells #[.int .i64 n, .int .i64 codes, .int .i64 group] 90)) := ext_alloc (Below.refl _ _) _
  have hA1 : Arr (w.alloc (.cells #[.int .i64 n, .int .i64 codes, .int .i64 group] 90)) w.heap.size 90 #[.int .i64 n, .int .i64 codes, .int .i64 group] := Arr.fresh w _ _
  obtain ⟨w1, hw1⟩ : ∃ w1, w.alloc (.cells #[.int .i64 n, .int .i64 codes, .int .i64 group] 90) = w1 := ⟨_, rfl⟩
  obtain ⟨sh, hsh⟩ : ∃ sh, w.heap.size = sh := ⟨_, rfl⟩
  rw [hw1] at hb1 hA1 ⊢
  have HB1 := Lib.hid hb1
  clear hb1 hw1
  rw [hsh] at hA1 ⊢
  refine (New_yes n codes group w1 HOK.out).mono ?_
  rintro e w2 ⟨b, S, q, rfl, hbk, hS, hb2⟩
  have hA2 := hA1.keep hb2
  have hshb : ¬ sh = b := by
    have h1 := hS b hbk.comp.foot.1
    have h2 := hA1.lt
    omega
  have z1 : w2.cell? ⟨sh, 1, none⟩ = some (.int .i64 codes) := hA2.cell 1
  have x4 : w2.cell? ⟨b, 4, none⟩ = some (.int .i64 0) := hbk.comp.own.cell 4
  have x5 : w2.cell? ⟨b, 5, none⟩ = some (.int .u32 1) := hbk.comp.own.cell 5
  have m4 := hbk.comp.own.mark 4
  have m5 := hbk.comp.own.mark 5
  have hbl := hbk.comp.own.lt
  have hB2 := ext_trans HB1.out hb2
  have HBK := Lib.hid hbk; have HS := Lib.hid hS; have HB2 := Lib.hid hB2; have HSH := Lib.hid hsh
  have HS1 := Lib.hid (show w.heap.size ≤ w1.heap.size from HB1.out.size)
  clear hbk hS hb2 hB2 hA1 hA2 HB1 hsh
  cases c0 : decide (next < 1)
  case true =>
    have HN := Lib.hid (show bookOf n codes next clock l = none from if_pos (.inl (of_decide_eq_true c0)))
    go_wp2_with fail
    go_ret2
    exact OfOut.no HN.out HB2.out
  case false =>
    cases c1 : decide (clock < 0)
    case true =>
      have HN := Lib.hid (show bookOf n codes next clock l = none from if_pos (.inr (.inl (of_decide_eq_true c1))))
      go_wp2_with fail
      go_ret2
      exact OfOut.no HN.out HB2.out
    case false =>
      cases c2 : decide (1099511627776 < clock)
      case true =>
        have HN := Lib.hid (show bookOf n codes next clock l = none from if_pos (.inr (.inr (.inl (of_decide_eq_true c2)))))
        go_wp2_with fail
        go_ret2
        exact OfOut.no HN.out HB2.out
      case false =>
        cases c3 : decide (codes < l.length)
        case true =>
          have c3' : decide ((codes : Int) < (l.length : Int)) = true := decide_eq_true (by have := of_decide_eq_true c3; omega)
          have HN := Lib.hid (show bookOf n codes next clock l = none from if_pos (.inr (.inr (.inr (of_decide_eq_true c3)))))
          go_wp2_with fail
          go_ret2
          exact OfOut.no HN.out HB2.out
        case false =>
          have c3' : decide ((codes : Int) < (l.length : Int)) = false := decide_eq_false (by have := of_decide_eq_false c3; omega)
          have hBO : bookOf n codes next clock l = ofR n next clock [] 0 l := if_neg (by
            have h0 := of_decide_eq_false c0
            have h1 := of_decide_eq_false c1
            have h2 := of_decide_eq_false c2
            have h3 := of_decide_eq_false c3
            rintro (h | h | h | h)
            · exact h0 h
            · exact h1 h
            · exact h2 h
            · exact h3 h)
          have HBO := Lib.hid hBO
          have HCL := Lib.hid (And.intro (of_decide_eq_false c1) (And.intro (of_decide_eq_false c2) (of_decide_eq_false c3)))
          clear hBO
          go_wp2_with fail
          have T3 := ((Tch.refl (fun j => j = b) w2).put (p := ⟨b, 5, none⟩) (.inl rfl) (.int .u32 next)).put (p := ⟨b, 4, none⟩) (.inl rfl) (.int .i64 clock)
          have hown3 := (HBK.out.comp.own.put 5 (.int .u32 next)).put 4 (.int .i64 clock)
          obtain ⟨w3, hw3⟩ : ∃ w3, (w2.setCell ⟨b, 5, none⟩ (.int .u32 next)).setCell ⟨b, 4, none⟩ (.int .i64 clock) = w3 := ⟨_, rfl⟩
          rw [hw3] at T3 hown3 ⊢
          have hbk3 : BookAt S w3 b n codes group next clock [] q := HBK.out.turn (HBK.out.comp.turn T3 hown3)
          have hB3 : Below w.heap.size w w3 := Tch.to_below HB2.out T3 (fun j hj => by have : j = b := hj; have h1 := HS.out b HBK.out.comp.foot.1; have h2 := HS1.out; omega)
          have hS3 : ∀ j, S j → w.heap.size ≤ j := fun j hj => Nat.le_trans HS1.out (HS.out j hj)
          clear hw3 z1 x4 x5 m4 m5 hbl T3 hown3 HBK HB2 HS
          have hll : (l.length : Int) ≤ 17592186043904 := by omega
          go_loopw [12, 50] (fun la iv wr => ∃ (k : Nat) (L : List Bkg) (last : Int) (T : Nat → Prop) (q' : Parts), k ≤ l.length ∧ la = .int .u32 last ∧ iv = .int .i64 k ∧ BookAt T wr b n codes group next clock L q' ∧ (∀ j, T j → w.heap.size ≤ j) ∧ Below w.heap.size w wr ∧ ofR n next clock L last (l.drop k) = ofR n next clock [] 0 l ∧ (∀ y ∈ L, y.id ≤ last) ∧ L.length ≤ k) (fun _ iv _ => (l.length - intOf iv).toNat)
          case atStart => exact ⟨0, [], 0, S, q, Nat.zero_le _, rfl, rfl, hbk3, hS3, hB3, rfl, (fun y hy => by cases hy), Nat.le_refl _⟩
          case round =>
            obtain ⟨k, L, last, T, q', hk, rfl, rfl, hbk, hT, hB, hrec, hlast, hLk⟩ := hrel
            clear hbk3 hB3 hS3 HS1
            have HBK := Lib.hid hbk; have HT := Lib.hid hT; have HB := Lib.hid hB; have HREC := Lib.hid hrec; have HLAST := Lib.hid hlast
            clear hbk hT hB hrec hlast
            by_cases hkl : k < l.length
            · have hk1 : (k : Int) < (l.length : Int) := by omega
              have hk0 : (0 : Int) ≤ (k : Int) := by omega
              have hne : l ≠ [] := fun e => by rw [e] at hkl; simp at hkl
              obtain ⟨g, off, hA, hgl, hrng⟩ := HR.out hne
              subst hA
              have hcl : codes < l.length → False := HCL.out.2.2
              have hdrop : l.drop k = l.getD k ⟨0, 0, 0⟩ :: l.drop (k + 1) := by rw [List.drop_eq_getElem_cons hkl]; simp [List.getD_eq_getElem?_getD, hkl]
              have hmem : l.getD k ⟨0, 0, 0⟩ ∈ l := by simp [List.getD_eq_getElem?_getD, hkl]
              have hidx := HIDS.out _ hmem
              have hrg : wr.rangeAt g (off + k * 3) (rawL (l.getD k ⟨0, 0, 0⟩)) := fun j v hj => (HB.out.cell (p := ⟨g, off + k * 3 + j, none⟩) hgl).trans (hrng k hkl j v hj)
              obtain ⟨x, hx⟩ : ∃ x, l.getD k ⟨0, 0, 0⟩ = x := ⟨_, rfl⟩
              rw [hx] at hdrop hidx hrg
              obtain ⟨id, seat, til⟩ := x
              have hrg' : wr.rangeAt g (off + k * 3) [.int .u32 id, .int .i64 seat, .int .i64 til] := hrg
              have HRG := Lib.hid hrg'
              have HDROP := Lib.hid hdrop
              have HIDX := Lib.hid hidx
              have HCL2 := Lib.hid hcl
              clear hrg hrg' hdrop hidx hmem hrng hx hne hcl
              go_wp2_with (refine wpList_load_mid rfl 258 _ rfl g (off + k * 3) rfl [.int .u32 id, .int .i64 seat, .int .i64 til] _ HRG.out Tryz.underlying258 rfl rfl ?_)
              have hb4 : Below wr.heap.size wr (wr.alloc (.cells #[.int .u32 id, .int .i64 seat, .int .i64 til] 258)) := ext_alloc (Below.refl _ _) _
              have hA4 : Arr (wr.alloc (.cells #[.int .u32 id, .int .i64 seat, .int .i64 til] 258)) wr.heap.size 258 #[.int .u32 id, .int .i64 seat, .int .i64 til] := Arr.fresh wr _ _
              obtain ⟨w4, hw4⟩ : ∃ w4, wr.alloc (.cells #[.int .u32 id, .int .i64 seat, .int .i64 til] 258) = w4 := ⟨_, rfl⟩
              obtain ⟨xb, hxb⟩ : ∃ xb, wr.heap.size = xb := ⟨_, rfl⟩
              rw [hw4] at hb4 hA4 ⊢
              have HBK4 := Lib.hid (HBK.out.below hb4)
              have HB4 := Lib.hid (ext_trans HB.out hb4)
              have hTx : ¬ T xb := fun h => by have h1 := HBK.out.comp.lt xb h; omega
              rw [hxb] at hA4 ⊢
              clear hw4 hxb hb4
              refine (may_in T b n codes group next clock L q' ⟨id, seat, til⟩ last w4 HBK4.out).mono ?_
              rintro e w5 ⟨rfl, hb5⟩
              have HBK5 := Lib.hid (HBK4.out.below hb5)
              have HB5 := Lib.hid (ext_trans HB4.out hb5)
              have hA5 := hA4.keep hb5
              clear hA4 hb5 HBK4 HB4
              cases hm : mayR n next clock L last ⟨id, seat, til⟩
              case false =>
                have HN := Lib.hid (show bookOf n codes next clock l = none from by
                  rw [HBO.out, ← HREC.out, HDROP.out]
                  show (if mayR n next clock L last ⟨id, seat, til⟩ = true then _ else none) = none
                  rw [hm]; rfl)
                clear hA5
                go_wp2_with fail
                go_ret2
                exact OfOut.no HN.out HB5.out
              case true =>
                obtain ⟨h1, h2, h3, h4, h5, h6⟩ := mayR_yes hm
                have h3' : 0 ≤ seat := h3
                obtain ⟨i, rfl⟩ : ∃ i : Nat, seat = (i : Int) := ⟨seat.toNat, by omega⟩
                have hin : i < n := by have h4' : (i : Int) < (n : Int) := h4; omega
                have hxl : toB ⟨id, (i : Int), til⟩ = ⟨id, i, til⟩ := by simp [toB]
                have hstep : ofR n next clock (L ++ [⟨id, i, til⟩]) id (l.drop (k + 1)) = ofR n next clock [] 0 l := by
                  rw [← HREC.out, HDROP.out]
                  show _ = (if mayR n next clock L last ⟨id, (i : Int), til⟩ = true then ofR n next clock (L ++ [toB ⟨id, (i : Int), til⟩]) id (l.drop (k + 1)) else none)
                  rw [hm, if_pos rfl, hxl]
                have hlast2 : ∀ y ∈ L ++ [(⟨id, i, til⟩ : Bkg)], y.id ≤ id := fun y hy => by
                  rcases List.mem_append.1 hy with hy | hy
                  · have := HLAST.out y hy
                    have h1' : last < id := h1
                    omega
                  · obtain rfl : y = ⟨id, i, til⟩ := by simpa using hy
                    exact Int.le_refl _
                have hfresh : ∀ y ∈ L, y.id ≠ id := fun y hy => by
                  have := HLAST.out y hy
                  have h1' : last < id := h1
                  omega
                have hfree : ∀ y ∈ L, y.seat ≠ i := fun y hy e => h5 y hy (by rw [e])
                have hlc : L.length < codes := by
                  have : ¬ codes < l.length := HCL2.out
                  omega
                have htil : 0 ≤ til ∧ til ≤ 1099511627776 := by
                  have h6' : til = 0 ∨ clock < til ∧ til ≤ 1099511627776 := h6
                  have hc1 := HCL.out.1
                  omega
                have hPUT := put_in T b n codes group next clock L ⟨id, i, til⟩ q' w5 HBK5.out HIDX.out hfresh hfree hin hlc htil
                have HPUT := Lib.hid hPUT
                have HSTEP := Lib.hid hstep
                have HLAST2 := Lib.hid hlast2
                have y0 : w5.cell? ⟨xb, 0, none⟩ = some (.int .u32 id) := hA5.cell 0
                have y1 : w5.cell? ⟨xb, 1, none⟩ = some (.int .i64 (i : Int)) := hA5.cell 1
                have y2 : w5.cell? ⟨xb, 2, none⟩ = some (.int .i64 til) := hA5.cell 2
                have HA5 := Lib.hid hA5
                clear h1 h2 h3 h4 h5 h6 h3' hxl hstep hlast2 hfresh hfree hlc htil hPUT hA5
                go_wp2_with fail
                refine HPUT.out.mono ?_
                rintro e w6 ⟨⟨v6, rfl⟩, ⟨q6, hq6⟩, hT6⟩
                have hA6 := hT6.arr HA5.out hTx
                have hB6 : Below w.heap.size w w6 := Tch.to_below HB5.out hT6 (fun j hj => HT.out j hj)
                have z0 : w6.cell? ⟨xb, 0, none⟩ = some (.int .u32 id) := hA6.cell 0
                have HQ6 := Lib.hid hq6
                have HB6 := Lib.hid hB6
                have HZ5 := Lib.hid HB5.out.size
                clear y0 y1 y2 hq6 hT6 hA6 hB6 HA5 HB5 HBK5 HB HBK HREC
                go_wp2_with fail
                go_roundw
                case rel => exact ⟨k + 1, L ++ [⟨id, i, til⟩], id, _, q6, by omega, rfl, by go_num, HQ6.out, (fun j hj => by rcases hj.1 with h | h; exact HT.out j h; exact Nat.le_trans HZ5.out h), HB6.out, HSTEP.out, HLAST2.out, by simp; omega⟩
                case measure => simp [intOf]; omega
            · obtain rfl : k = l.length := by omega
              have hrec := HREC.out
              rw [List.drop_length] at hrec
              have HSOME := Lib.hid (show bookOf n codes next clock l = some L from HBO.out.trans hrec.symm)
              clear hrec
              go_wp2_with fail
              go_ret2
              refine ⟨HB.out, ?_⟩
              rw [HSOME.out]
              exact ⟨b, T, q', rfl, HBK.out, HT.out⟩

end Go.Proofs.YtkmpchffflemcaaGreatDoor.Bk
end
end

/- Layer 17: the book: Len, Next, Clock. -/
section
set_option linter.unusedVariables false
set_option linter.unusedSimpArgs false
namespace Go.Proofs.YtkmpchffflemcaaGreatDoor.Bk
open Go.RowKit
open Go.Proofs.YtkmpchffflemcaaGreatDoor.Bit (SetAt hasB)

-- index.Len
set_option maxRecDepth 100000 in
set_option maxHeartbeats 1000000 in
theorem IdxLen (p g n most len graves : Nat) (f : Nat → Idx.Slot) (w : World) (h : Idx.IdxOk w p g n most len graves f) :
    Calls Tryz.prog 213 #[.pointer (some ⟨p, 0, none⟩)] w fun e w' => e = .returned (.int .i64 len) ∧ w' = w := by
  obtain ⟨steps, hI⟩ := h.lies
  have x0 : w.cell? ⟨p, 0, none⟩ = some (.slice (some ⟨g, 0, none⟩) n n) := hI.own.cell 0
  have x2 : w.cell? ⟨p, 2, none⟩ = some (.int .i64 len) := hI.own.cell 2
  clear h hI
  go_enter Tryz.func213, Tryz.ntmps213
  go_wp2_with fail
  refine (Idx.made_in p g n w x0).mono ?_
  rintro e w1 ⟨rfl, hw⟩
  rw [hw]
  clear hw w1
  go_wp2_with fail
  go_ret
  exact ⟨rfl, rfl⟩
-- book.Len
set_option maxRecDepth 100000 in
set_option maxHeartbeats 1000000 in
theorem Len_in {S : Nat → Prop} {w : World} {b n codes : Nat} {group next clock : Int} {len : Nat} {q : Parts} (h : Comp S w b n codes group next clock len q) :
    Calls Tryz.prog 173 #[.pointer (some ⟨b, 0, none⟩)] w fun e w' => e = .returned (.int .i64 len) ∧ w' = w := by
  have x7 : w.cell? ⟨b, 7, none⟩ = some (.pointer (some ⟨q.ip, 0, none⟩)) := h.own.cell 7
  have HT := Lib.hid (there_in b true w (h.own.cell 3))
  have HI := Lib.hid (IdxLen q.ip q.ig q.m codes len 0 q.f w h.ids)
  clear h
  go_enter Tryz.func173, Tryz.ntmps173
  go_wp2_with fail
  refine HT.out.mono ?_
  rintro e w1 ⟨rfl, hw⟩
  rw [hw]
  clear hw w1
  go_wp2_with fail
  refine HI.out.mono ?_
  rintro e w1 ⟨rfl, hw⟩
  rw [hw]
  clear hw w1
  go_wp2_with fail
  go_ret
  exact ⟨rfl, rfl⟩
end Go.Proofs.YtkmpchffflemcaaGreatDoor.Bk
end

/- geometry.Plan for the engine (made by gen/geoeng.py out of XGeo, XGeo2). -/
section
set_option linter.unusedVariables false
set_option linter.unusedSimpArgs false
namespace Go.Proofs.YtkmpchffflemcaaGreatDoor.Geo
open Go.RowKit

set_option maxHeartbeats 400000 in
theorem sized (n : Int) (w : World) :
    Calls Tryz.prog 78 #[.int .i64 n] w fun e w' => e = .returned (.bool (okZ n)) ∧ w = w' := by
  by_cases h1 : 64 ≤ n
  · by_cases h2 : n ≤ 4096
    · go_enter Tryz.func78, Tryz.ntmps78
      go_wp2
      go_ret
      exact ⟨ret_bool (bits_okZ h1 h2), rfl⟩
    · have h3 := @okZ_no_hi n (by omega)
      go_enter Tryz.func78, Tryz.ntmps78
      go_wp2
      go_ret
      exact ⟨rfl, rfl⟩
  · have h3 := @okZ_no_lo n (by omega)
    go_enter Tryz.func78, Tryz.ntmps78
    go_wp2
    go_ret
    exact ⟨rfl, rfl⟩
set_option maxHeartbeats 400000 in
theorem up_calls (n m : Int) (w : World) (h1 : 0 ≤ n) (h2 : n ≤ 20000) (h3 : 1 ≤ m) (h4 : m ≤ 4096) :
    Calls Tryz.prog 127 #[.int .i64 n, .int .i64 m] w fun e w' => e = .returned (.int .i64 (up n m)) ∧ w = w' := by
  have h5 : 0 ≤ (n + m - 1) / m := Int.ediv_nonneg (by omega) (by omega)
  have h6 : (n + m - 1) / m ≤ n + m - 1 := Int.ediv_le_self _ (by omega)
  go_enter Tryz.func127, Tryz.ntmps127
  go_wp2
  go_ret
  exact ⟨rfl, rfl⟩
set_option maxHeartbeats 400000 in
theorem image_calls (a b c : Int) (w : World) (h1 : 1 ≤ a) (h2 : a ≤ 1024) (h3 : 1 ≤ b) (h4 : b ≤ 4096) :
    Calls Tryz.prog 128 #[.agg #[.int .i64 a, .int .i64 b, .int .i64 c]] w fun e w' => e = .returned (.int .i64 (image a b)) ∧ Below w.heap.size w w' := by
  by_cases h : a ≤ b
  · go_enter Tryz.func128, Tryz.ntmps128
    go_wp2
    go_ret
    exact ⟨ret_int (by unfold image; omega), (Below.refl _ _).alloc (Nat.le_refl _) _⟩
  · go_enter Tryz.func128, Tryz.ntmps128
    go_wp2
    go_ret
    exact ⟨ret_int (by unfold image; omega), (Below.refl _ _).alloc (Nat.le_refl _) _⟩
set_option maxHeartbeats 400000 in
theorem slot_calls (a b c m : Int) (w : World) (h : okS a b c = true) (h' : okZ m = true) :
    Calls Tryz.prog 80 #[.agg #[.int .i64 a, .int .i64 b, .int .i64 c], .int .i64 m] w fun e w' => e = .returned (.int .i64 (slot a b m)) ∧ Below w.heap.size w w' := by
  obtain ⟨h1, h2, h3, h4, h5, h6, h7, h8, h9, h10, h11, h12, h13, h14⟩ := okay h h'
  clear h h'
  have h15 : 0 ≤ up (image a b) m := by unfold slot at h11; omega
  have h16 : up (image a b) m ≤ 20000 := by unfold slot at h12; omega
  go_enter Tryz.func80, Tryz.ntmps80
  go_wp2_with fail
  refine (image_calls a b c _ h1 h2 h3 h4).mono ?_
  rintro e w1 ⟨rfl, hb⟩
  go_wp2_with fail
  refine (up_calls (image a b) m _ (by omega) (by omega) (by omega) h8).mono ?_
  rintro e w2 ⟨rfl, rfl⟩
  go_wp2_with fail
  go_ret
  exact ⟨rfl, ((Below.refl _ _).alloc (Nat.le_refl _) _).trans (hb.mono (by simp))⟩
set_option maxHeartbeats 400000 in
theorem Need_yes (a b c m : Int) (w : World) (h : okS a b c = true) (h' : okZ m = true) :
    Calls Tryz.prog 79 #[.agg #[.int .i64 a, .int .i64 b, .int .i64 c], .int .i64 m] w fun e w' => e = .returned (.tuple #[.int .i64 (need a b m), .int .i64 0]) ∧ Below w.heap.size w w' := by
  have H := Lib.hid h
  have H' := Lib.hid h'
  obtain ⟨h1, h2, h3, h4, h5, h6, h7, h8, h9, h10, h11, h12, h13, h14⟩ := okay h h'
  clear h h'
  go_enter Tryz.func79, Tryz.ntmps79
  go_wp2_with fail
  refine (check_yes a b c _ H.out).mono ?_
  rintro e w1 ⟨rfl, hb⟩
  obtain ⟨hc, hf⟩ := bcell hb
  go_wp2_with fail
  refine (sized m _).mono ?_
  rintro e w2 ⟨rfl, rfl⟩
  rw [H'.out]
  go_wp2_with fail
  refine (slot_calls a b c m _ H.out H'.out).mono ?_
  rintro e w2 ⟨rfl, hb2⟩
  go_wp2_with fail
  refine (up_calls 54 m _ (by omega) (by omega) (by omega) h8).mono ?_
  rintro e w3 ⟨rfl, rfl⟩
  go_wp2_with fail
  go_ret2
  exact ⟨rfl, (((Below.refl _ _).alloc (Nat.le_refl _) _).trans (hb.mono (by simp))).trans (hb2.mono (by have := hb.size; simp at this; omega))⟩
theorem okD_yes {n m : Int} (h : okD n m = true) : 1 ≤ n ∧ n ≤ 65536 ∧ okZ m = true ∧ n * m ≤ 67108864 := by
  simpa [okD] using h
set_option maxHeartbeats 400000 in
theorem Plan_small (n m a b c : Int) (w : World) (h : okS a b c = true) (h' : okD n m = true) (h'' : n < need a b m) :
    Calls Tryz.prog 33 #[.int .i64 n, .int .i64 m, .agg #[.int .i64 a, .int .i64 b, .int .i64 c]] w fun e w' => e = .returned (.tuple #[.agg #[.int .i64 0, .int .i64 0, .int .i64 0, .int .i64 0, .int .i64 0, .int .i64 0, .int .i64 0], .int .i64 91]) ∧ Below w.heap.size w w' := by
  have hd := okD_yes h'
  obtain ⟨d1, d2, d3, d4⟩ := hd
  have H3 := Lib.hid d3
  obtain ⟨h1, h2, h3, h4, h5, h6, h7, h8, h9, h10, h11, h12, h13, h14⟩ := okay h d3
  have hm0 : 0 ≤ n * m := Int.mul_nonneg (by omega) (by omega)
  have H := Lib.hid h; clear h
  have H' := Lib.hid h'; clear h' d3
  go_enter Tryz.func33, Tryz.ntmps33
  go_wp2_with fail
  refine (check_yes a b c _ H.out).mono ?_
  rintro e w1 ⟨rfl, hb⟩
  obtain ⟨hc, hf⟩ := bcell hb
  have hz := hb.size
  simp at hz
  have hl0 : w.heap.size < w1.heap.size := by omega
  have hl1 : w.heap.size + 1 < w1.heap.size := by omega
  go_wp2_with fail
  refine (sized m _).mono ?_
  rintro e w2 ⟨rfl, rfl⟩
  rw [H3.out]
  go_wp2_with fail
  refine (Need_yes a b c m _ H.out H3.out).mono ?_
  rintro e w2 ⟨rfl, hb2⟩
  obtain ⟨hc2, hf2⟩ := bcell hb2
  have hz2 := hb2.size
  have hl20 : w.heap.size < w2.heap.size := by omega
  have hl21 : w.heap.size + 1 < w2.heap.size := by omega
  go_wp2_with fail
  refine bodyPost_ret (v := .tuple #[.agg #[.int .i64 0, .int .i64 0, .int .i64 0, .int .i64 0, .int .i64 0, .int .i64 0, .int .i64 0], .int .i64 91]) (by simp [results, Tryz.results33, go_sem, hc, hl0, hl1, hc2, hl20, hl21]) rfl ⟨rfl, ?_⟩
  iterate 7 refine Below.setCell ?_ (by simp) _
  exact ((((Below.refl _ _).alloc (Nat.le_refl _) _).alloc (by simp) _).trans (hb.mono (by simp; omega))).trans (hb2.mono (by omega))
set_option maxHeartbeats 400000 in
theorem Plan_ok (n m a b c : Int) (w : World) (h : okS a b c = true) (h' : okD n m = true) (h'' : need a b m ≤ n) :
    Calls Tryz.prog 33 #[.int .i64 n, .int .i64 m, .agg #[.int .i64 a, .int .i64 b, .int .i64 c]] w fun e w' => e = .returned (.tuple #[.agg #[.int .i64 m, .int .i64 0, .int .i64 (slot a b m), .int .i64 (slot a b m), .int .i64 (slot a b m), .int .i64 (2 * slot a b m), .int .i64 (n - 2 * slot a b m)], .int .i64 0]) ∧ Below w.heap.size w w' := by
  have hd := okD_yes h'
  obtain ⟨d1, d2, d3, d4⟩ := hd
  have H3 := Lib.hid d3
  obtain ⟨h1, h2, h3, h4, h5, h6, h7, h8, h9, h10, h11, h12, h13, h14⟩ := okay h d3
  have hm0 : 0 ≤ n * m := Int.mul_nonneg (by omega) (by omega)
  have H := Lib.hid h; clear h
  have H' := Lib.hid h'; clear h' d3
  go_enter Tryz.func33, Tryz.ntmps33
  go_wp2_with fail
  refine (check_yes a b c _ H.out).mono ?_
  rintro e w1 ⟨rfl, hb⟩
  obtain ⟨hc, hf⟩ := bcell hb
  have hz := hb.size
  simp at hz
  have hl0 : w.heap.size < w1.heap.size := by omega
  have hl1 : w.heap.size + 1 < w1.heap.size := by omega
  go_wp2_with fail
  refine (sized m _).mono ?_
  rintro e w2 ⟨rfl, rfl⟩
  rw [H3.out]
  go_wp2_with fail
  refine (Need_yes a b c m _ H.out H3.out).mono ?_
  rintro e w2 ⟨rfl, hb2⟩
  obtain ⟨hc2, hf2⟩ := bcell hb2
  have hz2 := hb2.size
  have hl20 : w.heap.size < w2.heap.size := by omega
  have hl21 : w.heap.size + 1 < w2.heap.size := by omega
  go_wp2_with fail
  refine (slot_calls a b c m _ H.out H3.out).mono ?_
  rintro e w3 ⟨rfl, hb3⟩
  obtain ⟨hc3, hf3⟩ := bcell hb3
  have hz3 := hb3.size
  have hl30 : w.heap.size < w3.heap.size := by omega
  have hl31 : w.heap.size + 1 < w3.heap.size := by omega
  go_wp2_with fail
  refine bodyPost_ret (v := .tuple #[.agg #[.int .i64 m, .int .i64 0, .int .i64 (slot a b m), .int .i64 (slot a b m), .int .i64 (slot a b m), .int .i64 (2 * slot a b m), .int .i64 (n - 2 * slot a b m)], .int .i64 0]) (by simp [results, Tryz.results33, go_sem, hc, hl0, hl1, hc2, hl20, hl21, hc3, hl30, hl31]) rfl ⟨rfl, ?_⟩
  iterate 7 refine Below.setCell ?_ (by simp) _
  exact (((((Below.refl _ _).alloc (Nat.le_refl _) _).alloc (by simp) _).trans (hb.mono (by simp; omega))).trans (hb2.mono (by omega))).trans (hb3.mono (by omega))

end Go.Proofs.YtkmpchffflemcaaGreatDoor.Geo
end
