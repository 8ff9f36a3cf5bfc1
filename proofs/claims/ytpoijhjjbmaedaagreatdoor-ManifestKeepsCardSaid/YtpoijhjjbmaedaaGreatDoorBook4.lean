/- The book: may. -/
import Derived.Test.YtpoijhjjbmaedaaGreatDoorBookA
set_option linter.unusedVariables false
set_option linter.unusedSimpArgs false
namespace Go.Proofs.YtpoijhjjbmaedaaGreatDoor.Bk
open Go.RowKit
open Go.Proofs.YtpoijhjjbmaedaaGreatDoor.Bit (SetAt hasB)

set_option maxRecDepth 100000 in
set_option maxHeartbeats 2000000 in
theorem may_no0 (S : Nat → Prop) (b n codes : Nat) (group next clock : Int) (L : List Bkg) (q : Parts) (id seat til last : Int) (w : World) (h : BookAt S w b n codes group next clock L q) (c0 : decide (id ≤ last) = true) :
    Calls Tryz.prog 39 #[.pointer (some ⟨b, 0, none⟩), .agg #[.int .u32 id, .int .i64 seat, .int .i64 til], .int .u32 last] w fun e w' => e = .returned (.bool false) ∧ Below w.heap.size w w' := by
  have HH := Lib.hid h
  clear h
  go_enter Tryz.func39, Tryz.ntmps39
  go_wp2_with fail
  have hb1 : Below w.heap.size w (w.alloc (.cells #[.int .u32 id, .int .i64 seat, .int .i64 til] 78)) := ext_alloc (Below.refl _ _) _
  have hA1 : Arr (w.alloc (.cells #[.int .u32 id, .int .i64 seat, .int .i64 til] 78)) w.heap.size 78 #[.int .u32 id, .int .i64 seat, .int .i64 til] := Arr.fresh w _ _
  obtain ⟨w1, hw1⟩ : ∃ w1, w.alloc (.cells #[.int .u32 id, .int .i64 seat, .int .i64 til] 78) = w1 := ⟨_, rfl⟩
  obtain ⟨vb, hvb⟩ : ∃ vb, w.heap.size = vb := ⟨_, rfl⟩
  rw [hw1] at hb1 hA1 ⊢
  have HC1 := Lib.hid (HH.out.comp.below hb1)
  have HB1 := Lib.hid hb1
  clear hb1
  rw [hvb] at hA1 ⊢
  clear hw1 hvb
  have HCS : ∀ w', Below w1.heap.size w1 w' → (w'.cell? ⟨vb, 0, none⟩ = some (.int .u32 id) ∧ w'.cell? ⟨vb, 1, none⟩ = some (.int .i64 seat) ∧ w'.cell? ⟨vb, 2, none⟩ = some (.int .i64 til) ∧ w'.cell? ⟨b, 0, none⟩ = some (.int .i64 n) ∧ w'.cell? ⟨b, 4, none⟩ = some (.int .i64 clock) ∧ w'.cell? ⟨b, 5, none⟩ = some (.int .u32 next) ∧ w'.cell? ⟨b, 6, none⟩ = some (.pointer (some ⟨q.tp, 0, none⟩)) ∧ Below w1.heap.size w1 w') := fun w' hb => ⟨(hA1.keep hb).cell 0, (hA1.keep hb).cell 1, (hA1.keep hb).cell 2, (HC1.out.own.keep hb).cell 0, (HC1.out.own.keep hb).cell 4, (HC1.out.own.keep hb).cell 5, (HC1.out.own.keep hb).cell 6, hb⟩
  have HCS := Lib.hid HCS
  clear hA1
  refine wp_region_held_drew (S := (fun w' => w'.cell? ⟨vb, 0, none⟩ = some (.int .u32 id) ∧ w'.cell? ⟨vb, 1, none⟩ = some (.int .i64 seat) ∧ w'.cell? ⟨vb, 2, none⟩ = some (.int .i64 til) ∧ w'.cell? ⟨b, 0, none⟩ = some (.int .i64 n) ∧ w'.cell? ⟨b, 4, none⟩ = some (.int .i64 clock) ∧ w'.cell? ⟨b, 5, none⟩ = some (.int .u32 next) ∧ w'.cell? ⟨b, 6, none⟩ = some (.pointer (some ⟨q.tp, 0, none⟩)) ∧ Below w1.heap.size w1 w')) (by kernel_rfl) (by exact HCS.out _ (ext_drew (Below.refl _ _))) (fun hHeld => ?_)
  refine take_yes (i := 0) (oi := ?o1) (d := (some 8)) (v := ?v1) ?hi1 (by kernel_rfl) (by kernel_rfl) (by kernel_rfl) (fun _ _ _ h => h) ?hd1 ?hw1 ?hy1 (by assumption) ?_
  case hi1 => (simp only [List.getElem?_toArray, List.getElem?_cons_zero]; exact rfl)
  case hd1 => rfl
  case hw1 => rfl
  case hy1 => (intro w hSw; (try dsimp only at hSw); go_simp; try with_reducible rfl)
  try simp only [Act.put, List.setIfInBounds_toArray, List.set_cons_zero, List.set_cons_succ]
  refine take_yes (i := 1) (oi := ?o2) (d := (some 9)) (v := ?v2) ?hi2 (by kernel_rfl) (by kernel_rfl) (by kernel_rfl) (fun _ _ _ h => h) ?hd2 ?hw2 ?hy2 (by assumption) ?_
  case hi2 => (simp only [List.getElem?_toArray, List.getElem?_cons_zero, List.getElem?_cons_succ]; exact rfl)
  case hd2 => rfl
  case hw2 => rfl
  case hy2 => (intro w hSw; (try dsimp only at hSw); go_simp; try with_reducible rfl)
  try simp only [Act.put, List.setIfInBounds_toArray, List.set_cons_zero, List.set_cons_succ]
  refine take_yes (i := 2) (oi := ?o3) (d := (some 10)) (v := ?v3) ?hi3 (by kernel_rfl) (by kernel_rfl) (by kernel_rfl) (fun _ _ _ h => h) ?hd3 ?hw3 ?hy3 (by assumption) ?_
  case hi3 => (simp only [List.getElem?_toArray, List.getElem?_cons_zero, List.getElem?_cons_succ]; exact rfl)
  case hd3 => rfl
  case hw3 => rfl
  case hy3 => (intro w hSw; (try dsimp only at hSw); go_simp; try with_reducible rfl)
  try simp only [Act.put, List.setIfInBounds_toArray, List.set_cons_zero, List.set_cons_succ]
  refine take_yes (i := 3) (oi := ?o4) (d := (some 11)) (v := ?v4) ?hi4 (by kernel_rfl) (by kernel_rfl) (by kernel_rfl) (fun _ _ _ h => h) ?hd4 ?hw4 ?hy4 (by assumption) ?_
  case hi4 => (simp only [List.getElem?_toArray, List.getElem?_cons_zero, List.getElem?_cons_succ]; exact rfl)
  case hd4 => rfl
  case hw4 => rfl
  case hy4 => (intro w hSw; (try dsimp only at hSw); go_simp; try with_reducible rfl)
  try simp only [Act.put, List.setIfInBounds_toArray, List.set_cons_zero, List.set_cons_succ]
  refine take_yes (i := 4) (oi := ?o5) (d := (some 12)) (v := ?v5) ?hi5 (by kernel_rfl) (by kernel_rfl) (by kernel_rfl) (fun _ _ _ h => h) ?hd5 ?hw5 ?hy5 (by assumption) ?_
  case hi5 => (simp only [List.getElem?_toArray, List.getElem?_cons_zero, List.getElem?_cons_succ]; exact rfl)
  case hd5 => rfl
  case hw5 => rfl
  case hy5 => (intro w hSw; (try dsimp only at hSw); go_simp; try with_reducible rfl)
  try simp only [Act.put, List.setIfInBounds_toArray, List.set_cons_zero, List.set_cons_succ]
  refine take_no (i := 5) (oi := ?o6) (d := (some 13)) ?hi6 (by kernel_rfl) (by kernel_rfl) (by kernel_rfl) (fun _ _ _ h => h) ?hd6 ?hw6 (by assumption) ?_
  case hi6 => (simp only [List.getElem?_toArray, List.getElem?_cons_zero, List.getElem?_cons_succ]; exact rfl)
  case hd6 => rfl
  case hw6 => rfl
  try simp only [Act.put, List.setIfInBounds_toArray, List.set_cons_zero, List.set_cons_succ]
  refine take_no (i := 6) (oi := ?o7) (d := (some 14)) ?hi7 (by kernel_rfl) (by kernel_rfl) (by kernel_rfl) (fun _ _ _ h => h) ?hd7 ?hw7 (by assumption) ?_
  case hi7 => (simp only [List.getElem?_toArray, List.getElem?_cons_zero, List.getElem?_cons_succ]; exact rfl)
  case hd7 => rfl
  case hw7 => rfl
  try simp only [Act.put, List.setIfInBounds_toArray, List.set_cons_zero, List.set_cons_succ]
  refine take_no (i := 7) (oi := ?o8) (d := (some 15)) ?hi8 (by kernel_rfl) (by kernel_rfl) (by kernel_rfl) (fun _ _ _ h => h) ?hd8 ?hw8 (by assumption) ?_
  case hi8 => (simp only [List.getElem?_toArray, List.getElem?_cons_zero, List.getElem?_cons_succ]; exact rfl)
  case hd8 => rfl
  case hw8 => rfl
  try simp only [Act.put, List.setIfInBounds_toArray, List.set_cons_zero, List.set_cons_succ]
  refine take_no (i := 8) (oi := ?o9) (d := (some 16)) ?hi9 (by kernel_rfl) (by kernel_rfl) (by kernel_rfl) (fun _ _ _ h => h) ?hd9 ?hw9 (by assumption) ?_
  case hi9 => (simp only [List.getElem?_toArray, List.getElem?_cons_zero, List.getElem?_cons_succ]; exact rfl)
  case hd9 => rfl
  case hw9 => rfl
  try simp only [Act.put, List.setIfInBounds_toArray, List.set_cons_zero, List.set_cons_succ]
  refine take_no (i := 9) (oi := ?o10) (d := (some 17)) ?hi10 (by kernel_rfl) (by kernel_rfl) (by kernel_rfl) (fun _ _ _ h => h) ?hd10 ?hw10 (by assumption) ?_
  case hi10 => (simp only [List.getElem?_toArray, List.getElem?_cons_zero, List.getElem?_cons_succ]; exact rfl)
  case hd10 => rfl
  case hw10 => rfl
  try simp only [Act.put, List.setIfInBounds_toArray, List.set_cons_zero, List.set_cons_succ]
  refine take_no (i := 10) (oi := ?o11) (d := (some 18)) ?hi11 (by kernel_rfl) (by kernel_rfl) (by kernel_rfl) (fun _ _ _ h => h) ?hd11 ?hw11 (by assumption) ?_
  case hi11 => (simp only [List.getElem?_toArray, List.getElem?_cons_zero, List.getElem?_cons_succ]; exact rfl)
  case hd11 => rfl
  case hw11 => rfl
  try simp only [Act.put, List.setIfInBounds_toArray, List.set_cons_zero, List.set_cons_succ]
  refine take_no (i := 11) (oi := ?o12) (d := (some 19)) ?hi12 (by kernel_rfl) (by kernel_rfl) (by kernel_rfl) (fun _ _ _ h => h) ?hd12 ?hw12 (by assumption) ?_
  case hi12 => (simp only [List.getElem?_toArray, List.getElem?_cons_zero, List.getElem?_cons_succ]; exact rfl)
  case hd12 => rfl
  case hw12 => rfl
  try simp only [Act.put, List.setIfInBounds_toArray, List.set_cons_zero, List.set_cons_succ]
  refine take_yes (i := 12) (oi := ?o13) (d := (some 20)) (v := ?v13) ?hi13 (by kernel_rfl) (by kernel_rfl) (by kernel_rfl) (fun _ _ _ h => h) ?hd13 ?hw13 ?hy13 (by assumption) ?_
  case hi13 => (simp only [List.getElem?_toArray, List.getElem?_cons_zero, List.getElem?_cons_succ]; exact rfl)
  case hd13 => rfl
  case hw13 => rfl
  case hy13 => (intro w hSw; (try dsimp only at hSw); go_simp; try with_reducible rfl)
  try simp only [Act.put, List.setIfInBounds_toArray, List.set_cons_zero, List.set_cons_succ]
  refine take_yes (i := 13) (oi := ?o14) (d := (some 21)) (v := ?v14) ?hi14 (by kernel_rfl) (by kernel_rfl) (by kernel_rfl) (fun _ _ _ h => h) ?hd14 ?hw14 ?hy14 (by assumption) ?_
  case hi14 => (simp only [List.getElem?_toArray, List.getElem?_cons_zero, List.getElem?_cons_succ]; exact rfl)
  case hd14 => rfl
  case hw14 => rfl
  case hy14 => (intro w hSw; (try dsimp only at hSw); go_simp; try with_reducible rfl)
  try simp only [Act.put, List.setIfInBounds_toArray, List.set_cons_zero, List.set_cons_succ]
  refine take_no (i := 14) (oi := ?o15) (d := (some 22)) ?hi15 (by kernel_rfl) (by kernel_rfl) (by kernel_rfl) (fun _ _ _ h => h) ?hd15 ?hw15 (by assumption) ?_
  case hi15 => (simp only [List.getElem?_toArray, List.getElem?_cons_zero, List.getElem?_cons_succ]; exact rfl)
  case hd15 => rfl
  case hw15 => rfl
  try simp only [Act.put, List.setIfInBounds_toArray, List.set_cons_zero, List.set_cons_succ]
  refine take_no (i := 15) (oi := ?o16) (d := (some 23)) ?hi16 (by kernel_rfl) (by kernel_rfl) (by kernel_rfl) (fun _ _ _ h => h) ?hd16 ?hw16 (by assumption) ?_
  case hi16 => (simp only [List.getElem?_toArray, List.getElem?_cons_zero, List.getElem?_cons_succ]; exact rfl)
  case hd16 => rfl
  case hw16 => rfl
  try simp only [Act.put, List.setIfInBounds_toArray, List.set_cons_zero, List.set_cons_succ]
  refine take_no (i := 16) (oi := ?o17) (d := (some 24)) ?hi17 (by kernel_rfl) (by kernel_rfl) (by kernel_rfl) (fun _ _ _ h => h) ?hd17 ?hw17 (by assumption) ?_
  case hi17 => (simp only [List.getElem?_toArray, List.getElem?_cons_zero, List.getElem?_cons_succ]; exact rfl)
  case hd17 => rfl
  case hw17 => rfl
  try simp only [Act.put, List.setIfInBounds_toArray, List.set_cons_zero, List.set_cons_succ]
  refine take_yes (i := 17) (oi := ?o18) (d := (some 25)) (v := ?v18) ?hi18 (by kernel_rfl) (by kernel_rfl) (by kernel_rfl) (fun _ _ _ h => h) ?hd18 ?hw18 ?hy18 (by assumption) ?_
  case hi18 => (simp only [List.getElem?_toArray, List.getElem?_cons_zero, List.getElem?_cons_succ]; exact rfl)
  case hd18 => rfl
  case hw18 => rfl
  case hy18 => (intro w hSw; (try dsimp only at hSw); go_simp; try with_reducible rfl)
  try simp only [Act.put, List.setIfInBounds_toArray, List.set_cons_zero, List.set_cons_succ]
  refine take_yes (i := 18) (oi := ?o19) (d := (some 26)) (v := ?v19) ?hi19 (by kernel_rfl) (by kernel_rfl) (by kernel_rfl) (fun _ _ _ h => h) ?hd19 ?hw19 ?hy19 (by assumption) ?_
  case hi19 => (simp only [List.getElem?_toArray, List.getElem?_cons_zero, List.getElem?_cons_succ]; exact rfl)
  case hd19 => rfl
  case hw19 => rfl
  case hy19 => (intro w hSw; (try dsimp only at hSw); go_simp; try with_reducible rfl)
  try simp only [Act.put, List.setIfInBounds_toArray, List.set_cons_zero, List.set_cons_succ]
  refine take_no (i := 19) (oi := ?o20) (d := (some 27)) ?hi20 (by kernel_rfl) (by kernel_rfl) (by kernel_rfl) (fun _ _ _ h => h) ?hd20 ?hw20 (by assumption) ?_
  case hi20 => (simp only [List.getElem?_toArray, List.getElem?_cons_zero, List.getElem?_cons_succ]; exact rfl)
  case hd20 => rfl
  case hw20 => rfl
  try simp only [Act.put, List.setIfInBounds_toArray, List.set_cons_zero, List.set_cons_succ]
  refine take_no (i := 20) (oi := ?o21) (d := (some 28)) ?hi21 (by kernel_rfl) (by kernel_rfl) (by kernel_rfl) (fun _ _ _ h => h) ?hd21 ?hw21 (by assumption) ?_
  case hi21 => (simp only [List.getElem?_toArray, List.getElem?_cons_zero, List.getElem?_cons_succ]; exact rfl)
  case hd21 => rfl
  case hw21 => rfl
  try simp only [Act.put, List.setIfInBounds_toArray, List.set_cons_zero, List.set_cons_succ]
  refine take_no (i := 21) (oi := ?o22) (d := (some 29)) ?hi22 (by kernel_rfl) (by kernel_rfl) (by kernel_rfl) (fun _ _ _ h => h) ?hd22 ?hw22 (by assumption) ?_
  case hi22 => (simp only [List.getElem?_toArray, List.getElem?_cons_zero, List.getElem?_cons_succ]; exact rfl)
  case hd22 => rfl
  case hw22 => rfl
  try simp only [Act.put, List.setIfInBounds_toArray, List.set_cons_zero, List.set_cons_succ]
  refine take_no (i := 22) (oi := ?o23) (d := (some 30)) ?hi23 (by kernel_rfl) (by kernel_rfl) (by kernel_rfl) (fun _ _ _ h => h) ?hd23 ?hw23 (by assumption) ?_
  case hi23 => (simp only [List.getElem?_toArray, List.getElem?_cons_zero, List.getElem?_cons_succ]; exact rfl)
  case hd23 => rfl
  case hw23 => rfl
  try simp only [Act.put, List.setIfInBounds_toArray, List.set_cons_zero, List.set_cons_succ]
  refine take_no (i := 23) (oi := ?o24) (d := (some 31)) ?hi24 (by kernel_rfl) (by kernel_rfl) (by kernel_rfl) (fun _ _ _ h => h) ?hd24 ?hw24 (by assumption) ?_
  case hi24 => (simp only [List.getElem?_toArray, List.getElem?_cons_zero, List.getElem?_cons_succ]; exact rfl)
  case hd24 => rfl
  case hw24 => rfl
  try simp only [Act.put, List.setIfInBounds_toArray, List.set_cons_zero, List.set_cons_succ]
  refine take_no (i := 24) (oi := ?o25) (d := (some 32)) ?hi25 (by kernel_rfl) (by kernel_rfl) (by kernel_rfl) (fun _ _ _ h => h) ?hd25 ?hw25 (by assumption) ?_
  case hi25 => (simp only [List.getElem?_toArray, List.getElem?_cons_zero, List.getElem?_cons_succ]; exact rfl)
  case hd25 => rfl
  case hw25 => rfl
  try simp only [Act.put, List.setIfInBounds_toArray, List.set_cons_zero, List.set_cons_succ]
  refine take_no (i := 25) (oi := ?o26) (d := (some 33)) ?hi26 (by kernel_rfl) (by kernel_rfl) (by kernel_rfl) (fun _ _ _ h => h) ?hd26 ?hw26 (by assumption) ?_
  case hi26 => (simp only [List.getElem?_toArray, List.getElem?_cons_zero, List.getElem?_cons_succ]; exact rfl)
  case hd26 => rfl
  case hw26 => rfl
  try simp only [Act.put, List.setIfInBounds_toArray, List.set_cons_zero, List.set_cons_succ]
  refine take_no (i := 26) (oi := ?o27) (d := (some 34)) ?hi27 (by kernel_rfl) (by kernel_rfl) (by kernel_rfl) (fun _ _ _ h => h) ?hd27 ?hw27 (by assumption) ?_
  case hi27 => (simp only [List.getElem?_toArray, List.getElem?_cons_zero, List.getElem?_cons_succ]; exact rfl)
  case hd27 => rfl
  case hw27 => rfl
  try simp only [Act.put, List.setIfInBounds_toArray, List.set_cons_zero, List.set_cons_succ]
  refine take_no (i := 27) (oi := ?o28) (d := (some 35)) ?hi28 (by kernel_rfl) (by kernel_rfl) (by kernel_rfl) (fun _ _ _ h => h) ?hd28 ?hw28 (by assumption) ?_
  case hi28 => (simp only [List.getElem?_toArray, List.getElem?_cons_zero, List.getElem?_cons_succ]; exact rfl)
  case hd28 => rfl
  case hw28 => rfl
  try simp only [Act.put, List.setIfInBounds_toArray, List.set_cons_zero, List.set_cons_succ]
  refine take_yes (i := 28) (oi := ?o29) (d := (some 36)) (v := ?v29) ?hi29 (by kernel_rfl) (by kernel_rfl) (by kernel_rfl) (fun _ _ _ h => h) ?hd29 ?hw29 ?hy29 (by assumption) ?_
  case hi29 => (simp only [List.getElem?_toArray, List.getElem?_cons_zero, List.getElem?_cons_succ]; exact rfl)
  case hd29 => rfl
  case hw29 => rfl
  case hy29 => (intro w hSw; (try dsimp only at hSw); go_simp; try with_reducible rfl)
  try simp only [Act.put, List.setIfInBounds_toArray, List.set_cons_zero, List.set_cons_succ]
  refine take_yes (i := 29) (oi := ?o30) (d := (some 37)) (v := ?v30) ?hi30 (by kernel_rfl) (by kernel_rfl) (by kernel_rfl) (fun _ _ _ h => h) ?hd30 ?hw30 ?hy30 (by assumption) ?_
  case hi30 => (simp only [List.getElem?_toArray, List.getElem?_cons_zero, List.getElem?_cons_succ]; exact rfl)
  case hd30 => rfl
  case hw30 => rfl
  case hy30 => (intro w hSw; (try dsimp only at hSw); go_simp; try with_reducible rfl)
  try simp only [Act.put, List.setIfInBounds_toArray, List.set_cons_zero, List.set_cons_succ]
  refine take_no (i := 30) (oi := ?o31) (d := (some 38)) ?hi31 (by kernel_rfl) (by kernel_rfl) (by kernel_rfl) (fun _ _ _ h => h) ?hd31 ?hw31 (by assumption) ?_
  case hi31 => (simp only [List.getElem?_toArray, List.getElem?_cons_zero, List.getElem?_cons_succ]; exact rfl)
  case hd31 => rfl
  case hw31 => rfl
  try simp only [Act.put, List.setIfInBounds_toArray, List.set_cons_zero, List.set_cons_succ]
  refine take_no (i := 31) (oi := ?o32) (d := (some 39)) ?hi32 (by kernel_rfl) (by kernel_rfl) (by kernel_rfl) (fun _ _ _ h => h) ?hd32 ?hw32 (by assumption) ?_
  case hi32 => (simp only [List.getElem?_toArray, List.getElem?_cons_zero, List.getElem?_cons_succ]; exact rfl)
  case hd32 => rfl
  case hw32 => rfl
  try simp only [Act.put, List.setIfInBounds_toArray, List.set_cons_zero, List.set_cons_succ]
  refine take_no (i := 32) (oi := ?o33) (d := (some 40)) ?hi33 (by kernel_rfl) (by kernel_rfl) (by kernel_rfl) (fun _ _ _ h => h) ?hd33 ?hw33 (by assumption) ?_
  case hi33 => (simp only [List.getElem?_toArray, List.getElem?_cons_zero, List.getElem?_cons_succ]; exact rfl)
  case hd33 => rfl
  case hw33 => rfl
  try simp only [Act.put, List.setIfInBounds_toArray, List.set_cons_zero, List.set_cons_succ]
  refine take_no (i := 33) (oi := ?o34) (d := (some 41)) ?hi34 (by kernel_rfl) (by kernel_rfl) (by kernel_rfl) (fun _ _ _ h => h) ?hd34 ?hw34 (by assumption) ?_
  case hi34 => (simp only [List.getElem?_toArray, List.getElem?_cons_zero, List.getElem?_cons_succ]; exact rfl)
  case hd34 => rfl
  case hw34 => rfl
  try simp only [Act.put, List.setIfInBounds_toArray, List.set_cons_zero, List.set_cons_succ]
  refine take_no (i := 34) (oi := ?o35) (d := (some 42)) ?hi35 (by kernel_rfl) (by kernel_rfl) (by kernel_rfl) (fun _ _ _ h => h) ?hd35 ?hw35 (by assumption) ?_
  case hi35 => (simp only [List.getElem?_toArray, List.getElem?_cons_zero, List.getElem?_cons_succ]; exact rfl)
  case hd35 => rfl
  case hw35 => rfl
  try simp only [Act.put, List.setIfInBounds_toArray, List.set_cons_zero, List.set_cons_succ]
  refine take_no (i := 35) (oi := ?o36) (d := (some 43)) ?hi36 (by kernel_rfl) (by kernel_rfl) (by kernel_rfl) (fun _ _ _ h => h) ?hd36 ?hw36 (by assumption) ?_
  case hi36 => (simp only [List.getElem?_toArray, List.getElem?_cons_zero, List.getElem?_cons_succ]; exact rfl)
  case hd36 => rfl
  case hw36 => rfl
  try simp only [Act.put, List.setIfInBounds_toArray, List.set_cons_zero, List.set_cons_succ]
  refine take_no (i := 36) (oi := ?o37) (d := (some 44)) ?hi37 (by kernel_rfl) (by kernel_rfl) (by kernel_rfl) (fun _ _ _ h => h) ?hd37 ?hw37 (by assumption) ?_
  case hi37 => (simp only [List.getElem?_toArray, List.getElem?_cons_zero, List.getElem?_cons_succ]; exact rfl)
  case hd37 => rfl
  case hw37 => rfl
  try simp only [Act.put, List.setIfInBounds_toArray, List.set_cons_zero, List.set_cons_succ]
  refine take_yes (i := 37) (oi := ?o38) (d := (some 45)) (v := ?v38) ?hi38 (by kernel_rfl) (by kernel_rfl) (by kernel_rfl) (fun _ _ _ h => h) ?hd38 ?hw38 ?hy38 (by assumption) ?_
  case hi38 => (simp only [List.getElem?_toArray, List.getElem?_cons_zero, List.getElem?_cons_succ]; exact rfl)
  case hd38 => rfl
  case hw38 => rfl
  case hy38 => (intro w hSw; (try dsimp only at hSw); go_simp; try with_reducible rfl)
  try simp only [Act.put, List.setIfInBounds_toArray, List.set_cons_zero, List.set_cons_succ]
  refine take_yes (i := 38) (oi := ?o39) (d := (some 7)) (v := ?v39) ?hi39 (by kernel_rfl) (by kernel_rfl) (by kernel_rfl) (fun _ _ _ h => h) ?hd39 ?hw39 ?hy39 (by assumption) ?_
  case hi39 => (simp only [List.getElem?_toArray, List.getElem?_cons_zero, List.getElem?_cons_succ]; exact rfl)
  case hd39 => rfl
  case hw39 => rfl
  case hy39 => (intro w hSw; (try dsimp only at hSw); go_simp; try with_reducible rfl)
  try simp only [Act.put, List.setIfInBounds_toArray, List.set_cons_zero, List.set_cons_succ]
  refine wpAnyH_done (by kernel_rfl) ?_ _
  go_wp2_with fail
  go_ret
  exact ⟨rfl, ext_trans HB1.out (ext_drew (Below.refl _ _))⟩
set_option maxRecDepth 100000 in
set_option maxHeartbeats 2000000 in
theorem may_no1 (S : Nat → Prop) (b n codes : Nat) (group next clock : Int) (L : List Bkg) (q : Parts) (id seat til last : Int) (w : World) (h : BookAt S w b n codes group next clock L q) (c0 : decide (id ≤ last) = false) (c1 : decide (next ≤ id) = true) :
    Calls Tryz.prog 39 #[.pointer (some ⟨b, 0, none⟩), .agg #[.int .u32 id, .int .i64 seat, .int .i64 til], .int .u32 last] w fun e w' => e = .returned (.bool false) ∧ Below w.heap.size w w' := by
  have HH := Lib.hid h
  clear h
  go_enter Tryz.func39, Tryz.ntmps39
  go_wp2_with fail
  have hb1 : Below w.heap.size w (w.alloc (.cells #[.int .u32 id, .int .i64 seat, .int .i64 til] 78)) := ext_alloc (Below.refl _ _) _
  have hA1 : Arr (w.alloc (.cells #[.int .u32 id, .int .i64 seat, .int .i64 til] 78)) w.heap.size 78 #[.int .u32 id, .int .i64 seat, .int .i64 til] := Arr.fresh w _ _
  obtain ⟨w1, hw1⟩ : ∃ w1, w.alloc (.cells #[.int .u32 id, .int .i64 seat, .int .i64 til] 78) = w1 := ⟨_, rfl⟩
  obtain ⟨vb, hvb⟩ : ∃ vb, w.heap.size = vb := ⟨_, rfl⟩
  rw [hw1] at hb1 hA1 ⊢
  have HC1 := Lib.hid (HH.out.comp.below hb1)
  have HB1 := Lib.hid hb1
  clear hb1
  rw [hvb] at hA1 ⊢
  clear hw1 hvb
  have HCS : ∀ w', Below w1.heap.size w1 w' → (w'.cell? ⟨vb, 0, none⟩ = some (.int .u32 id) ∧ w'.cell? ⟨vb, 1, none⟩ = some (.int .i64 seat) ∧ w'.cell? ⟨vb, 2, none⟩ = some (.int .i64 til) ∧ w'.cell? ⟨b, 0, none⟩ = some (.int .i64 n) ∧ w'.cell? ⟨b, 4, none⟩ = some (.int .i64 clock) ∧ w'.cell? ⟨b, 5, none⟩ = some (.int .u32 next) ∧ w'.cell? ⟨b, 6, none⟩ = some (.pointer (some ⟨q.tp, 0, none⟩)) ∧ Below w1.heap.size w1 w') := fun w' hb => ⟨(hA1.keep hb).cell 0, (hA1.keep hb).cell 1, (hA1.keep hb).cell 2, (HC1.out.own.keep hb).cell 0, (HC1.out.own.keep hb).cell 4, (HC1.out.own.keep hb).cell 5, (HC1.out.own.keep hb).cell 6, hb⟩
  have HCS := Lib.hid HCS
  clear hA1
  refine wp_region_held_drew (S := (fun w' => w'.cell? ⟨vb, 0, none⟩ = some (.int .u32 id) ∧ w'.cell? ⟨vb, 1, none⟩ = some (.int .i64 seat) ∧ w'.cell? ⟨vb, 2, none⟩ = some (.int .i64 til) ∧ w'.cell? ⟨b, 0, none⟩ = some (.int .i64 n) ∧ w'.cell? ⟨b, 4, none⟩ = some (.int .i64 clock) ∧ w'.cell? ⟨b, 5, none⟩ = some (.int .u32 next) ∧ w'.cell? ⟨b, 6, none⟩ = some (.pointer (some ⟨q.tp, 0, none⟩)) ∧ Below w1.heap.size w1 w')) (by kernel_rfl) (by exact HCS.out _ (ext_drew (Below.refl _ _))) (fun hHeld => ?_)
  refine take_yes (i := 0) (oi := ?o40) (d := (some 8)) (v := ?v40) ?hi40 (by kernel_rfl) (by kernel_rfl) (by kernel_rfl) (fun _ _ _ h => h) ?hd40 ?hw40 ?hy40 (by assumption) ?_
  case hi40 => (simp only [List.getElem?_toArray, List.getElem?_cons_zero]; exact rfl)
  case hd40 => rfl
  case hw40 => rfl
  case hy40 => (intro w hSw; (try dsimp only at hSw); go_simp; try with_reducible rfl)
  try simp only [Act.put, List.setIfInBounds_toArray, List.set_cons_zero, List.set_cons_succ]
  refine take_yes (i := 1) (oi := ?o41) (d := (some 9)) (v := ?v41) ?hi41 (by kernel_rfl) (by kernel_rfl) (by kernel_rfl) (fun _ _ _ h => h) ?hd41 ?hw41 ?hy41 (by assumption) ?_
  case hi41 => (simp only [List.getElem?_toArray, List.getElem?_cons_zero, List.getElem?_cons_succ]; exact rfl)
  case hd41 => rfl
  case hw41 => rfl
  case hy41 => (intro w hSw; (try dsimp only at hSw); go_simp; try with_reducible rfl)
  try simp only [Act.put, List.setIfInBounds_toArray, List.set_cons_zero, List.set_cons_succ]
  refine take_yes (i := 2) (oi := ?o42) (d := (some 10)) (v := ?v42) ?hi42 (by kernel_rfl) (by kernel_rfl) (by kernel_rfl) (fun _ _ _ h => h) ?hd42 ?hw42 ?hy42 (by assumption) ?_
  case hi42 => (simp only [List.getElem?_toArray, List.getElem?_cons_zero, List.getElem?_cons_succ]; exact rfl)
  case hd42 => rfl
  case hw42 => rfl
  case hy42 => (intro w hSw; (try dsimp only at hSw); go_simp; try with_reducible rfl)
  try simp only [Act.put, List.setIfInBounds_toArray, List.set_cons_zero, List.set_cons_succ]
  refine take_yes (i := 3) (oi := ?o43) (d := (some 11)) (v := ?v43) ?hi43 (by kernel_rfl) (by kernel_rfl) (by kernel_rfl) (fun _ _ _ h => h) ?hd43 ?hw43 ?hy43 (by assumption) ?_
  case hi43 => (simp only [List.getElem?_toArray, List.getElem?_cons_zero, List.getElem?_cons_succ]; exact rfl)
  case hd43 => rfl
  case hw43 => rfl
  case hy43 => (intro w hSw; (try dsimp only at hSw); go_simp; try with_reducible rfl)
  try simp only [Act.put, List.setIfInBounds_toArray, List.set_cons_zero, List.set_cons_succ]
  refine take_yes (i := 4) (oi := ?o44) (d := (some 12)) (v := ?v44) ?hi44 (by kernel_rfl) (by kernel_rfl) (by kernel_rfl) (fun _ _ _ h => h) ?hd44 ?hw44 ?hy44 (by assumption) ?_
  case hi44 => (simp only [List.getElem?_toArray, List.getElem?_cons_zero, List.getElem?_cons_succ]; exact rfl)
  case hd44 => rfl
  case hw44 => rfl
  case hy44 => (intro w hSw; (try dsimp only at hSw); go_simp; try with_reducible rfl)
  try simp only [Act.put, List.setIfInBounds_toArray, List.set_cons_zero, List.set_cons_succ]
  refine take_yes (i := 5) (oi := ?o45) (d := (some 13)) (v := ?v45) ?hi45 (by kernel_rfl) (by kernel_rfl) (by kernel_rfl) (fun _ _ _ h => h) ?hd45 ?hw45 ?hy45 (by assumption) ?_
  case hi45 => (simp only [List.getElem?_toArray, List.getElem?_cons_zero, List.getElem?_cons_succ]; exact rfl)
  case hd45 => rfl
  case hw45 => rfl
  case hy45 => (intro w hSw; (try dsimp only at hSw); go_simp; try with_reducible rfl)
  try simp only [Act.put, List.setIfInBounds_toArray, List.set_cons_zero, List.set_cons_succ]
  refine take_yes (i := 6) (oi := ?o46) (d := (some 14)) (v := ?v46) ?hi46 (by kernel_rfl) (by kernel_rfl) (by kernel_rfl) (fun _ _ _ h => h) ?hd46 ?hw46 ?hy46 (by assumption) ?_
  case hi46 => (simp only [List.getElem?_toArray, List.getElem?_cons_zero, List.getElem?_cons_succ]; exact rfl)
  case hd46 => rfl
  case hw46 => rfl
  case hy46 => (intro w hSw; (try dsimp only at hSw); go_simp; try with_reducible rfl)
  try simp only [Act.put, List.setIfInBounds_toArray, List.set_cons_zero, List.set_cons_succ]
  refine take_yes (i := 7) (oi := ?o47) (d := (some 15)) (v := ?v47) ?hi47 (by kernel_rfl) (by kernel_rfl) (by kernel_rfl) (fun _ _ _ h => h) ?hd47 ?hw47 ?hy47 (by assumption) ?_
  case hi47 => (simp only [List.getElem?_toArray, List.getElem?_cons_zero, List.getElem?_cons_succ]; exact rfl)
  case hd47 => rfl
  case hw47 => rfl
  case hy47 => (intro w hSw; (try dsimp only at hSw); go_simp; try with_reducible rfl)
  try simp only [Act.put, List.setIfInBounds_toArray, List.set_cons_zero, List.set_cons_succ]
  refine take_yes (i := 8) (oi := ?o48) (d := (some 16)) (v := ?v48) ?hi48 (by kernel_rfl) (by kernel_rfl) (by kernel_rfl) (fun _ _ _ h => h) ?hd48 ?hw48 ?hy48 (by assumption) ?_
  case hi48 => (simp only [List.getElem?_toArray, List.getElem?_cons_zero, List.getElem?_cons_succ]; exact rfl)
  case hd48 => rfl
  case hw48 => rfl
  case hy48 => (intro w hSw; (try dsimp only at hSw); go_simp; try with_reducible rfl)
  try simp only [Act.put, List.setIfInBounds_toArray, List.set_cons_zero, List.set_cons_succ]
  refine take_yes (i := 9) (oi := ?o49) (d := (some 17)) (v := ?v49) ?hi49 (by kernel_rfl) (by kernel_rfl) (by kernel_rfl) (fun _ _ _ h => h) ?hd49 ?hw49 ?hy49 (by assumption) ?_
  case hi49 => (simp only [List.getElem?_toArray, List.getElem?_cons_zero, List.getElem?_cons_succ]; exact rfl)
  case hd49 => rfl
  case hw49 => rfl
  case hy49 => (intro w hSw; (try dsimp only at hSw); go_simp; try with_reducible rfl)
  try simp only [Act.put, List.setIfInBounds_toArray, List.set_cons_zero, List.set_cons_succ]
  refine take_yes (i := 10) (oi := ?o50) (d := (some 18)) (v := ?v50) ?hi50 (by kernel_rfl) (by kernel_rfl) (by kernel_rfl) (fun _ _ _ h => h) ?hd50 ?hw50 ?hy50 (by assumption) ?_
  case hi50 => (simp only [List.getElem?_toArray, List.getElem?_cons_zero, List.getElem?_cons_succ]; exact rfl)
  case hd50 => rfl
  case hw50 => rfl
  case hy50 => (intro w hSw; (try dsimp only at hSw); go_simp; try with_reducible rfl)
  try simp only [Act.put, List.setIfInBounds_toArray, List.set_cons_zero, List.set_cons_succ]
  refine take_yes (i := 11) (oi := ?o51) (d := (some 19)) (v := ?v51) ?hi51 (by kernel_rfl) (by kernel_rfl) (by kernel_rfl) (fun _ _ _ h => h) ?hd51 ?hw51 ?hy51 (by assumption) ?_
  case hi51 => (simp only [List.getElem?_toArray, List.getElem?_cons_zero, List.getElem?_cons_succ]; exact rfl)
  case hd51 => rfl
  case hw51 => rfl
  case hy51 => (intro w hSw; (try dsimp only at hSw); go_simp; try with_reducible rfl)
  try simp only [Act.put, List.setIfInBounds_toArray, List.set_cons_zero, List.set_cons_succ]
  refine take_yes (i := 12) (oi := ?o52) (d := (some 20)) (v := ?v52) ?hi52 (by kernel_rfl) (by kernel_rfl) (by kernel_rfl) (fun _ _ _ h => h) ?hd52 ?hw52 ?hy52 (by assumption) ?_
  case hi52 => (simp only [List.getElem?_toArray, List.getElem?_cons_zero, List.getElem?_cons_succ]; exact rfl)
  case hd52 => rfl
  case hw52 => rfl
  case hy52 => (intro w hSw; (try dsimp only at hSw); go_simp; try with_reducible rfl)
  try simp only [Act.put, List.setIfInBounds_toArray, List.set_cons_zero, List.set_cons_succ]
  refine take_yes (i := 13) (oi := ?o53) (d := (some 21)) (v := ?v53) ?hi53 (by kernel_rfl) (by kernel_rfl) (by kernel_rfl) (fun _ _ _ h => h) ?hd53 ?hw53 ?hy53 (by assumption) ?_
  case hi53 => (simp only [List.getElem?_toArray, List.getElem?_cons_zero, List.getElem?_cons_succ]; exact rfl)
  case hd53 => rfl
  case hw53 => rfl
  case hy53 => (intro w hSw; (try dsimp only at hSw); go_simp; try with_reducible rfl)
  try simp only [Act.put, List.setIfInBounds_toArray, List.set_cons_zero, List.set_cons_succ]
  refine take_no (i := 14) (oi := ?o54) (d := (some 22)) ?hi54 (by kernel_rfl) (by kernel_rfl) (by kernel_rfl) (fun _ _ _ h => h) ?hd54 ?hw54 (by assumption) ?_
  case hi54 => (simp only [List.getElem?_toArray, List.getElem?_cons_zero, List.getElem?_cons_succ]; exact rfl)
  case hd54 => rfl
  case hw54 => rfl
  try simp only [Act.put, List.setIfInBounds_toArray, List.set_cons_zero, List.set_cons_succ]
  refine take_no (i := 15) (oi := ?o55) (d := (some 23)) ?hi55 (by kernel_rfl) (by kernel_rfl) (by kernel_rfl) (fun _ _ _ h => h) ?hd55 ?hw55 (by assumption) ?_
  case hi55 => (simp only [List.getElem?_toArray, List.getElem?_cons_zero, List.getElem?_cons_succ]; exact rfl)
  case hd55 => rfl
  case hw55 => rfl
  try simp only [Act.put, List.setIfInBounds_toArray, List.set_cons_zero, List.set_cons_succ]
  refine take_no (i := 16) (oi := ?o56) (d := (some 24)) ?hi56 (by kernel_rfl) (by kernel_rfl) (by kernel_rfl) (fun _ _ _ h => h) ?hd56 ?hw56 (by assumption) ?_
  case hi56 => (simp only [List.getElem?_toArray, List.getElem?_cons_zero, List.getElem?_cons_succ]; exact rfl)
  case hd56 => rfl
  case hw56 => rfl
  try simp only [Act.put, List.setIfInBounds_toArray, List.set_cons_zero, List.set_cons_succ]
  refine take_yes (i := 17) (oi := ?o57) (d := (some 25)) (v := ?v57) ?hi57 (by kernel_rfl) (by kernel_rfl) (by kernel_rfl) (fun _ _ _ h => h) ?hd57 ?hw57 ?hy57 (by assumption) ?_
  case hi57 => (simp only [List.getElem?_toArray, List.getElem?_cons_zero, List.getElem?_cons_succ]; exact rfl)
  case hd57 => rfl
  case hw57 => rfl
  case hy57 => (intro w hSw; (try dsimp only at hSw); go_simp; try with_reducible rfl)
  try simp only [Act.put, List.setIfInBounds_toArray, List.set_cons_zero, List.set_cons_succ]
  refine take_yes (i := 18) (oi := ?o58) (d := (some 26)) (v := ?v58) ?hi58 (by kernel_rfl) (by kernel_rfl) (by kernel_rfl) (fun _ _ _ h => h) ?hd58 ?hw58 ?hy58 (by assumption) ?_
  case hi58 => (simp only [List.getElem?_toArray, List.getElem?_cons_zero, List.getElem?_cons_succ]; exact rfl)
  case hd58 => rfl
  case hw58 => rfl
  case hy58 => (intro w hSw; (try dsimp only at hSw); go_simp; try with_reducible rfl)
  try simp only [Act.put, List.setIfInBounds_toArray, List.set_cons_zero, List.set_cons_succ]
  refine take_no (i := 19) (oi := ?o59) (d := (some 27)) ?hi59 (by kernel_rfl) (by kernel_rfl) (by kernel_rfl) (fun _ _ _ h => h) ?hd59 ?hw59 (by assumption) ?_
  case hi59 => (simp only [List.getElem?_toArray, List.getElem?_cons_zero, List.getElem?_cons_succ]; exact rfl)
  case hd59 => rfl
  case hw59 => rfl
  try simp only [Act.put, List.setIfInBounds_toArray, List.set_cons_zero, List.set_cons_succ]
  refine take_no (i := 20) (oi := ?o60) (d := (some 28)) ?hi60 (by kernel_rfl) (by kernel_rfl) (by kernel_rfl) (fun _ _ _ h => h) ?hd60 ?hw60 (by assumption) ?_
  case hi60 => (simp only [List.getElem?_toArray, List.getElem?_cons_zero, List.getElem?_cons_succ]; exact rfl)
  case hd60 => rfl
  case hw60 => rfl
  try simp only [Act.put, List.setIfInBounds_toArray, List.set_cons_zero, List.set_cons_succ]
  refine take_no (i := 21) (oi := ?o61) (d := (some 29)) ?hi61 (by kernel_rfl) (by kernel_rfl) (by kernel_rfl) (fun _ _ _ h => h) ?hd61 ?hw61 (by assumption) ?_
  case hi61 => (simp only [List.getElem?_toArray, List.getElem?_cons_zero, List.getElem?_cons_succ]; exact rfl)
  case hd61 => rfl
  case hw61 => rfl
  try simp only [Act.put, List.setIfInBounds_toArray, List.set_cons_zero, List.set_cons_succ]
  refine take_no (i := 22) (oi := ?o62) (d := (some 30)) ?hi62 (by kernel_rfl) (by kernel_rfl) (by kernel_rfl) (fun _ _ _ h => h) ?hd62 ?hw62 (by assumption) ?_
  case hi62 => (simp only [List.getElem?_toArray, List.getElem?_cons_zero, List.getElem?_cons_succ]; exact rfl)
  case hd62 => rfl
  case hw62 => rfl
  try simp only [Act.put, List.setIfInBounds_toArray, List.set_cons_zero, List.set_cons_succ]
  refine take_no (i := 23) (oi := ?o63) (d := (some 31)) ?hi63 (by kernel_rfl) (by kernel_rfl) (by kernel_rfl) (fun _ _ _ h => h) ?hd63 ?hw63 (by assumption) ?_
  case hi63 => (simp only [List.getElem?_toArray, List.getElem?_cons_zero, List.getElem?_cons_succ]; exact rfl)
  case hd63 => rfl
  case hw63 => rfl
  try simp only [Act.put, List.setIfInBounds_toArray, List.set_cons_zero, List.set_cons_succ]
  refine take_no (i := 24) (oi := ?o64) (d := (some 32)) ?hi64 (by kernel_rfl) (by kernel_rfl) (by kernel_rfl) (fun _ _ _ h => h) ?hd64 ?hw64 (by assumption) ?_
  case hi64 => (simp only [List.getElem?_toArray, List.getElem?_cons_zero, List.getElem?_cons_succ]; exact rfl)
  case hd64 => rfl
  case hw64 => rfl
  try simp only [Act.put, List.setIfInBounds_toArray, List.set_cons_zero, List.set_cons_succ]
  refine take_no (i := 25) (oi := ?o65) (d := (some 33)) ?hi65 (by kernel_rfl) (by kernel_rfl) (by kernel_rfl) (fun _ _ _ h => h) ?hd65 ?hw65 (by assumption) ?_
  case hi65 => (simp only [List.getElem?_toArray, List.getElem?_cons_zero, List.getElem?_cons_succ]; exact rfl)
  case hd65 => rfl
  case hw65 => rfl
  try simp only [Act.put, List.setIfInBounds_toArray, List.set_cons_zero, List.set_cons_succ]
  refine take_no (i := 26) (oi := ?o66) (d := (some 34)) ?hi66 (by kernel_rfl) (by kernel_rfl) (by kernel_rfl) (fun _ _ _ h => h) ?hd66 ?hw66 (by assumption) ?_
  case hi66 => (simp only [List.getElem?_toArray, List.getElem?_cons_zero, List.getElem?_cons_succ]; exact rfl)
  case hd66 => rfl
  case hw66 => rfl
  try simp only [Act.put, List.setIfInBounds_toArray, List.set_cons_zero, List.set_cons_succ]
  refine take_no (i := 27) (oi := ?o67) (d := (some 35)) ?hi67 (by kernel_rfl) (by kernel_rfl) (by kernel_rfl) (fun _ _ _ h => h) ?hd67 ?hw67 (by assumption) ?_
  case hi67 => (simp only [List.getElem?_toArray, List.getElem?_cons_zero, List.getElem?_cons_succ]; exact rfl)
  case hd67 => rfl
  case hw67 => rfl
  try simp only [Act.put, List.setIfInBounds_toArray, List.set_cons_zero, List.set_cons_succ]
  refine take_yes (i := 28) (oi := ?o68) (d := (some 36)) (v := ?v68) ?hi68 (by kernel_rfl) (by kernel_rfl) (by kernel_rfl) (fun _ _ _ h => h) ?hd68 ?hw68 ?hy68 (by assumption) ?_
  case hi68 => (simp only [List.getElem?_toArray, List.getElem?_cons_zero, List.getElem?_cons_succ]; exact rfl)
  case hd68 => rfl
  case hw68 => rfl
  case hy68 => (intro w hSw; (try dsimp only at hSw); go_simp; try with_reducible rfl)
  try simp only [Act.put, List.setIfInBounds_toArray, List.set_cons_zero, List.set_cons_succ]
  refine take_yes (i := 29) (oi := ?o69) (d := (some 37)) (v := ?v69) ?hi69 (by kernel_rfl) (by kernel_rfl) (by kernel_rfl) (fun _ _ _ h => h) ?hd69 ?hw69 ?hy69 (by assumption) ?_
  case hi69 => (simp only [List.getElem?_toArray, List.getElem?_cons_zero, List.getElem?_cons_succ]; exact rfl)
  case hd69 => rfl
  case hw69 => rfl
  case hy69 => (intro w hSw; (try dsimp only at hSw); go_simp; try with_reducible rfl)
  try simp only [Act.put, List.setIfInBounds_toArray, List.set_cons_zero, List.set_cons_succ]
  refine take_no (i := 30) (oi := ?o70) (d := (some 38)) ?hi70 (by kernel_rfl) (by kernel_rfl) (by kernel_rfl) (fun _ _ _ h => h) ?hd70 ?hw70 (by assumption) ?_
  case hi70 => (simp only [List.getElem?_toArray, List.getElem?_cons_zero, List.getElem?_cons_succ]; exact rfl)
  case hd70 => rfl
  case hw70 => rfl
  try simp only [Act.put, List.setIfInBounds_toArray, List.set_cons_zero, List.set_cons_succ]
  refine take_no (i := 31) (oi := ?o71) (d := (some 39)) ?hi71 (by kernel_rfl) (by kernel_rfl) (by kernel_rfl) (fun _ _ _ h => h) ?hd71 ?hw71 (by assumption) ?_
  case hi71 => (simp only [List.getElem?_toArray, List.getElem?_cons_zero, List.getElem?_cons_succ]; exact rfl)
  case hd71 => rfl
  case hw71 => rfl
  try simp only [Act.put, List.setIfInBounds_toArray, List.set_cons_zero, List.set_cons_succ]
  refine take_no (i := 32) (oi := ?o72) (d := (some 40)) ?hi72 (by kernel_rfl) (by kernel_rfl) (by kernel_rfl) (fun _ _ _ h => h) ?hd72 ?hw72 (by assumption) ?_
  case hi72 => (simp only [List.getElem?_toArray, List.getElem?_cons_zero, List.getElem?_cons_succ]; exact rfl)
  case hd72 => rfl
  case hw72 => rfl
  try simp only [Act.put, List.setIfInBounds_toArray, List.set_cons_zero, List.set_cons_succ]
  refine take_no (i := 33) (oi := ?o73) (d := (some 41)) ?hi73 (by kernel_rfl) (by kernel_rfl) (by kernel_rfl) (fun _ _ _ h => h) ?hd73 ?hw73 (by assumption) ?_
  case hi73 => (simp only [List.getElem?_toArray, List.getElem?_cons_zero, List.getElem?_cons_succ]; exact rfl)
  case hd73 => rfl
  case hw73 => rfl
  try simp only [Act.put, List.setIfInBounds_toArray, List.set_cons_zero, List.set_cons_succ]
  refine take_no (i := 34) (oi := ?o74) (d := (some 42)) ?hi74 (by kernel_rfl) (by kernel_rfl) (by kernel_rfl) (fun _ _ _ h => h) ?hd74 ?hw74 (by assumption) ?_
  case hi74 => (simp only [List.getElem?_toArray, List.getElem?_cons_zero, List.getElem?_cons_succ]; exact rfl)
  case hd74 => rfl
  case hw74 => rfl
  try simp only [Act.put, List.setIfInBounds_toArray, List.set_cons_zero, List.set_cons_succ]
  refine take_no (i := 35) (oi := ?o75) (d := (some 43)) ?hi75 (by kernel_rfl) (by kernel_rfl) (by kernel_rfl) (fun _ _ _ h => h) ?hd75 ?hw75 (by assumption) ?_
  case hi75 => (simp only [List.getElem?_toArray, List.getElem?_cons_zero, List.getElem?_cons_succ]; exact rfl)
  case hd75 => rfl
  case hw75 => rfl
  try simp only [Act.put, List.setIfInBounds_toArray, List.set_cons_zero, List.set_cons_succ]
  refine take_no (i := 36) (oi := ?o76) (d := (some 44)) ?hi76 (by kernel_rfl) (by kernel_rfl) (by kernel_rfl) (fun _ _ _ h => h) ?hd76 ?hw76 (by assumption) ?_
  case hi76 => (simp only [List.getElem?_toArray, List.getElem?_cons_zero, List.getElem?_cons_succ]; exact rfl)
  case hd76 => rfl
  case hw76 => rfl
  try simp only [Act.put, List.setIfInBounds_toArray, List.set_cons_zero, List.set_cons_succ]
  refine take_yes (i := 37) (oi := ?o77) (d := (some 45)) (v := ?v77) ?hi77 (by kernel_rfl) (by kernel_rfl) (by kernel_rfl) (fun _ _ _ h => h) ?hd77 ?hw77 ?hy77 (by assumption) ?_
  case hi77 => (simp only [List.getElem?_toArray, List.getElem?_cons_zero, List.getElem?_cons_succ]; exact rfl)
  case hd77 => rfl
  case hw77 => rfl
  case hy77 => (intro w hSw; (try dsimp only at hSw); go_simp; try with_reducible rfl)
  try simp only [Act.put, List.setIfInBounds_toArray, List.set_cons_zero, List.set_cons_succ]
  refine take_yes (i := 38) (oi := ?o78) (d := (some 7)) (v := ?v78) ?hi78 (by kernel_rfl) (by kernel_rfl) (by kernel_rfl) (fun _ _ _ h => h) ?hd78 ?hw78 ?hy78 (by assumption) ?_
  case hi78 => (simp only [List.getElem?_toArray, List.getElem?_cons_zero, List.getElem?_cons_succ]; exact rfl)
  case hd78 => rfl
  case hw78 => rfl
  case hy78 => (intro w hSw; (try dsimp only at hSw); go_simp; try with_reducible rfl)
  try simp only [Act.put, List.setIfInBounds_toArray, List.set_cons_zero, List.set_cons_succ]
  refine wpAnyH_done (by kernel_rfl) ?_ _
  go_wp2_with fail
  go_ret
  exact ⟨rfl, ext_trans HB1.out (ext_drew (Below.refl _ _))⟩
set_option maxRecDepth 100000 in
set_option maxHeartbeats 2000000 in
theorem may_no2 (S : Nat → Prop) (b n codes : Nat) (group next clock : Int) (L : List Bkg) (q : Parts) (id seat til last : Int) (w : World) (h : BookAt S w b n codes group next clock L q) (c0 : decide (id ≤ last) = false) (c1 : decide (next ≤ id) = false) (c2 : decide (seat < 0) = true) :
    Calls Tryz.prog 39 #[.pointer (some ⟨b, 0, none⟩), .agg #[.int .u32 id, .int .i64 seat, .int .i64 til], .int .u32 last] w fun e w' => e = .returned (.bool false) ∧ Below w.heap.size w w' := by
  have HH := Lib.hid h
  clear h
  go_enter Tryz.func39, Tryz.ntmps39
  go_wp2_with fail
  have hb1 : Below w.heap.size w (w.alloc (.cells #[.int .u32 id, .int .i64 seat, .int .i64 til] 78)) := ext_alloc (Below.refl _ _) _
  have hA1 : Arr (w.alloc (.cells #[.int .u32 id, .int .i64 seat, .int .i64 til] 78)) w.heap.size 78 #[.int .u32 id, .int .i64 seat, .int .i64 til] := Arr.fresh w _ _
  obtain ⟨w1, hw1⟩ : ∃ w1, w.alloc (.cells #[.int .u32 id, .int .i64 seat, .int .i64 til] 78) = w1 := ⟨_, rfl⟩
  obtain ⟨vb, hvb⟩ : ∃ vb, w.heap.size = vb := ⟨_, rfl⟩
  rw [hw1] at hb1 hA1 ⊢
  have HC1 := Lib.hid (HH.out.comp.below hb1)
  have HB1 := Lib.hid hb1
  clear hb1
  rw [hvb] at hA1 ⊢
  clear hw1 hvb
  have HCS : ∀ w', Below w1.heap.size w1 w' → (w'.cell? ⟨vb, 0, none⟩ = some (.int .u32 id) ∧ w'.cell? ⟨vb, 1, none⟩ = some (.int .i64 seat) ∧ w'.cell? ⟨vb, 2, none⟩ = some (.int .i64 til) ∧ w'.cell? ⟨b, 0, none⟩ = some (.int .i64 n) ∧ w'.cell? ⟨b, 4, none⟩ = some (.int .i64 clock) ∧ w'.cell? ⟨b, 5, none⟩ = some (.int .u32 next) ∧ w'.cell? ⟨b, 6, none⟩ = some (.pointer (some ⟨q.tp, 0, none⟩)) ∧ Below w1.heap.size w1 w') := fun w' hb => ⟨(hA1.keep hb).cell 0, (hA1.keep hb).cell 1, (hA1.keep hb).cell 2, (HC1.out.own.keep hb).cell 0, (HC1.out.own.keep hb).cell 4, (HC1.out.own.keep hb).cell 5, (HC1.out.own.keep hb).cell 6, hb⟩
  have HCS := Lib.hid HCS
  clear hA1
  refine wp_region_held_drew (S := (fun w' => w'.cell? ⟨vb, 0, none⟩ = some (.int .u32 id) ∧ w'.cell? ⟨vb, 1, none⟩ = some (.int .i64 seat) ∧ w'.cell? ⟨vb, 2, none⟩ = some (.int .i64 til) ∧ w'.cell? ⟨b, 0, none⟩ = some (.int .i64 n) ∧ w'.cell? ⟨b, 4, none⟩ = some (.int .i64 clock) ∧ w'.cell? ⟨b, 5, none⟩ = some (.int .u32 next) ∧ w'.cell? ⟨b, 6, none⟩ = some (.pointer (some ⟨q.tp, 0, none⟩)) ∧ Below w1.heap.size w1 w')) (by kernel_rfl) (by exact HCS.out _ (ext_drew (Below.refl _ _))) (fun hHeld => ?_)
  refine take_yes (i := 0) (oi := ?o79) (d := (some 8)) (v := ?v79) ?hi79 (by kernel_rfl) (by kernel_rfl) (by kernel_rfl) (fun _ _ _ h => h) ?hd79 ?hw79 ?hy79 (by assumption) ?_
  case hi79 => (simp only [List.getElem?_toArray, List.getElem?_cons_zero]; exact rfl)
  case hd79 => rfl
  case hw79 => rfl
  case hy79 => (intro w hSw; (try dsimp only at hSw); go_simp; try with_reducible rfl)
  try simp only [Act.put, List.setIfInBounds_toArray, List.set_cons_zero, List.set_cons_succ]
  refine take_yes (i := 1) (oi := ?o80) (d := (some 9)) (v := ?v80) ?hi80 (by kernel_rfl) (by kernel_rfl) (by kernel_rfl) (fun _ _ _ h => h) ?hd80 ?hw80 ?hy80 (by assumption) ?_
  case hi80 => (simp only [List.getElem?_toArray, List.getElem?_cons_zero, List.getElem?_cons_succ]; exact rfl)
  case hd80 => rfl
  case hw80 => rfl
  case hy80 => (intro w hSw; (try dsimp only at hSw); go_simp; try with_reducible rfl)
  try simp only [Act.put, List.setIfInBounds_toArray, List.set_cons_zero, List.set_cons_succ]
  refine take_yes (i := 2) (oi := ?o81) (d := (some 10)) (v := ?v81) ?hi81 (by kernel_rfl) (by kernel_rfl) (by kernel_rfl) (fun _ _ _ h => h) ?hd81 ?hw81 ?hy81 (by assumption) ?_
  case hi81 => (simp only [List.getElem?_toArray, List.getElem?_cons_zero, List.getElem?_cons_succ]; exact rfl)
  case hd81 => rfl
  case hw81 => rfl
  case hy81 => (intro w hSw; (try dsimp only at hSw); go_simp; try with_reducible rfl)
  try simp only [Act.put, List.setIfInBounds_toArray, List.set_cons_zero, List.set_cons_succ]
  refine take_yes (i := 3) (oi := ?o82) (d := (some 11)) (v := ?v82) ?hi82 (by kernel_rfl) (by kernel_rfl) (by kernel_rfl) (fun _ _ _ h => h) ?hd82 ?hw82 ?hy82 (by assumption) ?_
  case hi82 => (simp only [List.getElem?_toArray, List.getElem?_cons_zero, List.getElem?_cons_succ]; exact rfl)
  case hd82 => rfl
  case hw82 => rfl
  case hy82 => (intro w hSw; (try dsimp only at hSw); go_simp; try with_reducible rfl)
  try simp only [Act.put, List.setIfInBounds_toArray, List.set_cons_zero, List.set_cons_succ]
  refine take_yes (i := 4) (oi := ?o83) (d := (some 12)) (v := ?v83) ?hi83 (by kernel_rfl) (by kernel_rfl) (by kernel_rfl) (fun _ _ _ h => h) ?hd83 ?hw83 ?hy83 (by assumption) ?_
  case hi83 => (simp only [List.getElem?_toArray, List.getElem?_cons_zero, List.getElem?_cons_succ]; exact rfl)
  case hd83 => rfl
  case hw83 => rfl
  case hy83 => (intro w hSw; (try dsimp only at hSw); go_simp; try with_reducible rfl)
  try simp only [Act.put, List.setIfInBounds_toArray, List.set_cons_zero, List.set_cons_succ]
  refine take_yes (i := 5) (oi := ?o84) (d := (some 13)) (v := ?v84) ?hi84 (by kernel_rfl) (by kernel_rfl) (by kernel_rfl) (fun _ _ _ h => h) ?hd84 ?hw84 ?hy84 (by assumption) ?_
  case hi84 => (simp only [List.getElem?_toArray, List.getElem?_cons_zero, List.getElem?_cons_succ]; exact rfl)
  case hd84 => rfl
  case hw84 => rfl
  case hy84 => (intro w hSw; (try dsimp only at hSw); go_simp; try with_reducible rfl)
  try simp only [Act.put, List.setIfInBounds_toArray, List.set_cons_zero, List.set_cons_succ]
  refine take_yes (i := 6) (oi := ?o85) (d := (some 14)) (v := ?v85) ?hi85 (by kernel_rfl) (by kernel_rfl) (by kernel_rfl) (fun _ _ _ h => h) ?hd85 ?hw85 ?hy85 (by assumption) ?_
  case hi85 => (simp only [List.getElem?_toArray, List.getElem?_cons_zero, List.getElem?_cons_succ]; exact rfl)
  case hd85 => rfl
  case hw85 => rfl
  case hy85 => (intro w hSw; (try dsimp only at hSw); go_simp; try with_reducible rfl)
  try simp only [Act.put, List.setIfInBounds_toArray, List.set_cons_zero, List.set_cons_succ]
  refine take_yes (i := 7) (oi := ?o86) (d := (some 15)) (v := ?v86) ?hi86 (by kernel_rfl) (by kernel_rfl) (by kernel_rfl) (fun _ _ _ h => h) ?hd86 ?hw86 ?hy86 (by assumption) ?_
  case hi86 => (simp only [List.getElem?_toArray, List.getElem?_cons_zero, List.getElem?_cons_succ]; exact rfl)
  case hd86 => rfl
  case hw86 => rfl
  case hy86 => (intro w hSw; (try dsimp only at hSw); go_simp; try with_reducible rfl)
  try simp only [Act.put, List.setIfInBounds_toArray, List.set_cons_zero, List.set_cons_succ]
  refine take_yes (i := 8) (oi := ?o87) (d := (some 16)) (v := ?v87) ?hi87 (by kernel_rfl) (by kernel_rfl) (by kernel_rfl) (fun _ _ _ h => h) ?hd87 ?hw87 ?hy87 (by assumption) ?_
  case hi87 => (simp only [List.getElem?_toArray, List.getElem?_cons_zero, List.getElem?_cons_succ]; exact rfl)
  case hd87 => rfl
  case hw87 => rfl
  case hy87 => (intro w hSw; (try dsimp only at hSw); go_simp; try with_reducible rfl)
  try simp only [Act.put, List.setIfInBounds_toArray, List.set_cons_zero, List.set_cons_succ]
  refine take_yes (i := 9) (oi := ?o88) (d := (some 17)) (v := ?v88) ?hi88 (by kernel_rfl) (by kernel_rfl) (by kernel_rfl) (fun _ _ _ h => h) ?hd88 ?hw88 ?hy88 (by assumption) ?_
  case hi88 => (simp only [List.getElem?_toArray, List.getElem?_cons_zero, List.getElem?_cons_succ]; exact rfl)
  case hd88 => rfl
  case hw88 => rfl
  case hy88 => (intro w hSw; (try dsimp only at hSw); go_simp; try with_reducible rfl)
  try simp only [Act.put, List.setIfInBounds_toArray, List.set_cons_zero, List.set_cons_succ]
  refine take_yes (i := 10) (oi := ?o89) (d := (some 18)) (v := ?v89) ?hi89 (by kernel_rfl) (by kernel_rfl) (by kernel_rfl) (fun _ _ _ h => h) ?hd89 ?hw89 ?hy89 (by assumption) ?_
  case hi89 => (simp only [List.getElem?_toArray, List.getElem?_cons_zero, List.getElem?_cons_succ]; exact rfl)
  case hd89 => rfl
  case hw89 => rfl
  case hy89 => (intro w hSw; (try dsimp only at hSw); go_simp; try with_reducible rfl)
  try simp only [Act.put, List.setIfInBounds_toArray, List.set_cons_zero, List.set_cons_succ]
  refine take_yes (i := 11) (oi := ?o90) (d := (some 19)) (v := ?v90) ?hi90 (by kernel_rfl) (by kernel_rfl) (by kernel_rfl) (fun _ _ _ h => h) ?hd90 ?hw90 ?hy90 (by assumption) ?_
  case hi90 => (simp only [List.getElem?_toArray, List.getElem?_cons_zero, List.getElem?_cons_succ]; exact rfl)
  case hd90 => rfl
  case hw90 => rfl
  case hy90 => (intro w hSw; (try dsimp only at hSw); go_simp; try with_reducible rfl)
  try simp only [Act.put, List.setIfInBounds_toArray, List.set_cons_zero, List.set_cons_succ]
  refine take_yes (i := 12) (oi := ?o91) (d := (some 20)) (v := ?v91) ?hi91 (by kernel_rfl) (by kernel_rfl) (by kernel_rfl) (fun _ _ _ h => h) ?hd91 ?hw91 ?hy91 (by assumption) ?_
  case hi91 => (simp only [List.getElem?_toArray, List.getElem?_cons_zero, List.getElem?_cons_succ]; exact rfl)
  case hd91 => rfl
  case hw91 => rfl
  case hy91 => (intro w hSw; (try dsimp only at hSw); go_simp; try with_reducible rfl)
  try simp only [Act.put, List.setIfInBounds_toArray, List.set_cons_zero, List.set_cons_succ]
  refine take_yes (i := 13) (oi := ?o92) (d := (some 21)) (v := ?v92) ?hi92 (by kernel_rfl) (by kernel_rfl) (by kernel_rfl) (fun _ _ _ h => h) ?hd92 ?hw92 ?hy92 (by assumption) ?_
  case hi92 => (simp only [List.getElem?_toArray, List.getElem?_cons_zero, List.getElem?_cons_succ]; exact rfl)
  case hd92 => rfl
  case hw92 => rfl
  case hy92 => (intro w hSw; (try dsimp only at hSw); go_simp; try with_reducible rfl)
  try simp only [Act.put, List.setIfInBounds_toArray, List.set_cons_zero, List.set_cons_succ]
  refine take_yes (i := 14) (oi := ?o93) (d := (some 22)) (v := ?v93) ?hi93 (by kernel_rfl) (by kernel_rfl) (by kernel_rfl) (fun _ _ _ h => h) ?hd93 ?hw93 ?hy93 (by assumption) ?_
  case hi93 => (simp only [List.getElem?_toArray, List.getElem?_cons_zero, List.getElem?_cons_succ]; exact rfl)
  case hd93 => rfl
  case hw93 => rfl
  case hy93 => (intro w hSw; (try dsimp only at hSw); go_simp; try with_reducible rfl)
  try simp only [Act.put, List.setIfInBounds_toArray, List.set_cons_zero, List.set_cons_succ]
  refine take_yes (i := 15) (oi := ?o94) (d := (some 23)) (v := ?v94) ?hi94 (by kernel_rfl) (by kernel_rfl) (by kernel_rfl) (fun _ _ _ h => h) ?hd94 ?hw94 ?hy94 (by assumption) ?_
  case hi94 => (simp only [List.getElem?_toArray, List.getElem?_cons_zero, List.getElem?_cons_succ]; exact rfl)
  case hd94 => rfl
  case hw94 => rfl
  case hy94 => (intro w hSw; (try dsimp only at hSw); go_simp; try with_reducible rfl)
  try simp only [Act.put, List.setIfInBounds_toArray, List.set_cons_zero, List.set_cons_succ]
  refine take_yes (i := 16) (oi := ?o95) (d := (some 24)) (v := ?v95) ?hi95 (by kernel_rfl) (by kernel_rfl) (by kernel_rfl) (fun _ _ _ h => h) ?hd95 ?hw95 ?hy95 (by assumption) ?_
  case hi95 => (simp only [List.getElem?_toArray, List.getElem?_cons_zero, List.getElem?_cons_succ]; exact rfl)
  case hd95 => rfl
  case hw95 => rfl
  case hy95 => (intro w hSw; (try dsimp only at hSw); go_simp; try with_reducible rfl)
  try simp only [Act.put, List.setIfInBounds_toArray, List.set_cons_zero, List.set_cons_succ]
  refine take_yes (i := 17) (oi := ?o96) (d := (some 25)) (v := ?v96) ?hi96 (by kernel_rfl) (by kernel_rfl) (by kernel_rfl) (fun _ _ _ h => h) ?hd96 ?hw96 ?hy96 (by assumption) ?_
  case hi96 => (simp only [List.getElem?_toArray, List.getElem?_cons_zero, List.getElem?_cons_succ]; exact rfl)
  case hd96 => rfl
  case hw96 => rfl
  case hy96 => (intro w hSw; (try dsimp only at hSw); go_simp; try with_reducible rfl)
  try simp only [Act.put, List.setIfInBounds_toArray, List.set_cons_zero, List.set_cons_succ]
  refine take_yes (i := 18) (oi := ?o97) (d := (some 26)) (v := ?v97) ?hi97 (by kernel_rfl) (by kernel_rfl) (by kernel_rfl) (fun _ _ _ h => h) ?hd97 ?hw97 ?hy97 (by assumption) ?_
  case hi97 => (simp only [List.getElem?_toArray, List.getElem?_cons_zero, List.getElem?_cons_succ]; exact rfl)
  case hd97 => rfl
  case hw97 => rfl
  case hy97 => (intro w hSw; (try dsimp only at hSw); go_simp; try with_reducible rfl)
  try simp only [Act.put, List.setIfInBounds_toArray, List.set_cons_zero, List.set_cons_succ]
  refine take_no (i := 19) (oi := ?o98) (d := (some 27)) ?hi98 (by kernel_rfl) (by kernel_rfl) (by kernel_rfl) (fun _ _ _ h => h) ?hd98 ?hw98 (by assumption) ?_
  case hi98 => (simp only [List.getElem?_toArray, List.getElem?_cons_zero, List.getElem?_cons_succ]; exact rfl)
  case hd98 => rfl
  case hw98 => rfl
  try simp only [Act.put, List.setIfInBounds_toArray, List.set_cons_zero, List.set_cons_succ]
  refine take_no (i := 20) (oi := ?o99) (d := (some 28)) ?hi99 (by kernel_rfl) (by kernel_rfl) (by kernel_rfl) (fun _ _ _ h => h) ?hd99 ?hw99 (by assumption) ?_
  case hi99 => (simp only [List.getElem?_toArray, List.getElem?_cons_zero, List.getElem?_cons_succ]; exact rfl)
  case hd99 => rfl
  case hw99 => rfl
  try simp only [Act.put, List.setIfInBounds_toArray, List.set_cons_zero, List.set_cons_succ]
  refine take_no (i := 21) (oi := ?o100) (d := (some 29)) ?hi100 (by kernel_rfl) (by kernel_rfl) (by kernel_rfl) (fun _ _ _ h => h) ?hd100 ?hw100 (by assumption) ?_
  case hi100 => (simp only [List.getElem?_toArray, List.getElem?_cons_zero, List.getElem?_cons_succ]; exact rfl)
  case hd100 => rfl
  case hw100 => rfl
  try simp only [Act.put, List.setIfInBounds_toArray, List.set_cons_zero, List.set_cons_succ]
  refine take_no (i := 22) (oi := ?o101) (d := (some 30)) ?hi101 (by kernel_rfl) (by kernel_rfl) (by kernel_rfl) (fun _ _ _ h => h) ?hd101 ?hw101 (by assumption) ?_
  case hi101 => (simp only [List.getElem?_toArray, List.getElem?_cons_zero, List.getElem?_cons_succ]; exact rfl)
  case hd101 => rfl
  case hw101 => rfl
  try simp only [Act.put, List.setIfInBounds_toArray, List.set_cons_zero, List.set_cons_succ]
  refine take_no (i := 23) (oi := ?o102) (d := (some 31)) ?hi102 (by kernel_rfl) (by kernel_rfl) (by kernel_rfl) (fun _ _ _ h => h) ?hd102 ?hw102 (by assumption) ?_
  case hi102 => (simp only [List.getElem?_toArray, List.getElem?_cons_zero, List.getElem?_cons_succ]; exact rfl)
  case hd102 => rfl
  case hw102 => rfl
  try simp only [Act.put, List.setIfInBounds_toArray, List.set_cons_zero, List.set_cons_succ]
  refine take_no (i := 24) (oi := ?o103) (d := (some 32)) ?hi103 (by kernel_rfl) (by kernel_rfl) (by kernel_rfl) (fun _ _ _ h => h) ?hd103 ?hw103 (by assumption) ?_
  case hi103 => (simp only [List.getElem?_toArray, List.getElem?_cons_zero, List.getElem?_cons_succ]; exact rfl)
  case hd103 => rfl
  case hw103 => rfl
  try simp only [Act.put, List.setIfInBounds_toArray, List.set_cons_zero, List.set_cons_succ]
  refine take_no (i := 25) (oi := ?o104) (d := (some 33)) ?hi104 (by kernel_rfl) (by kernel_rfl) (by kernel_rfl) (fun _ _ _ h => h) ?hd104 ?hw104 (by assumption) ?_
  case hi104 => (simp only [List.getElem?_toArray, List.getElem?_cons_zero, List.getElem?_cons_succ]; exact rfl)
  case hd104 => rfl
  case hw104 => rfl
  try simp only [Act.put, List.setIfInBounds_toArray, List.set_cons_zero, List.set_cons_succ]
  refine take_no (i := 26) (oi := ?o105) (d := (some 34)) ?hi105 (by kernel_rfl) (by kernel_rfl) (by kernel_rfl) (fun _ _ _ h => h) ?hd105 ?hw105 (by assumption) ?_
  case hi105 => (simp only [List.getElem?_toArray, List.getElem?_cons_zero, List.getElem?_cons_succ]; exact rfl)
  case hd105 => rfl
  case hw105 => rfl
  try simp only [Act.put, List.setIfInBounds_toArray, List.set_cons_zero, List.set_cons_succ]
  refine take_no (i := 27) (oi := ?o106) (d := (some 35)) ?hi106 (by kernel_rfl) (by kernel_rfl) (by kernel_rfl) (fun _ _ _ h => h) ?hd106 ?hw106 (by assumption) ?_
  case hi106 => (simp only [List.getElem?_toArray, List.getElem?_cons_zero, List.getElem?_cons_succ]; exact rfl)
  case hd106 => rfl
  case hw106 => rfl
  try simp only [Act.put, List.setIfInBounds_toArray, List.set_cons_zero, List.set_cons_succ]
  refine take_yes (i := 28) (oi := ?o107) (d := (some 36)) (v := ?v107) ?hi107 (by kernel_rfl) (by kernel_rfl) (by kernel_rfl) (fun _ _ _ h => h) ?hd107 ?hw107 ?hy107 (by assumption) ?_
  case hi107 => (simp only [List.getElem?_toArray, List.getElem?_cons_zero, List.getElem?_cons_succ]; exact rfl)
  case hd107 => rfl
  case hw107 => rfl
  case hy107 => (intro w hSw; (try dsimp only at hSw); go_simp; try with_reducible rfl)
  try simp only [Act.put, List.setIfInBounds_toArray, List.set_cons_zero, List.set_cons_succ]
  refine take_yes (i := 29) (oi := ?o108) (d := (some 37)) (v := ?v108) ?hi108 (by kernel_rfl) (by kernel_rfl) (by kernel_rfl) (fun _ _ _ h => h) ?hd108 ?hw108 ?hy108 (by assumption) ?_
  case hi108 => (simp only [List.getElem?_toArray, List.getElem?_cons_zero, List.getElem?_cons_succ]; exact rfl)
  case hd108 => rfl
  case hw108 => rfl
  case hy108 => (intro w hSw; (try dsimp only at hSw); go_simp; try with_reducible rfl)
  try simp only [Act.put, List.setIfInBounds_toArray, List.set_cons_zero, List.set_cons_succ]
  refine take_no (i := 30) (oi := ?o109) (d := (some 38)) ?hi109 (by kernel_rfl) (by kernel_rfl) (by kernel_rfl) (fun _ _ _ h => h) ?hd109 ?hw109 (by assumption) ?_
  case hi109 => (simp only [List.getElem?_toArray, List.getElem?_cons_zero, List.getElem?_cons_succ]; exact rfl)
  case hd109 => rfl
  case hw109 => rfl
  try simp only [Act.put, List.setIfInBounds_toArray, List.set_cons_zero, List.set_cons_succ]
  refine take_no (i := 31) (oi := ?o110) (d := (some 39)) ?hi110 (by kernel_rfl) (by kernel_rfl) (by kernel_rfl) (fun _ _ _ h => h) ?hd110 ?hw110 (by assumption) ?_
  case hi110 => (simp only [List.getElem?_toArray, List.getElem?_cons_zero, List.getElem?_cons_succ]; exact rfl)
  case hd110 => rfl
  case hw110 => rfl
  try simp only [Act.put, List.setIfInBounds_toArray, List.set_cons_zero, List.set_cons_succ]
  refine take_no (i := 32) (oi := ?o111) (d := (some 40)) ?hi111 (by kernel_rfl) (by kernel_rfl) (by kernel_rfl) (fun _ _ _ h => h) ?hd111 ?hw111 (by assumption) ?_
  case hi111 => (simp only [List.getElem?_toArray, List.getElem?_cons_zero, List.getElem?_cons_succ]; exact rfl)
  case hd111 => rfl
  case hw111 => rfl
  try simp only [Act.put, List.setIfInBounds_toArray, List.set_cons_zero, List.set_cons_succ]
  refine take_no (i := 33) (oi := ?o112) (d := (some 41)) ?hi112 (by kernel_rfl) (by kernel_rfl) (by kernel_rfl) (fun _ _ _ h => h) ?hd112 ?hw112 (by assumption) ?_
  case hi112 => (simp only [List.getElem?_toArray, List.getElem?_cons_zero, List.getElem?_cons_succ]; exact rfl)
  case hd112 => rfl
  case hw112 => rfl
  try simp only [Act.put, List.setIfInBounds_toArray, List.set_cons_zero, List.set_cons_succ]
  refine take_no (i := 34) (oi := ?o113) (d := (some 42)) ?hi113 (by kernel_rfl) (by kernel_rfl) (by kernel_rfl) (fun _ _ _ h => h) ?hd113 ?hw113 (by assumption) ?_
  case hi113 => (simp only [List.getElem?_toArray, List.getElem?_cons_zero, List.getElem?_cons_succ]; exact rfl)
  case hd113 => rfl
  case hw113 => rfl
  try simp only [Act.put, List.setIfInBounds_toArray, List.set_cons_zero, List.set_cons_succ]
  refine take_no (i := 35) (oi := ?o114) (d := (some 43)) ?hi114 (by kernel_rfl) (by kernel_rfl) (by kernel_rfl) (fun _ _ _ h => h) ?hd114 ?hw114 (by assumption) ?_
  case hi114 => (simp only [List.getElem?_toArray, List.getElem?_cons_zero, List.getElem?_cons_succ]; exact rfl)
  case hd114 => rfl
  case hw114 => rfl
  try simp only [Act.put, List.setIfInBounds_toArray, List.set_cons_zero, List.set_cons_succ]
  refine take_no (i := 36) (oi := ?o115) (d := (some 44)) ?hi115 (by kernel_rfl) (by kernel_rfl) (by kernel_rfl) (fun _ _ _ h => h) ?hd115 ?hw115 (by assumption) ?_
  case hi115 => (simp only [List.getElem?_toArray, List.getElem?_cons_zero, List.getElem?_cons_succ]; exact rfl)
  case hd115 => rfl
  case hw115 => rfl
  try simp only [Act.put, List.setIfInBounds_toArray, List.set_cons_zero, List.set_cons_succ]
  refine take_yes (i := 37) (oi := ?o116) (d := (some 45)) (v := ?v116) ?hi116 (by kernel_rfl) (by kernel_rfl) (by kernel_rfl) (fun _ _ _ h => h) ?hd116 ?hw116 ?hy116 (by assumption) ?_
  case hi116 => (simp only [List.getElem?_toArray, List.getElem?_cons_zero, List.getElem?_cons_succ]; exact rfl)
  case hd116 => rfl
  case hw116 => rfl
  case hy116 => (intro w hSw; (try dsimp only at hSw); go_simp; try with_reducible rfl)
  try simp only [Act.put, List.setIfInBounds_toArray, List.set_cons_zero, List.set_cons_succ]
  refine take_yes (i := 38) (oi := ?o117) (d := (some 7)) (v := ?v117) ?hi117 (by kernel_rfl) (by kernel_rfl) (by kernel_rfl) (fun _ _ _ h => h) ?hd117 ?hw117 ?hy117 (by assumption) ?_
  case hi117 => (simp only [List.getElem?_toArray, List.getElem?_cons_zero, List.getElem?_cons_succ]; exact rfl)
  case hd117 => rfl
  case hw117 => rfl
  case hy117 => (intro w hSw; (try dsimp only at hSw); go_simp; try with_reducible rfl)
  try simp only [Act.put, List.setIfInBounds_toArray, List.set_cons_zero, List.set_cons_succ]
  refine wpAnyH_done (by kernel_rfl) ?_ _
  go_wp2_with fail
  go_ret
  exact ⟨rfl, ext_trans HB1.out (ext_drew (Below.refl _ _))⟩
set_option maxRecDepth 100000 in
set_option maxHeartbeats 2000000 in
theorem may_no3 (S : Nat → Prop) (b n codes : Nat) (group next clock : Int) (L : List Bkg) (q : Parts) (id seat til last : Int) (w : World) (h : BookAt S w b n codes group next clock L q) (c0 : decide (id ≤ last) = false) (c1 : decide (next ≤ id) = false) (c2 : decide (seat < 0) = false) (c3 : decide ((n : Int) ≤ seat) = true) :
    Calls Tryz.prog 39 #[.pointer (some ⟨b, 0, none⟩), .agg #[.int .u32 id, .int .i64 seat, .int .i64 til], .int .u32 last] w fun e w' => e = .returned (.bool false) ∧ Below w.heap.size w w' := by
  have HH := Lib.hid h
  clear h
  go_enter Tryz.func39, Tryz.ntmps39
  go_wp2_with fail
  have hb1 : Below w.heap.size w (w.alloc (.cells #[.int .u32 id, .int .i64 seat, .int .i64 til] 78)) := ext_alloc (Below.refl _ _) _
  have hA1 : Arr (w.alloc (.cells #[.int .u32 id, .int .i64 seat, .int .i64 til] 78)) w.heap.size 78 #[.int .u32 id, .int .i64 seat, .int .i64 til] := Arr.fresh w _ _
  obtain ⟨w1, hw1⟩ : ∃ w1, w.alloc (.cells #[.int .u32 id, .int .i64 seat, .int .i64 til] 78) = w1 := ⟨_, rfl⟩
  obtain ⟨vb, hvb⟩ : ∃ vb, w.heap.size = vb := ⟨_, rfl⟩
  rw [hw1] at hb1 hA1 ⊢
  have HC1 := Lib.hid (HH.out.comp.below hb1)
  have HB1 := Lib.hid hb1
  clear hb1
  rw [hvb] at hA1 ⊢
  clear hw1 hvb
  have HCS : ∀ w', Below w1.heap.size w1 w' → (w'.cell? ⟨vb, 0, none⟩ = some (.int .u32 id) ∧ w'.cell? ⟨vb, 1, none⟩ = some (.int .i64 seat) ∧ w'.cell? ⟨vb, 2, none⟩ = some (.int .i64 til) ∧ w'.cell? ⟨b, 0, none⟩ = some (.int .i64 n) ∧ w'.cell? ⟨b, 4, none⟩ = some (.int .i64 clock) ∧ w'.cell? ⟨b, 5, none⟩ = some (.int .u32 next) ∧ w'.cell? ⟨b, 6, none⟩ = some (.pointer (some ⟨q.tp, 0, none⟩)) ∧ Below w1.heap.size w1 w') := fun w' hb => ⟨(hA1.keep hb).cell 0, (hA1.keep hb).cell 1, (hA1.keep hb).cell 2, (HC1.out.own.keep hb).cell 0, (HC1.out.own.keep hb).cell 4, (HC1.out.own.keep hb).cell 5, (HC1.out.own.keep hb).cell 6, hb⟩
  have HCS := Lib.hid HCS
  clear hA1
  refine wp_region_held_drew (S := (fun w' => w'.cell? ⟨vb, 0, none⟩ = some (.int .u32 id) ∧ w'.cell? ⟨vb, 1, none⟩ = some (.int .i64 seat) ∧ w'.cell? ⟨vb, 2, none⟩ = some (.int .i64 til) ∧ w'.cell? ⟨b, 0, none⟩ = some (.int .i64 n) ∧ w'.cell? ⟨b, 4, none⟩ = some (.int .i64 clock) ∧ w'.cell? ⟨b, 5, none⟩ = some (.int .u32 next) ∧ w'.cell? ⟨b, 6, none⟩ = some (.pointer (some ⟨q.tp, 0, none⟩)) ∧ Below w1.heap.size w1 w')) (by kernel_rfl) (by exact HCS.out _ (ext_drew (Below.refl _ _))) (fun hHeld => ?_)
  refine take_yes (i := 0) (oi := ?o118) (d := (some 8)) (v := ?v118) ?hi118 (by kernel_rfl) (by kernel_rfl) (by kernel_rfl) (fun _ _ _ h => h) ?hd118 ?hw118 ?hy118 (by assumption) ?_
  case hi118 => (simp only [List.getElem?_toArray, List.getElem?_cons_zero]; exact rfl)
  case hd118 => rfl
  case hw118 => rfl
  case hy118 => (intro w hSw; (try dsimp only at hSw); go_simp; try with_reducible rfl)
  try simp only [Act.put, List.setIfInBounds_toArray, List.set_cons_zero, List.set_cons_succ]
  refine take_yes (i := 1) (oi := ?o119) (d := (some 9)) (v := ?v119) ?hi119 (by kernel_rfl) (by kernel_rfl) (by kernel_rfl) (fun _ _ _ h => h) ?hd119 ?hw119 ?hy119 (by assumption) ?_
  case hi119 => (simp only [List.getElem?_toArray, List.getElem?_cons_zero, List.getElem?_cons_succ]; exact rfl)
  case hd119 => rfl
  case hw119 => rfl
  case hy119 => (intro w hSw; (try dsimp only at hSw); go_simp; try with_reducible rfl)
  try simp only [Act.put, List.setIfInBounds_toArray, List.set_cons_zero, List.set_cons_succ]
  refine take_yes (i := 2) (oi := ?o120) (d := (some 10)) (v := ?v120) ?hi120 (by kernel_rfl) (by kernel_rfl) (by kernel_rfl) (fun _ _ _ h => h) ?hd120 ?hw120 ?hy120 (by assumption) ?_
  case hi120 => (simp only [List.getElem?_toArray, List.getElem?_cons_zero, List.getElem?_cons_succ]; exact rfl)
  case hd120 => rfl
  case hw120 => rfl
  case hy120 => (intro w hSw; (try dsimp only at hSw); go_simp; try with_reducible rfl)
  try simp only [Act.put, List.setIfInBounds_toArray, List.set_cons_zero, List.set_cons_succ]
  refine take_yes (i := 3) (oi := ?o121) (d := (some 11)) (v := ?v121) ?hi121 (by kernel_rfl) (by kernel_rfl) (by kernel_rfl) (fun _ _ _ h => h) ?hd121 ?hw121 ?hy121 (by assumption) ?_
  case hi121 => (simp only [List.getElem?_toArray, List.getElem?_cons_zero, List.getElem?_cons_succ]; exact rfl)
  case hd121 => rfl
  case hw121 => rfl
  case hy121 => (intro w hSw; (try dsimp only at hSw); go_simp; try with_reducible rfl)
  try simp only [Act.put, List.setIfInBounds_toArray, List.set_cons_zero, List.set_cons_succ]
  refine take_yes (i := 4) (oi := ?o122) (d := (some 12)) (v := ?v122) ?hi122 (by kernel_rfl) (by kernel_rfl) (by kernel_rfl) (fun _ _ _ h => h) ?hd122 ?hw122 ?hy122 (by assumption) ?_
  case hi122 => (simp only [List.getElem?_toArray, List.getElem?_cons_zero, List.getElem?_cons_succ]; exact rfl)
  case hd122 => rfl
  case hw122 => rfl
  case hy122 => (intro w hSw; (try dsimp only at hSw); go_simp; try with_reducible rfl)
  try simp only [Act.put, List.setIfInBounds_toArray, List.set_cons_zero, List.set_cons_succ]
  refine take_yes (i := 5) (oi := ?o123) (d := (some 13)) (v := ?v123) ?hi123 (by kernel_rfl) (by kernel_rfl) (by kernel_rfl) (fun _ _ _ h => h) ?hd123 ?hw123 ?hy123 (by assumption) ?_
  case hi123 => (simp only [List.getElem?_toArray, List.getElem?_cons_zero, List.getElem?_cons_succ]; exact rfl)
  case hd123 => rfl
  case hw123 => rfl
  case hy123 => (intro w hSw; (try dsimp only at hSw); go_simp; try with_reducible rfl)
  try simp only [Act.put, List.setIfInBounds_toArray, List.set_cons_zero, List.set_cons_succ]
  refine take_yes (i := 6) (oi := ?o124) (d := (some 14)) (v := ?v124) ?hi124 (by kernel_rfl) (by kernel_rfl) (by kernel_rfl) (fun _ _ _ h => h) ?hd124 ?hw124 ?hy124 (by assumption) ?_
  case hi124 => (simp only [List.getElem?_toArray, List.getElem?_cons_zero, List.getElem?_cons_succ]; exact rfl)
  case hd124 => rfl
  case hw124 => rfl
  case hy124 => (intro w hSw; (try dsimp only at hSw); go_simp; try with_reducible rfl)
  try simp only [Act.put, List.setIfInBounds_toArray, List.set_cons_zero, List.set_cons_succ]
  refine take_yes (i := 7) (oi := ?o125) (d := (some 15)) (v := ?v125) ?hi125 (by kernel_rfl) (by kernel_rfl) (by kernel_rfl) (fun _ _ _ h => h) ?hd125 ?hw125 ?hy125 (by assumption) ?_
  case hi125 => (simp only [List.getElem?_toArray, List.getElem?_cons_zero, List.getElem?_cons_succ]; exact rfl)
  case hd125 => rfl
  case hw125 => rfl
  case hy125 => (intro w hSw; (try dsimp only at hSw); go_simp; try with_reducible rfl)
  try simp only [Act.put, List.setIfInBounds_toArray, List.set_cons_zero, List.set_cons_succ]
  refine take_yes (i := 8) (oi := ?o126) (d := (some 16)) (v := ?v126) ?hi126 (by kernel_rfl) (by kernel_rfl) (by kernel_rfl) (fun _ _ _ h => h) ?hd126 ?hw126 ?hy126 (by assumption) ?_
  case hi126 => (simp only [List.getElem?_toArray, List.getElem?_cons_zero, List.getElem?_cons_succ]; exact rfl)
  case hd126 => rfl
  case hw126 => rfl
  case hy126 => (intro w hSw; (try dsimp only at hSw); go_simp; try with_reducible rfl)
  try simp only [Act.put, List.setIfInBounds_toArray, List.set_cons_zero, List.set_cons_succ]
  refine take_yes (i := 9) (oi := ?o127) (d := (some 17)) (v := ?v127) ?hi127 (by kernel_rfl) (by kernel_rfl) (by kernel_rfl) (fun _ _ _ h => h) ?hd127 ?hw127 ?hy127 (by assumption) ?_
  case hi127 => (simp only [List.getElem?_toArray, List.getElem?_cons_zero, List.getElem?_cons_succ]; exact rfl)
  case hd127 => rfl
  case hw127 => rfl
  case hy127 => (intro w hSw; (try dsimp only at hSw); go_simp; try with_reducible rfl)
  try simp only [Act.put, List.setIfInBounds_toArray, List.set_cons_zero, List.set_cons_succ]
  refine take_yes (i := 10) (oi := ?o128) (d := (some 18)) (v := ?v128) ?hi128 (by kernel_rfl) (by kernel_rfl) (by kernel_rfl) (fun _ _ _ h => h) ?hd128 ?hw128 ?hy128 (by assumption) ?_
  case hi128 => (simp only [List.getElem?_toArray, List.getElem?_cons_zero, List.getElem?_cons_succ]; exact rfl)
  case hd128 => rfl
  case hw128 => rfl
  case hy128 => (intro w hSw; (try dsimp only at hSw); go_simp; try with_reducible rfl)
  try simp only [Act.put, List.setIfInBounds_toArray, List.set_cons_zero, List.set_cons_succ]
  refine take_yes (i := 11) (oi := ?o129) (d := (some 19)) (v := ?v129) ?hi129 (by kernel_rfl) (by kernel_rfl) (by kernel_rfl) (fun _ _ _ h => h) ?hd129 ?hw129 ?hy129 (by assumption) ?_
  case hi129 => (simp only [List.getElem?_toArray, List.getElem?_cons_zero, List.getElem?_cons_succ]; exact rfl)
  case hd129 => rfl
  case hw129 => rfl
  case hy129 => (intro w hSw; (try dsimp only at hSw); go_simp; try with_reducible rfl)
  try simp only [Act.put, List.setIfInBounds_toArray, List.set_cons_zero, List.set_cons_succ]
  refine take_yes (i := 12) (oi := ?o130) (d := (some 20)) (v := ?v130) ?hi130 (by kernel_rfl) (by kernel_rfl) (by kernel_rfl) (fun _ _ _ h => h) ?hd130 ?hw130 ?hy130 (by assumption) ?_
  case hi130 => (simp only [List.getElem?_toArray, List.getElem?_cons_zero, List.getElem?_cons_succ]; exact rfl)
  case hd130 => rfl
  case hw130 => rfl
  case hy130 => (intro w hSw; (try dsimp only at hSw); go_simp; try with_reducible rfl)
  try simp only [Act.put, List.setIfInBounds_toArray, List.set_cons_zero, List.set_cons_succ]
  refine take_yes (i := 13) (oi := ?o131) (d := (some 21)) (v := ?v131) ?hi131 (by kernel_rfl) (by kernel_rfl) (by kernel_rfl) (fun _ _ _ h => h) ?hd131 ?hw131 ?hy131 (by assumption) ?_
  case hi131 => (simp only [List.getElem?_toArray, List.getElem?_cons_zero, List.getElem?_cons_succ]; exact rfl)
  case hd131 => rfl
  case hw131 => rfl
  case hy131 => (intro w hSw; (try dsimp only at hSw); go_simp; try with_reducible rfl)
  try simp only [Act.put, List.setIfInBounds_toArray, List.set_cons_zero, List.set_cons_succ]
  refine take_yes (i := 14) (oi := ?o132) (d := (some 22)) (v := ?v132) ?hi132 (by kernel_rfl) (by kernel_rfl) (by kernel_rfl) (fun _ _ _ h => h) ?hd132 ?hw132 ?hy132 (by assumption) ?_
  case hi132 => (simp only [List.getElem?_toArray, List.getElem?_cons_zero, List.getElem?_cons_succ]; exact rfl)
  case hd132 => rfl
  case hw132 => rfl
  case hy132 => (intro w hSw; (try dsimp only at hSw); go_simp; try with_reducible rfl)
  try simp only [Act.put, List.setIfInBounds_toArray, List.set_cons_zero, List.set_cons_succ]
  refine take_yes (i := 15) (oi := ?o133) (d := (some 23)) (v := ?v133) ?hi133 (by kernel_rfl) (by kernel_rfl) (by kernel_rfl) (fun _ _ _ h => h) ?hd133 ?hw133 ?hy133 (by assumption) ?_
  case hi133 => (simp only [List.getElem?_toArray, List.getElem?_cons_zero, List.getElem?_cons_succ]; exact rfl)
  case hd133 => rfl
  case hw133 => rfl
  case hy133 => (intro w hSw; (try dsimp only at hSw); go_simp; try with_reducible rfl)
  try simp only [Act.put, List.setIfInBounds_toArray, List.set_cons_zero, List.set_cons_succ]
  refine take_yes (i := 16) (oi := ?o134) (d := (some 24)) (v := ?v134) ?hi134 (by kernel_rfl) (by kernel_rfl) (by kernel_rfl) (fun _ _ _ h => h) ?hd134 ?hw134 ?hy134 (by assumption) ?_
  case hi134 => (simp only [List.getElem?_toArray, List.getElem?_cons_zero, List.getElem?_cons_succ]; exact rfl)
  case hd134 => rfl
  case hw134 => rfl
  case hy134 => (intro w hSw; (try dsimp only at hSw); go_simp; try with_reducible rfl)
  try simp only [Act.put, List.setIfInBounds_toArray, List.set_cons_zero, List.set_cons_succ]
  refine take_yes (i := 17) (oi := ?o135) (d := (some 25)) (v := ?v135) ?hi135 (by kernel_rfl) (by kernel_rfl) (by kernel_rfl) (fun _ _ _ h => h) ?hd135 ?hw135 ?hy135 (by assumption) ?_
  case hi135 => (simp only [List.getElem?_toArray, List.getElem?_cons_zero, List.getElem?_cons_succ]; exact rfl)
  case hd135 => rfl
  case hw135 => rfl
  case hy135 => (intro w hSw; (try dsimp only at hSw); go_simp; try with_reducible rfl)
  try simp only [Act.put, List.setIfInBounds_toArray, List.set_cons_zero, List.set_cons_succ]
  refine take_yes (i := 18) (oi := ?o136) (d := (some 26)) (v := ?v136) ?hi136 (by kernel_rfl) (by kernel_rfl) (by kernel_rfl) (fun _ _ _ h => h) ?hd136 ?hw136 ?hy136 (by assumption) ?_
  case hi136 => (simp only [List.getElem?_toArray, List.getElem?_cons_zero, List.getElem?_cons_succ]; exact rfl)
  case hd136 => rfl
  case hw136 => rfl
  case hy136 => (intro w hSw; (try dsimp only at hSw); go_simp; try with_reducible rfl)
  try simp only [Act.put, List.setIfInBounds_toArray, List.set_cons_zero, List.set_cons_succ]
  refine take_yes (i := 19) (oi := ?o137) (d := (some 27)) (v := ?v137) ?hi137 (by kernel_rfl) (by kernel_rfl) (by kernel_rfl) (fun _ _ _ h => h) ?hd137 ?hw137 ?hy137 (by assumption) ?_
  case hi137 => (simp only [List.getElem?_toArray, List.getElem?_cons_zero, List.getElem?_cons_succ]; exact rfl)
  case hd137 => rfl
  case hw137 => rfl
  case hy137 => (intro w hSw; (try dsimp only at hSw); go_simp; try with_reducible rfl)
  try simp only [Act.put, List.setIfInBounds_toArray, List.set_cons_zero, List.set_cons_succ]
  refine take_yes (i := 20) (oi := ?o138) (d := (some 28)) (v := ?v138) ?hi138 (by kernel_rfl) (by kernel_rfl) (by kernel_rfl) (fun _ _ _ h => h) ?hd138 ?hw138 ?hy138 (by assumption) ?_
  case hi138 => (simp only [List.getElem?_toArray, List.getElem?_cons_zero, List.getElem?_cons_succ]; exact rfl)
  case hd138 => rfl
  case hw138 => rfl
  case hy138 => (intro w hSw; (try dsimp only at hSw); go_simp; try with_reducible rfl)
  try simp only [Act.put, List.setIfInBounds_toArray, List.set_cons_zero, List.set_cons_succ]
  refine take_yes (i := 21) (oi := ?o139) (d := (some 29)) (v := ?v139) ?hi139 (by kernel_rfl) (by kernel_rfl) (by kernel_rfl) (fun _ _ _ h => h) ?hd139 ?hw139 ?hy139 (by assumption) ?_
  case hi139 => (simp only [List.getElem?_toArray, List.getElem?_cons_zero, List.getElem?_cons_succ]; exact rfl)
  case hd139 => rfl
  case hw139 => rfl
  case hy139 => (intro w hSw; (try dsimp only at hSw); go_simp; try with_reducible rfl)
  try simp only [Act.put, List.setIfInBounds_toArray, List.set_cons_zero, List.set_cons_succ]
  refine take_yes (i := 22) (oi := ?o140) (d := (some 30)) (v := ?v140) ?hi140 (by kernel_rfl) (by kernel_rfl) (by kernel_rfl) (fun _ _ _ h => h) ?hd140 ?hw140 ?hy140 (by assumption) ?_
  case hi140 => (simp only [List.getElem?_toArray, List.getElem?_cons_zero, List.getElem?_cons_succ]; exact rfl)
  case hd140 => rfl
  case hw140 => rfl
  case hy140 => (intro w hSw; (try dsimp only at hSw); go_simp; try with_reducible rfl)
  try simp only [Act.put, List.setIfInBounds_toArray, List.set_cons_zero, List.set_cons_succ]
  refine take_yes (i := 23) (oi := ?o141) (d := (some 31)) (v := ?v141) ?hi141 (by kernel_rfl) (by kernel_rfl) (by kernel_rfl) (fun _ _ _ h => h) ?hd141 ?hw141 ?hy141 (by assumption) ?_
  case hi141 => (simp only [List.getElem?_toArray, List.getElem?_cons_zero, List.getElem?_cons_succ]; exact rfl)
  case hd141 => rfl
  case hw141 => rfl
  case hy141 => (intro w hSw; (try dsimp only at hSw); go_simp; try with_reducible rfl)
  try simp only [Act.put, List.setIfInBounds_toArray, List.set_cons_zero, List.set_cons_succ]
  refine take_yes (i := 24) (oi := ?o142) (d := (some 32)) (v := ?v142) ?hi142 (by kernel_rfl) (by kernel_rfl) (by kernel_rfl) (fun _ _ _ h => h) ?hd142 ?hw142 ?hy142 (by assumption) ?_
  case hi142 => (simp only [List.getElem?_toArray, List.getElem?_cons_zero, List.getElem?_cons_succ]; exact rfl)
  case hd142 => rfl
  case hw142 => rfl
  case hy142 => (intro w hSw; (try dsimp only at hSw); go_simp; try with_reducible rfl)
  try simp only [Act.put, List.setIfInBounds_toArray, List.set_cons_zero, List.set_cons_succ]
  refine take_yes (i := 25) (oi := ?o143) (d := (some 33)) (v := ?v143) ?hi143 (by kernel_rfl) (by kernel_rfl) (by kernel_rfl) (fun _ _ _ h => h) ?hd143 ?hw143 ?hy143 (by assumption) ?_
  case hi143 => (simp only [List.getElem?_toArray, List.getElem?_cons_zero, List.getElem?_cons_succ]; exact rfl)
  case hd143 => rfl
  case hw143 => rfl
  case hy143 => (intro w hSw; (try dsimp only at hSw); go_simp; try with_reducible rfl)
  try simp only [Act.put, List.setIfInBounds_toArray, List.set_cons_zero, List.set_cons_succ]
  refine take_yes (i := 26) (oi := ?o144) (d := (some 34)) (v := ?v144) ?hi144 (by kernel_rfl) (by kernel_rfl) (by kernel_rfl) (fun _ _ _ h => h) ?hd144 ?hw144 ?hy144 (by assumption) ?_
  case hi144 => (simp only [List.getElem?_toArray, List.getElem?_cons_zero, List.getElem?_cons_succ]; exact rfl)
  case hd144 => rfl
  case hw144 => rfl
  case hy144 => (intro w hSw; (try dsimp only at hSw); go_simp; try with_reducible rfl)
  try simp only [Act.put, List.setIfInBounds_toArray, List.set_cons_zero, List.set_cons_succ]
  refine take_yes (i := 27) (oi := ?o145) (d := (some 35)) (v := ?v145) ?hi145 (by kernel_rfl) (by kernel_rfl) (by kernel_rfl) (fun _ _ _ h => h) ?hd145 ?hw145 ?hy145 (by assumption) ?_
  case hi145 => (simp only [List.getElem?_toArray, List.getElem?_cons_zero, List.getElem?_cons_succ]; exact rfl)
  case hd145 => rfl
  case hw145 => rfl
  case hy145 => (intro w hSw; (try dsimp only at hSw); go_simp; try with_reducible rfl)
  try simp only [Act.put, List.setIfInBounds_toArray, List.set_cons_zero, List.set_cons_succ]
  refine take_yes (i := 28) (oi := ?o146) (d := (some 36)) (v := ?v146) ?hi146 (by kernel_rfl) (by kernel_rfl) (by kernel_rfl) (fun _ _ _ h => h) ?hd146 ?hw146 ?hy146 (by assumption) ?_
  case hi146 => (simp only [List.getElem?_toArray, List.getElem?_cons_zero, List.getElem?_cons_succ]; exact rfl)
  case hd146 => rfl
  case hw146 => rfl
  case hy146 => (intro w hSw; (try dsimp only at hSw); go_simp; try with_reducible rfl)
  try simp only [Act.put, List.setIfInBounds_toArray, List.set_cons_zero, List.set_cons_succ]
  refine take_yes (i := 29) (oi := ?o147) (d := (some 37)) (v := ?v147) ?hi147 (by kernel_rfl) (by kernel_rfl) (by kernel_rfl) (fun _ _ _ h => h) ?hd147 ?hw147 ?hy147 (by assumption) ?_
  case hi147 => (simp only [List.getElem?_toArray, List.getElem?_cons_zero, List.getElem?_cons_succ]; exact rfl)
  case hd147 => rfl
  case hw147 => rfl
  case hy147 => (intro w hSw; (try dsimp only at hSw); go_simp; try with_reducible rfl)
  try simp only [Act.put, List.setIfInBounds_toArray, List.set_cons_zero, List.set_cons_succ]
  refine take_no (i := 30) (oi := ?o148) (d := (some 38)) ?hi148 (by kernel_rfl) (by kernel_rfl) (by kernel_rfl) (fun _ _ _ h => h) ?hd148 ?hw148 (by assumption) ?_
  case hi148 => (simp only [List.getElem?_toArray, List.getElem?_cons_zero, List.getElem?_cons_succ]; exact rfl)
  case hd148 => rfl
  case hw148 => rfl
  try simp only [Act.put, List.setIfInBounds_toArray, List.set_cons_zero, List.set_cons_succ]
  refine take_no (i := 31) (oi := ?o149) (d := (some 39)) ?hi149 (by kernel_rfl) (by kernel_rfl) (by kernel_rfl) (fun _ _ _ h => h) ?hd149 ?hw149 (by assumption) ?_
  case hi149 => (simp only [List.getElem?_toArray, List.getElem?_cons_zero, List.getElem?_cons_succ]; exact rfl)
  case hd149 => rfl
  case hw149 => rfl
  try simp only [Act.put, List.setIfInBounds_toArray, List.set_cons_zero, List.set_cons_succ]
  refine take_no (i := 32) (oi := ?o150) (d := (some 40)) ?hi150 (by kernel_rfl) (by kernel_rfl) (by kernel_rfl) (fun _ _ _ h => h) ?hd150 ?hw150 (by assumption) ?_
  case hi150 => (simp only [List.getElem?_toArray, List.getElem?_cons_zero, List.getElem?_cons_succ]; exact rfl)
  case hd150 => rfl
  case hw150 => rfl
  try simp only [Act.put, List.setIfInBounds_toArray, List.set_cons_zero, List.set_cons_succ]
  refine take_no (i := 33) (oi := ?o151) (d := (some 41)) ?hi151 (by kernel_rfl) (by kernel_rfl) (by kernel_rfl) (fun _ _ _ h => h) ?hd151 ?hw151 (by assumption) ?_
  case hi151 => (simp only [List.getElem?_toArray, List.getElem?_cons_zero, List.getElem?_cons_succ]; exact rfl)
  case hd151 => rfl
  case hw151 => rfl
  try simp only [Act.put, List.setIfInBounds_toArray, List.set_cons_zero, List.set_cons_succ]
  refine take_no (i := 34) (oi := ?o152) (d := (some 42)) ?hi152 (by kernel_rfl) (by kernel_rfl) (by kernel_rfl) (fun _ _ _ h => h) ?hd152 ?hw152 (by assumption) ?_
  case hi152 => (simp only [List.getElem?_toArray, List.getElem?_cons_zero, List.getElem?_cons_succ]; exact rfl)
  case hd152 => rfl
  case hw152 => rfl
  try simp only [Act.put, List.setIfInBounds_toArray, List.set_cons_zero, List.set_cons_succ]
  refine take_no (i := 35) (oi := ?o153) (d := (some 43)) ?hi153 (by kernel_rfl) (by kernel_rfl) (by kernel_rfl) (fun _ _ _ h => h) ?hd153 ?hw153 (by assumption) ?_
  case hi153 => (simp only [List.getElem?_toArray, List.getElem?_cons_zero, List.getElem?_cons_succ]; exact rfl)
  case hd153 => rfl
  case hw153 => rfl
  try simp only [Act.put, List.setIfInBounds_toArray, List.set_cons_zero, List.set_cons_succ]
  refine take_no (i := 36) (oi := ?o154) (d := (some 44)) ?hi154 (by kernel_rfl) (by kernel_rfl) (by kernel_rfl) (fun _ _ _ h => h) ?hd154 ?hw154 (by assumption) ?_
  case hi154 => (simp only [List.getElem?_toArray, List.getElem?_cons_zero, List.getElem?_cons_succ]; exact rfl)
  case hd154 => rfl
  case hw154 => rfl
  try simp only [Act.put, List.setIfInBounds_toArray, List.set_cons_zero, List.set_cons_succ]
  refine take_yes (i := 37) (oi := ?o155) (d := (some 45)) (v := ?v155) ?hi155 (by kernel_rfl) (by kernel_rfl) (by kernel_rfl) (fun _ _ _ h => h) ?hd155 ?hw155 ?hy155 (by assumption) ?_
  case hi155 => (simp only [List.getElem?_toArray, List.getElem?_cons_zero, List.getElem?_cons_succ]; exact rfl)
  case hd155 => rfl
  case hw155 => rfl
  case hy155 => (intro w hSw; (try dsimp only at hSw); go_simp; try with_reducible rfl)
  try simp only [Act.put, List.setIfInBounds_toArray, List.set_cons_zero, List.set_cons_succ]
  refine take_yes (i := 38) (oi := ?o156) (d := (some 7)) (v := ?v156) ?hi156 (by kernel_rfl) (by kernel_rfl) (by kernel_rfl) (fun _ _ _ h => h) ?hd156 ?hw156 ?hy156 (by assumption) ?_
  case hi156 => (simp only [List.getElem?_toArray, List.getElem?_cons_zero, List.getElem?_cons_succ]; exact rfl)
  case hd156 => rfl
  case hw156 => rfl
  case hy156 => (intro w hSw; (try dsimp only at hSw); go_simp; try with_reducible rfl)
  try simp only [Act.put, List.setIfInBounds_toArray, List.set_cons_zero, List.set_cons_succ]
  refine wpAnyH_done (by kernel_rfl) ?_ _
  go_wp2_with fail
  go_ret
  exact ⟨rfl, ext_trans HB1.out (ext_drew (Below.refl _ _))⟩
set_option maxRecDepth 100000 in
set_option maxHeartbeats 2000000 in
theorem may_taken (S : Nat → Prop) (b n codes : Nat) (group next clock : Int) (L : List Bkg) (q : Parts) (id til last : Int) (i : Nat) (w : World) (h : BookAt S w b n codes group next clock L q) (c0 : decide (id ≤ last) = false) (c1 : decide (next ≤ id) = false) (hi : i < n) (hv : hasB q.ws i = true) :
    Calls Tryz.prog 39 #[.pointer (some ⟨b, 0, none⟩), .agg #[.int .u32 id, .int .i64 (i : Int), .int .i64 til], .int .u32 last] w fun e w' => e = .returned (.bool false) ∧ Below w.heap.size w w' := by
  have hn4 : n ≤ 1024 := h.small.2.2.2.2
  have c2 : decide ((i : Int) < 0) = false := decide_eq_false (by omega)
  have c3 : decide ((n : Int) ≤ (i : Int)) = false := decide_eq_false (by omega)
  have c3n : decide (n ≤ i) = false := decide_eq_false (by omega)
  have HHV := Lib.hid hv
  clear hv
  have HH := Lib.hid h
  clear h
  go_enter Tryz.func39, Tryz.ntmps39
  go_wp2_with fail
  have hb1 : Below w.heap.size w (w.alloc (.cells #[.int .u32 id, .int .i64 (i : Int), .int .i64 til] 78)) := ext_alloc (Below.refl _ _) _
  have hA1 : Arr (w.alloc (.cells #[.int .u32 id, .int .i64 (i : Int), .int .i64 til] 78)) w.heap.size 78 #[.int .u32 id, .int .i64 (i : Int), .int .i64 til] := Arr.fresh w _ _
  obtain ⟨w1, hw1⟩ : ∃ w1, w.alloc (.cells #[.int .u32 id, .int .i64 (i : Int), .int .i64 til] 78) = w1 := ⟨_, rfl⟩
  obtain ⟨vb, hvb⟩ : ∃ vb, w.heap.size = vb := ⟨_, rfl⟩
  rw [hw1] at hb1 hA1 ⊢
  have HC1 := Lib.hid (HH.out.comp.below hb1)
  have HB1 := Lib.hid hb1
  clear hb1
  rw [hvb] at hA1 ⊢
  clear hw1 hvb
  have HCS : ∀ w', Below w1.heap.size w1 w' → (w'.cell? ⟨vb, 0, none⟩ = some (.int .u32 id) ∧ w'.cell? ⟨vb, 1, none⟩ = some (.int .i64 (i : Int)) ∧ w'.cell? ⟨vb, 2, none⟩ = some (.int .i64 til) ∧ w'.cell? ⟨b, 0, none⟩ = some (.int .i64 n) ∧ w'.cell? ⟨b, 4, none⟩ = some (.int .i64 clock) ∧ w'.cell? ⟨b, 5, none⟩ = some (.int .u32 next) ∧ w'.cell? ⟨b, 6, none⟩ = some (.pointer (some ⟨q.tp, 0, none⟩)) ∧ Below w1.heap.size w1 w') := fun w' hb => ⟨(hA1.keep hb).cell 0, (hA1.keep hb).cell 1, (hA1.keep hb).cell 2, (HC1.out.own.keep hb).cell 0, (HC1.out.own.keep hb).cell 4, (HC1.out.own.keep hb).cell 5, (HC1.out.own.keep hb).cell 6, hb⟩
  have HCS := Lib.hid HCS
  clear hA1
  refine wp_region_held_drew (S := (fun w' => w'.cell? ⟨vb, 0, none⟩ = some (.int .u32 id) ∧ w'.cell? ⟨vb, 1, none⟩ = some (.int .i64 (i : Int)) ∧ w'.cell? ⟨vb, 2, none⟩ = some (.int .i64 til) ∧ w'.cell? ⟨b, 0, none⟩ = some (.int .i64 n) ∧ w'.cell? ⟨b, 4, none⟩ = some (.int .i64 clock) ∧ w'.cell? ⟨b, 5, none⟩ = some (.int .u32 next) ∧ w'.cell? ⟨b, 6, none⟩ = some (.pointer (some ⟨q.tp, 0, none⟩)) ∧ Below w1.heap.size w1 w')) (by kernel_rfl) (by exact HCS.out _ (ext_drew (Below.refl _ _))) (fun hHeld => ?_)
  refine take_yes (i := 0) (oi := ?o157) (d := (some 8)) (v := ?v157) ?hi157 (by kernel_rfl) (by kernel_rfl) (by kernel_rfl) (fun _ _ _ h => h) ?hd157 ?hw157 ?hy157 (by assumption) ?_
  case hi157 => (simp only [List.getElem?_toArray, List.getElem?_cons_zero]; exact rfl)
  case hd157 => rfl
  case hw157 => rfl
  case hy157 => (intro w hSw; (try dsimp only at hSw); go_simp; try with_reducible rfl)
  try simp only [Act.put, List.setIfInBounds_toArray, List.set_cons_zero, List.set_cons_succ]
  refine take_yes (i := 1) (oi := ?o158) (d := (some 9)) (v := ?v158) ?hi158 (by kernel_rfl) (by kernel_rfl) (by kernel_rfl) (fun _ _ _ h => h) ?hd158 ?hw158 ?hy158 (by assumption) ?_
  case hi158 => (simp only [List.getElem?_toArray, List.getElem?_cons_zero, List.getElem?_cons_succ]; exact rfl)
  case hd158 => rfl
  case hw158 => rfl
  case hy158 => (intro w hSw; (try dsimp only at hSw); go_simp; try with_reducible rfl)
  try simp only [Act.put, List.setIfInBounds_toArray, List.set_cons_zero, List.set_cons_succ]
  refine take_yes (i := 2) (oi := ?o159) (d := (some 10)) (v := ?v159) ?hi159 (by kernel_rfl) (by kernel_rfl) (by kernel_rfl) (fun _ _ _ h => h) ?hd159 ?hw159 ?hy159 (by assumption) ?_
  case hi159 => (simp only [List.getElem?_toArray, List.getElem?_cons_zero, List.getElem?_cons_succ]; exact rfl)
  case hd159 => rfl
  case hw159 => rfl
  case hy159 => (intro w hSw; (try dsimp only at hSw); go_simp; try with_reducible rfl)
  try simp only [Act.put, List.setIfInBounds_toArray, List.set_cons_zero, List.set_cons_succ]
  refine take_yes (i := 3) (oi := ?o160) (d := (some 11)) (v := ?v160) ?hi160 (by kernel_rfl) (by kernel_rfl) (by kernel_rfl) (fun _ _ _ h => h) ?hd160 ?hw160 ?hy160 (by assumption) ?_
  case hi160 => (simp only [List.getElem?_toArray, List.getElem?_cons_zero, List.getElem?_cons_succ]; exact rfl)
  case hd160 => rfl
  case hw160 => rfl
  case hy160 => (intro w hSw; (try dsimp only at hSw); go_simp; try with_reducible rfl)
  try simp only [Act.put, List.setIfInBounds_toArray, List.set_cons_zero, List.set_cons_succ]
  refine take_yes (i := 4) (oi := ?o161) (d := (some 12)) (v := ?v161) ?hi161 (by kernel_rfl) (by kernel_rfl) (by kernel_rfl) (fun _ _ _ h => h) ?hd161 ?hw161 ?hy161 (by assumption) ?_
  case hi161 => (simp only [List.getElem?_toArray, List.getElem?_cons_zero, List.getElem?_cons_succ]; exact rfl)
  case hd161 => rfl
  case hw161 => rfl
  case hy161 => (intro w hSw; (try dsimp only at hSw); go_simp; try with_reducible rfl)
  try simp only [Act.put, List.setIfInBounds_toArray, List.set_cons_zero, List.set_cons_succ]
  refine take_yes (i := 5) (oi := ?o162) (d := (some 13)) (v := ?v162) ?hi162 (by kernel_rfl) (by kernel_rfl) (by kernel_rfl) (fun _ _ _ h => h) ?hd162 ?hw162 ?hy162 (by assumption) ?_
  case hi162 => (simp only [List.getElem?_toArray, List.getElem?_cons_zero, List.getElem?_cons_succ]; exact rfl)
  case hd162 => rfl
  case hw162 => rfl
  case hy162 => (intro w hSw; (try dsimp only at hSw); go_simp; try with_reducible rfl)
  try simp only [Act.put, List.setIfInBounds_toArray, List.set_cons_zero, List.set_cons_succ]
  refine take_yes (i := 6) (oi := ?o163) (d := (some 14)) (v := ?v163) ?hi163 (by kernel_rfl) (by kernel_rfl) (by kernel_rfl) (fun _ _ _ h => h) ?hd163 ?hw163 ?hy163 (by assumption) ?_
  case hi163 => (simp only [List.getElem?_toArray, List.getElem?_cons_zero, List.getElem?_cons_succ]; exact rfl)
  case hd163 => rfl
  case hw163 => rfl
  case hy163 => (intro w hSw; (try dsimp only at hSw); go_simp; try with_reducible rfl)
  try simp only [Act.put, List.setIfInBounds_toArray, List.set_cons_zero, List.set_cons_succ]
  refine take_yes (i := 7) (oi := ?o164) (d := (some 15)) (v := ?v164) ?hi164 (by kernel_rfl) (by kernel_rfl) (by kernel_rfl) (fun _ _ _ h => h) ?hd164 ?hw164 ?hy164 (by assumption) ?_
  case hi164 => (simp only [List.getElem?_toArray, List.getElem?_cons_zero, List.getElem?_cons_succ]; exact rfl)
  case hd164 => rfl
  case hw164 => rfl
  case hy164 => (intro w hSw; (try dsimp only at hSw); go_simp; try with_reducible rfl)
  try simp only [Act.put, List.setIfInBounds_toArray, List.set_cons_zero, List.set_cons_succ]
  refine take_yes (i := 8) (oi := ?o165) (d := (some 16)) (v := ?v165) ?hi165 (by kernel_rfl) (by kernel_rfl) (by kernel_rfl) (fun _ _ _ h => h) ?hd165 ?hw165 ?hy165 (by assumption) ?_
  case hi165 => (simp only [List.getElem?_toArray, List.getElem?_cons_zero, List.getElem?_cons_succ]; exact rfl)
  case hd165 => rfl
  case hw165 => rfl
  case hy165 => (intro w hSw; (try dsimp only at hSw); go_simp; try with_reducible rfl)
  try simp only [Act.put, List.setIfInBounds_toArray, List.set_cons_zero, List.set_cons_succ]
  refine take_yes (i := 9) (oi := ?o166) (d := (some 17)) (v := ?v166) ?hi166 (by kernel_rfl) (by kernel_rfl) (by kernel_rfl) (fun _ _ _ h => h) ?hd166 ?hw166 ?hy166 (by assumption) ?_
  case hi166 => (simp only [List.getElem?_toArray, List.getElem?_cons_zero, List.getElem?_cons_succ]; exact rfl)
  case hd166 => rfl
  case hw166 => rfl
  case hy166 => (intro w hSw; (try dsimp only at hSw); go_simp; try with_reducible rfl)
  try simp only [Act.put, List.setIfInBounds_toArray, List.set_cons_zero, List.set_cons_succ]
  refine take_yes (i := 10) (oi := ?o167) (d := (some 18)) (v := ?v167) ?hi167 (by kernel_rfl) (by kernel_rfl) (by kernel_rfl) (fun _ _ _ h => h) ?hd167 ?hw167 ?hy167 (by assumption) ?_
  case hi167 => (simp only [List.getElem?_toArray, List.getElem?_cons_zero, List.getElem?_cons_succ]; exact rfl)
  case hd167 => rfl
  case hw167 => rfl
  case hy167 => (intro w hSw; (try dsimp only at hSw); go_simp; try with_reducible rfl)
  try simp only [Act.put, List.setIfInBounds_toArray, List.set_cons_zero, List.set_cons_succ]
  refine take_yes (i := 11) (oi := ?o168) (d := (some 19)) (v := ?v168) ?hi168 (by kernel_rfl) (by kernel_rfl) (by kernel_rfl) (fun _ _ _ h => h) ?hd168 ?hw168 ?hy168 (by assumption) ?_
  case hi168 => (simp only [List.getElem?_toArray, List.getElem?_cons_zero, List.getElem?_cons_succ]; exact rfl)
  case hd168 => rfl
  case hw168 => rfl
  case hy168 => (intro w hSw; (try dsimp only at hSw); go_simp; try with_reducible rfl)
  try simp only [Act.put, List.setIfInBounds_toArray, List.set_cons_zero, List.set_cons_succ]
  refine take_yes (i := 12) (oi := ?o169) (d := (some 20)) (v := ?v169) ?hi169 (by kernel_rfl) (by kernel_rfl) (by kernel_rfl) (fun _ _ _ h => h) ?hd169 ?hw169 ?hy169 (by assumption) ?_
  case hi169 => (simp only [List.getElem?_toArray, List.getElem?_cons_zero, List.getElem?_cons_succ]; exact rfl)
  case hd169 => rfl
  case hw169 => rfl
  case hy169 => (intro w hSw; (try dsimp only at hSw); go_simp; try with_reducible rfl)
  try simp only [Act.put, List.setIfInBounds_toArray, List.set_cons_zero, List.set_cons_succ]
  refine take_yes (i := 13) (oi := ?o170) (d := (some 21)) (v := ?v170) ?hi170 (by kernel_rfl) (by kernel_rfl) (by kernel_rfl) (fun _ _ _ h => h) ?hd170 ?hw170 ?hy170 (by assumption) ?_
  case hi170 => (simp only [List.getElem?_toArray, List.getElem?_cons_zero, List.getElem?_cons_succ]; exact rfl)
  case hd170 => rfl
  case hw170 => rfl
  case hy170 => (intro w hSw; (try dsimp only at hSw); go_simp; try with_reducible rfl)
  try simp only [Act.put, List.setIfInBounds_toArray, List.set_cons_zero, List.set_cons_succ]
  refine take_yes (i := 14) (oi := ?o171) (d := (some 22)) (v := ?v171) ?hi171 (by kernel_rfl) (by kernel_rfl) (by kernel_rfl) (fun _ _ _ h => h) ?hd171 ?hw171 ?hy171 (by assumption) ?_
  case hi171 => (simp only [List.getElem?_toArray, List.getElem?_cons_zero, List.getElem?_cons_succ]; exact rfl)
  case hd171 => rfl
  case hw171 => rfl
  case hy171 => (intro w hSw; (try dsimp only at hSw); go_simp; try with_reducible rfl)
  try simp only [Act.put, List.setIfInBounds_toArray, List.set_cons_zero, List.set_cons_succ]
  refine take_yes (i := 15) (oi := ?o172) (d := (some 23)) (v := ?v172) ?hi172 (by kernel_rfl) (by kernel_rfl) (by kernel_rfl) (fun _ _ _ h => h) ?hd172 ?hw172 ?hy172 (by assumption) ?_
  case hi172 => (simp only [List.getElem?_toArray, List.getElem?_cons_zero, List.getElem?_cons_succ]; exact rfl)
  case hd172 => rfl
  case hw172 => rfl
  case hy172 => (intro w hSw; (try dsimp only at hSw); go_simp; try with_reducible rfl)
  try simp only [Act.put, List.setIfInBounds_toArray, List.set_cons_zero, List.set_cons_succ]
  refine take_yes (i := 16) (oi := ?o173) (d := (some 24)) (v := ?v173) ?hi173 (by kernel_rfl) (by kernel_rfl) (by kernel_rfl) (fun _ _ _ h => h) ?hd173 ?hw173 ?hy173 (by assumption) ?_
  case hi173 => (simp only [List.getElem?_toArray, List.getElem?_cons_zero, List.getElem?_cons_succ]; exact rfl)
  case hd173 => rfl
  case hw173 => rfl
  case hy173 => (intro w hSw; (try dsimp only at hSw); go_simp; try with_reducible rfl)
  try simp only [Act.put, List.setIfInBounds_toArray, List.set_cons_zero, List.set_cons_succ]
  refine take_yes (i := 17) (oi := ?o174) (d := (some 25)) (v := ?v174) ?hi174 (by kernel_rfl) (by kernel_rfl) (by kernel_rfl) (fun _ _ _ h => h) ?hd174 ?hw174 ?hy174 (by assumption) ?_
  case hi174 => (simp only [List.getElem?_toArray, List.getElem?_cons_zero, List.getElem?_cons_succ]; exact rfl)
  case hd174 => rfl
  case hw174 => rfl
  case hy174 => (intro w hSw; (try dsimp only at hSw); go_simp; try with_reducible rfl)
  try simp only [Act.put, List.setIfInBounds_toArray, List.set_cons_zero, List.set_cons_succ]
  refine take_yes (i := 18) (oi := ?o175) (d := (some 26)) (v := ?v175) ?hi175 (by kernel_rfl) (by kernel_rfl) (by kernel_rfl) (fun _ _ _ h => h) ?hd175 ?hw175 ?hy175 (by assumption) ?_
  case hi175 => (simp only [List.getElem?_toArray, List.getElem?_cons_zero, List.getElem?_cons_succ]; exact rfl)
  case hd175 => rfl
  case hw175 => rfl
  case hy175 => (intro w hSw; (try dsimp only at hSw); go_simp; try with_reducible rfl)
  try simp only [Act.put, List.setIfInBounds_toArray, List.set_cons_zero, List.set_cons_succ]
  refine take_yes (i := 19) (oi := ?o176) (d := (some 27)) (v := ?v176) ?hi176 (by kernel_rfl) (by kernel_rfl) (by kernel_rfl) (fun _ _ _ h => h) ?hd176 ?hw176 ?hy176 (by assumption) ?_
  case hi176 => (simp only [List.getElem?_toArray, List.getElem?_cons_zero, List.getElem?_cons_succ]; exact rfl)
  case hd176 => rfl
  case hw176 => rfl
  case hy176 => (intro w hSw; (try dsimp only at hSw); go_simp; try with_reducible rfl)
  try simp only [Act.put, List.setIfInBounds_toArray, List.set_cons_zero, List.set_cons_succ]
  refine take_yes (i := 20) (oi := ?o177) (d := (some 28)) (v := ?v177) ?hi177 (by kernel_rfl) (by kernel_rfl) (by kernel_rfl) (fun _ _ _ h => h) ?hd177 ?hw177 ?hy177 (by assumption) ?_
  case hi177 => (simp only [List.getElem?_toArray, List.getElem?_cons_zero, List.getElem?_cons_succ]; exact rfl)
  case hd177 => rfl
  case hw177 => rfl
  case hy177 => (intro w hSw; (try dsimp only at hSw); go_simp; try with_reducible rfl)
  try simp only [Act.put, List.setIfInBounds_toArray, List.set_cons_zero, List.set_cons_succ]
  refine take_yes (i := 21) (oi := ?o178) (d := (some 29)) (v := ?v178) ?hi178 (by kernel_rfl) (by kernel_rfl) (by kernel_rfl) (fun _ _ _ h => h) ?hd178 ?hw178 ?hy178 (by assumption) ?_
  case hi178 => (simp only [List.getElem?_toArray, List.getElem?_cons_zero, List.getElem?_cons_succ]; exact rfl)
  case hd178 => rfl
  case hw178 => rfl
  case hy178 => (intro w hSw; (try dsimp only at hSw); go_simp; try with_reducible rfl)
  try simp only [Act.put, List.setIfInBounds_toArray, List.set_cons_zero, List.set_cons_succ]
  refine take_yes (i := 22) (oi := ?o179) (d := (some 30)) (v := ?v179) ?hi179 (by kernel_rfl) (by kernel_rfl) (by kernel_rfl) (fun _ _ _ h => h) ?hd179 ?hw179 ?hy179 (by assumption) ?_
  case hi179 => (simp only [List.getElem?_toArray, List.getElem?_cons_zero, List.getElem?_cons_succ]; exact rfl)
  case hd179 => rfl
  case hw179 => rfl
  case hy179 => (intro w hSw; (try dsimp only at hSw); go_simp; try with_reducible rfl)
  try simp only [Act.put, List.setIfInBounds_toArray, List.set_cons_zero, List.set_cons_succ]
  refine take_yes (i := 23) (oi := ?o180) (d := (some 31)) (v := ?v180) ?hi180 (by kernel_rfl) (by kernel_rfl) (by kernel_rfl) (fun _ _ _ h => h) ?hd180 ?hw180 ?hy180 (by assumption) ?_
  case hi180 => (simp only [List.getElem?_toArray, List.getElem?_cons_zero, List.getElem?_cons_succ]; exact rfl)
  case hd180 => rfl
  case hw180 => rfl
  case hy180 => (intro w hSw; (try dsimp only at hSw); go_simp; try with_reducible rfl)
  try simp only [Act.put, List.setIfInBounds_toArray, List.set_cons_zero, List.set_cons_succ]
  refine take_yes (i := 24) (oi := ?o181) (d := (some 32)) (v := ?v181) ?hi181 (by kernel_rfl) (by kernel_rfl) (by kernel_rfl) (fun _ _ _ h => h) ?hd181 ?hw181 ?hy181 (by assumption) ?_
  case hi181 => (simp only [List.getElem?_toArray, List.getElem?_cons_zero, List.getElem?_cons_succ]; exact rfl)
  case hd181 => rfl
  case hw181 => rfl
  case hy181 => (intro w hSw; (try dsimp only at hSw); go_simp; try with_reducible rfl)
  try simp only [Act.put, List.setIfInBounds_toArray, List.set_cons_zero, List.set_cons_succ]
  refine take_yes (i := 25) (oi := ?o182) (d := (some 33)) (v := ?v182) ?hi182 (by kernel_rfl) (by kernel_rfl) (by kernel_rfl) (fun _ _ _ h => h) ?hd182 ?hw182 ?hy182 (by assumption) ?_
  case hi182 => (simp only [List.getElem?_toArray, List.getElem?_cons_zero, List.getElem?_cons_succ]; exact rfl)
  case hd182 => rfl
  case hw182 => rfl
  case hy182 => (intro w hSw; (try dsimp only at hSw); go_simp; try with_reducible rfl)
  try simp only [Act.put, List.setIfInBounds_toArray, List.set_cons_zero, List.set_cons_succ]
  refine take_yes (i := 26) (oi := ?o183) (d := (some 34)) (v := ?v183) ?hi183 (by kernel_rfl) (by kernel_rfl) (by kernel_rfl) (fun _ _ _ h => h) ?hd183 ?hw183 ?hy183 (by assumption) ?_
  case hi183 => (simp only [List.getElem?_toArray, List.getElem?_cons_zero, List.getElem?_cons_succ]; exact rfl)
  case hd183 => rfl
  case hw183 => rfl
  case hy183 => (intro w hSw; (try dsimp only at hSw); go_simp; try with_reducible rfl)
  try simp only [Act.put, List.setIfInBounds_toArray, List.set_cons_zero, List.set_cons_succ]
  refine take_yes (i := 27) (oi := ?o184) (d := (some 35)) (v := ?v184) ?hi184 (by kernel_rfl) (by kernel_rfl) (by kernel_rfl) (fun _ _ _ h => h) ?hd184 ?hw184 ?hy184 (by assumption) ?_
  case hi184 => (simp only [List.getElem?_toArray, List.getElem?_cons_zero, List.getElem?_cons_succ]; exact rfl)
  case hd184 => rfl
  case hw184 => rfl
  case hy184 => (intro w hSw; (try dsimp only at hSw); go_simp; try with_reducible rfl)
  try simp only [Act.put, List.setIfInBounds_toArray, List.set_cons_zero, List.set_cons_succ]
  refine take_yes (i := 28) (oi := ?o185) (d := (some 36)) (v := ?v185) ?hi185 (by kernel_rfl) (by kernel_rfl) (by kernel_rfl) (fun _ _ _ h => h) ?hd185 ?hw185 ?hy185 (by assumption) ?_
  case hi185 => (simp only [List.getElem?_toArray, List.getElem?_cons_zero, List.getElem?_cons_succ]; exact rfl)
  case hd185 => rfl
  case hw185 => rfl
  case hy185 => (intro w hSw; (try dsimp only at hSw); go_simp; try with_reducible rfl)
  try simp only [Act.put, List.setIfInBounds_toArray, List.set_cons_zero, List.set_cons_succ]
  refine take_yes (i := 29) (oi := ?o186) (d := (some 37)) (v := ?v186) ?hi186 (by kernel_rfl) (by kernel_rfl) (by kernel_rfl) (fun _ _ _ h => h) ?hd186 ?hw186 ?hy186 (by assumption) ?_
  case hi186 => (simp only [List.getElem?_toArray, List.getElem?_cons_zero, List.getElem?_cons_succ]; exact rfl)
  case hd186 => rfl
  case hw186 => rfl
  case hy186 => (intro w hSw; (try dsimp only at hSw); go_simp; try with_reducible rfl)
  try simp only [Act.put, List.setIfInBounds_toArray, List.set_cons_zero, List.set_cons_succ]
  refine take_yes (i := 30) (oi := ?o187) (d := (some 38)) (v := ?v187) ?hi187 (by kernel_rfl) (by kernel_rfl) (by kernel_rfl) (fun _ _ _ h => h) ?hd187 ?hw187 ?hy187 (by assumption) ?_
  case hi187 => (simp only [List.getElem?_toArray, List.getElem?_cons_zero, List.getElem?_cons_succ]; exact rfl)
  case hd187 => rfl
  case hw187 => rfl
  case hy187 => (intro w hSw; (try dsimp only at hSw); go_simp; try with_reducible rfl)
  try simp only [Act.put, List.setIfInBounds_toArray, List.set_cons_zero, List.set_cons_succ]
  refine take_yes (i := 31) (oi := ?o188) (d := (some 39)) (v := ?v188) ?hi188 (by kernel_rfl) (by kernel_rfl) (by kernel_rfl) (fun _ _ _ h => h) ?hd188 ?hw188 ?hy188 (by assumption) ?_
  case hi188 => (simp only [List.getElem?_toArray, List.getElem?_cons_zero, List.getElem?_cons_succ]; exact rfl)
  case hd188 => rfl
  case hw188 => rfl
  case hy188 => (intro w hSw; (try dsimp only at hSw); go_simp; try with_reducible rfl)
  try simp only [Act.put, List.setIfInBounds_toArray, List.set_cons_zero, List.set_cons_succ]
  refine take_yes (i := 32) (oi := ?o189) (d := (some 40)) (v := ?v189) ?hi189 (by kernel_rfl) (by kernel_rfl) (by kernel_rfl) (fun _ _ _ h => h) ?hd189 ?hw189 ?hy189 (by assumption) ?_
  case hi189 => (simp only [List.getElem?_toArray, List.getElem?_cons_zero, List.getElem?_cons_succ]; exact rfl)
  case hd189 => rfl
  case hw189 => rfl
  case hy189 => (intro w hSw; (try dsimp only at hSw); go_simp; try with_reducible rfl)
  try simp only [Act.put, List.setIfInBounds_toArray, List.set_cons_zero, List.set_cons_succ]
  refine take_yes (i := 33) (oi := ?o190) (d := (some 41)) (v := ?v190) ?hi190 (by kernel_rfl) (by kernel_rfl) (by kernel_rfl) (fun _ _ _ h => h) ?hd190 ?hw190 ?hy190 (by assumption) ?_
  case hi190 => (simp only [List.getElem?_toArray, List.getElem?_cons_zero, List.getElem?_cons_succ]; exact rfl)
  case hd190 => rfl
  case hw190 => rfl
  case hy190 => (intro w hSw; (try dsimp only at hSw); go_simp; try with_reducible rfl)
  try simp only [Act.put, List.setIfInBounds_toArray, List.set_cons_zero, List.set_cons_succ]
  refine take_yes (i := 34) (oi := ?o191) (d := (some 42)) (v := ?v191) ?hi191 (by kernel_rfl) (by kernel_rfl) (by kernel_rfl) (fun _ _ _ h => h) ?hd191 ?hw191 ?hy191 (by assumption) ?_
  case hi191 => (simp only [List.getElem?_toArray, List.getElem?_cons_zero, List.getElem?_cons_succ]; exact rfl)
  case hd191 => rfl
  case hw191 => rfl
  case hy191 => (intro w hSw; (try dsimp only at hSw); go_simp; try with_reducible rfl)
  try simp only [Act.put, List.setIfInBounds_toArray, List.set_cons_zero, List.set_cons_succ]
  refine take_yes (i := 35) (oi := ?o192) (d := (some 43)) (v := ?v192) ?hi192 (by kernel_rfl) (by kernel_rfl) (by kernel_rfl) (fun _ _ _ h => h) ?hd192 ?hw192 ?hy192 (by assumption) ?_
  case hi192 => (simp only [List.getElem?_toArray, List.getElem?_cons_zero, List.getElem?_cons_succ]; exact rfl)
  case hd192 => rfl
  case hw192 => rfl
  case hy192 => (intro w hSw; (try dsimp only at hSw); go_simp; try with_reducible rfl)
  try simp only [Act.put, List.setIfInBounds_toArray, List.set_cons_zero, List.set_cons_succ]
  refine wpAnyH_ready (rs := [36]) (by kernel_rfl) (by simp) ?_
  refine AllReadyH.cons rfl (fun K hK => ?_) AllReadyH.nil
  go_simp
  go_at_call 80
  refine (Bit.Has_in q.tp q.tg q.tc n i q.ws _ (HC1.out.below (ext_drew (Below.refl _ _))).taken hi (by omega)).mono ?_
  rintro e w3 ⟨rfl, hw3⟩
  rw [hw3, HHV.out]
  clear hw3 w3
  go_wp2_with fail
  refine hK.out _ _ (by first | assumption) (fun hHeld36 => ?_)
  clear hK K
  try simp only [Act.put, List.setIfInBounds_toArray, List.set_cons_zero, List.set_cons_succ]
  refine take_yes (i := 37) (oi := ?o193) (d := (some 45)) (v := ?v193) ?hi193 (by kernel_rfl) (by kernel_rfl) (by kernel_rfl) (fun _ _ _ h => h) ?hd193 ?hw193 ?hy193 (by assumption) ?_
  case hi193 => (simp only [List.getElem?_toArray, List.getElem?_cons_zero, List.getElem?_cons_succ]; exact rfl)
  case hd193 => rfl
  case hw193 => rfl
  case hy193 => (intro w hSw; (try dsimp only at hSw); go_simp; try with_reducible rfl)
  try simp only [Act.put, List.setIfInBounds_toArray, List.set_cons_zero, List.set_cons_succ]
  refine take_yes (i := 38) (oi := ?o194) (d := (some 7)) (v := ?v194) ?hi194 (by kernel_rfl) (by kernel_rfl) (by kernel_rfl) (fun _ _ _ h => h) ?hd194 ?hw194 ?hy194 (by assumption) ?_
  case hi194 => (simp only [List.getElem?_toArray, List.getElem?_cons_zero, List.getElem?_cons_succ]; exact rfl)
  case hd194 => rfl
  case hw194 => rfl
  case hy194 => (intro w hSw; (try dsimp only at hSw); go_simp; try with_reducible rfl)
  try simp only [Act.put, List.setIfInBounds_toArray, List.set_cons_zero, List.set_cons_succ]
  refine wpAnyH_done (by kernel_rfl) ?_ _
  go_wp2_with fail
  go_ret
  exact ⟨rfl, ext_trans HB1.out (by first | exact ext_drew (Below.refl _ _) | exact ext_drew (ext_drew (Below.refl _ _)))⟩
set_option maxRecDepth 100000 in
set_option maxHeartbeats 2000000 in
theorem may_zero (S : Nat → Prop) (b n codes : Nat) (group next clock : Int) (L : List Bkg) (q : Parts) (id til last : Int) (i : Nat) (w : World) (h : BookAt S w b n codes group next clock L q) (c0 : decide (id ≤ last) = false) (c1 : decide (next ≤ id) = false) (hi : i < n) (hv : hasB q.ws i = false) (c6 : (til == 0) = true) :
    Calls Tryz.prog 39 #[.pointer (some ⟨b, 0, none⟩), .agg #[.int .u32 id, .int .i64 (i : Int), .int .i64 til], .int .u32 last] w fun e w' => e = .returned (.bool true) ∧ Below w.heap.size w w' := by
  have hn4 : n ≤ 1024 := h.small.2.2.2.2
  have c2 : decide ((i : Int) < 0) = false := decide_eq_false (by omega)
  have c3 : decide ((n : Int) ≤ (i : Int)) = false := decide_eq_false (by omega)
  have c3n : decide (n ≤ i) = false := decide_eq_false (by omega)
  have HHV := Lib.hid hv
  clear hv
  have HH := Lib.hid h
  clear h
  go_enter Tryz.func39, Tryz.ntmps39
  go_wp2_with fail
  have hb1 : Below w.heap.size w (w.alloc (.cells #[.int .u32 id, .int .i64 (i : Int), .int .i64 til] 78)) := ext_alloc (Below.refl _ _) _
  have hA1 : Arr (w.alloc (.cells #[.int .u32 id, .int .i64 (i : Int), .int .i64 til] 78)) w.heap.size 78 #[.int .u32 id, .int .i64 (i : Int), .int .i64 til] := Arr.fresh w _ _
  obtain ⟨w1, hw1⟩ : ∃ w1, w.alloc (.cells #[.int .u32 id, .int .i64 (i : Int), .int .i64 til] 78) = w1 := ⟨_, rfl⟩
  obtain ⟨vb, hvb⟩ : ∃ vb, w.heap.size = vb := ⟨_, rfl⟩
  rw [hw1] at hb1 hA1 ⊢
  have HC1 := Lib.hid (HH.out.comp.below hb1)
  have HB1 := Lib.hid hb1
  clear hb1
  rw [hvb] at hA1 ⊢
  clear hw1 hvb
  have HCS : ∀ w', Below w1.heap.size w1 w' → (w'.cell? ⟨vb, 0, none⟩ = some (.int .u32 id) ∧ w'.cell? ⟨vb, 1, none⟩ = some (.int .i64 (i : Int)) ∧ w'.cell? ⟨vb, 2, none⟩ = some (.int .i64 til) ∧ w'.cell? ⟨b, 0, none⟩ = some (.int .i64 n) ∧ w'.cell? ⟨b, 4, none⟩ = some (.int .i64 clock) ∧ w'.cell? ⟨b, 5, none⟩ = some (.int .u32 next) ∧ w'.cell? ⟨b, 6, none⟩ = some (.pointer (some ⟨q.tp, 0, none⟩)) ∧ Below w1.heap.size w1 w') := fun w' hb => ⟨(hA1.keep hb).cell 0, (hA1.keep hb).cell 1, (hA1.keep hb).cell 2, (HC1.out.own.keep hb).cell 0, (HC1.out.own.keep hb).cell 4, (HC1.out.own.keep hb).cell 5, (HC1.out.own.keep hb).cell 6, hb⟩
  have HCS := Lib.hid HCS
  clear hA1
  refine wp_region_held_drew (S := (fun w' => w'.cell? ⟨vb, 0, none⟩ = some (.int .u32 id) ∧ w'.cell? ⟨vb, 1, none⟩ = some (.int .i64 (i : Int)) ∧ w'.cell? ⟨vb, 2, none⟩ = some (.int .i64 til) ∧ w'.cell? ⟨b, 0, none⟩ = some (.int .i64 n) ∧ w'.cell? ⟨b, 4, none⟩ = some (.int .i64 clock) ∧ w'.cell? ⟨b, 5, none⟩ = some (.int .u32 next) ∧ w'.cell? ⟨b, 6, none⟩ = some (.pointer (some ⟨q.tp, 0, none⟩)) ∧ Below w1.heap.size w1 w')) (by kernel_rfl) (by exact HCS.out _ (ext_drew (Below.refl _ _))) (fun hHeld => ?_)
  refine take_yes (i := 0) (oi := ?o195) (d := (some 8)) (v := ?v195) ?hi195 (by kernel_rfl) (by kernel_rfl) (by kernel_rfl) (fun _ _ _ h => h) ?hd195 ?hw195 ?hy195 (by assumption) ?_
  case hi195 => (simp only [List.getElem?_toArray, List.getElem?_cons_zero]; exact rfl)
  case hd195 => rfl
  case hw195 => rfl
  case hy195 => (intro w hSw; (try dsimp only at hSw); go_simp; try with_reducible rfl)
  try simp only [Act.put, List.setIfInBounds_toArray, List.set_cons_zero, List.set_cons_succ]
  refine take_yes (i := 1) (oi := ?o196) (d := (some 9)) (v := ?v196) ?hi196 (by kernel_rfl) (by kernel_rfl) (by kernel_rfl) (fun _ _ _ h => h) ?hd196 ?hw196 ?hy196 (by assumption) ?_
  case hi196 => (simp only [List.getElem?_toArray, List.getElem?_cons_zero, List.getElem?_cons_succ]; exact rfl)
  case hd196 => rfl
  case hw196 => rfl
  case hy196 => (intro w hSw; (try dsimp only at hSw); go_simp; try with_reducible rfl)
  try simp only [Act.put, List.setIfInBounds_toArray, List.set_cons_zero, List.set_cons_succ]
  refine take_yes (i := 2) (oi := ?o197) (d := (some 10)) (v := ?v197) ?hi197 (by kernel_rfl) (by kernel_rfl) (by kernel_rfl) (fun _ _ _ h => h) ?hd197 ?hw197 ?hy197 (by assumption) ?_
  case hi197 => (simp only [List.getElem?_toArray, List.getElem?_cons_zero, List.getElem?_cons_succ]; exact rfl)
  case hd197 => rfl
  case hw197 => rfl
  case hy197 => (intro w hSw; (try dsimp only at hSw); go_simp; try with_reducible rfl)
  try simp only [Act.put, List.setIfInBounds_toArray, List.set_cons_zero, List.set_cons_succ]
  refine take_yes (i := 3) (oi := ?o198) (d := (some 11)) (v := ?v198) ?hi198 (by kernel_rfl) (by kernel_rfl) (by kernel_rfl) (fun _ _ _ h => h) ?hd198 ?hw198 ?hy198 (by assumption) ?_
  case hi198 => (simp only [List.getElem?_toArray, List.getElem?_cons_zero, List.getElem?_cons_succ]; exact rfl)
  case hd198 => rfl
  case hw198 => rfl
  case hy198 => (intro w hSw; (try dsimp only at hSw); go_simp; try with_reducible rfl)
  try simp only [Act.put, List.setIfInBounds_toArray, List.set_cons_zero, List.set_cons_succ]
  refine take_yes (i := 4) (oi := ?o199) (d := (some 12)) (v := ?v199) ?hi199 (by kernel_rfl) (by kernel_rfl) (by kernel_rfl) (fun _ _ _ h => h) ?hd199 ?hw199 ?hy199 (by assumption) ?_
  case hi199 => (simp only [List.getElem?_toArray, List.getElem?_cons_zero, List.getElem?_cons_succ]; exact rfl)
  case hd199 => rfl
  case hw199 => rfl
  case hy199 => (intro w hSw; (try dsimp only at hSw); go_simp; try with_reducible rfl)
  try simp only [Act.put, List.setIfInBounds_toArray, List.set_cons_zero, List.set_cons_succ]
  refine take_yes (i := 5) (oi := ?o200) (d := (some 13)) (v := ?v200) ?hi200 (by kernel_rfl) (by kernel_rfl) (by kernel_rfl) (fun _ _ _ h => h) ?hd200 ?hw200 ?hy200 (by assumption) ?_
  case hi200 => (simp only [List.getElem?_toArray, List.getElem?_cons_zero, List.getElem?_cons_succ]; exact rfl)
  case hd200 => rfl
  case hw200 => rfl
  case hy200 => (intro w hSw; (try dsimp only at hSw); go_simp; try with_reducible rfl)
  try simp only [Act.put, List.setIfInBounds_toArray, List.set_cons_zero, List.set_cons_succ]
  refine take_yes (i := 6) (oi := ?o201) (d := (some 14)) (v := ?v201) ?hi201 (by kernel_rfl) (by kernel_rfl) (by kernel_rfl) (fun _ _ _ h => h) ?hd201 ?hw201 ?hy201 (by assumption) ?_
  case hi201 => (simp only [List.getElem?_toArray, List.getElem?_cons_zero, List.getElem?_cons_succ]; exact rfl)
  case hd201 => rfl
  case hw201 => rfl
  case hy201 => (intro w hSw; (try dsimp only at hSw); go_simp; try with_reducible rfl)
  try simp only [Act.put, List.setIfInBounds_toArray, List.set_cons_zero, List.set_cons_succ]
  refine take_yes (i := 7) (oi := ?o202) (d := (some 15)) (v := ?v202) ?hi202 (by kernel_rfl) (by kernel_rfl) (by kernel_rfl) (fun _ _ _ h => h) ?hd202 ?hw202 ?hy202 (by assumption) ?_
  case hi202 => (simp only [List.getElem?_toArray, List.getElem?_cons_zero, List.getElem?_cons_succ]; exact rfl)
  case hd202 => rfl
  case hw202 => rfl
  case hy202 => (intro w hSw; (try dsimp only at hSw); go_simp; try with_reducible rfl)
  try simp only [Act.put, List.setIfInBounds_toArray, List.set_cons_zero, List.set_cons_succ]
  refine take_yes (i := 8) (oi := ?o203) (d := (some 16)) (v := ?v203) ?hi203 (by kernel_rfl) (by kernel_rfl) (by kernel_rfl) (fun _ _ _ h => h) ?hd203 ?hw203 ?hy203 (by assumption) ?_
  case hi203 => (simp only [List.getElem?_toArray, List.getElem?_cons_zero, List.getElem?_cons_succ]; exact rfl)
  case hd203 => rfl
  case hw203 => rfl
  case hy203 => (intro w hSw; (try dsimp only at hSw); go_simp; try with_reducible rfl)
  try simp only [Act.put, List.setIfInBounds_toArray, List.set_cons_zero, List.set_cons_succ]
  refine take_yes (i := 9) (oi := ?o204) (d := (some 17)) (v := ?v204) ?hi204 (by kernel_rfl) (by kernel_rfl) (by kernel_rfl) (fun _ _ _ h => h) ?hd204 ?hw204 ?hy204 (by assumption) ?_
  case hi204 => (simp only [List.getElem?_toArray, List.getElem?_cons_zero, List.getElem?_cons_succ]; exact rfl)
  case hd204 => rfl
  case hw204 => rfl
  case hy204 => (intro w hSw; (try dsimp only at hSw); go_simp; try with_reducible rfl)
  try simp only [Act.put, List.setIfInBounds_toArray, List.set_cons_zero, List.set_cons_succ]
  refine take_yes (i := 10) (oi := ?o205) (d := (some 18)) (v := ?v205) ?hi205 (by kernel_rfl) (by kernel_rfl) (by kernel_rfl) (fun _ _ _ h => h) ?hd205 ?hw205 ?hy205 (by assumption) ?_
  case hi205 => (simp only [List.getElem?_toArray, List.getElem?_cons_zero, List.getElem?_cons_succ]; exact rfl)
  case hd205 => rfl
  case hw205 => rfl
  case hy205 => (intro w hSw; (try dsimp only at hSw); go_simp; try with_reducible rfl)
  try simp only [Act.put, List.setIfInBounds_toArray, List.set_cons_zero, List.set_cons_succ]
  refine take_yes (i := 11) (oi := ?o206) (d := (some 19)) (v := ?v206) ?hi206 (by kernel_rfl) (by kernel_rfl) (by kernel_rfl) (fun _ _ _ h => h) ?hd206 ?hw206 ?hy206 (by assumption) ?_
  case hi206 => (simp only [List.getElem?_toArray, List.getElem?_cons_zero, List.getElem?_cons_succ]; exact rfl)
  case hd206 => rfl
  case hw206 => rfl
  case hy206 => (intro w hSw; (try dsimp only at hSw); go_simp; try with_reducible rfl)
  try simp only [Act.put, List.setIfInBounds_toArray, List.set_cons_zero, List.set_cons_succ]
  refine take_yes (i := 12) (oi := ?o207) (d := (some 20)) (v := ?v207) ?hi207 (by kernel_rfl) (by kernel_rfl) (by kernel_rfl) (fun _ _ _ h => h) ?hd207 ?hw207 ?hy207 (by assumption) ?_
  case hi207 => (simp only [List.getElem?_toArray, List.getElem?_cons_zero, List.getElem?_cons_succ]; exact rfl)
  case hd207 => rfl
  case hw207 => rfl
  case hy207 => (intro w hSw; (try dsimp only at hSw); go_simp; try with_reducible rfl)
  try simp only [Act.put, List.setIfInBounds_toArray, List.set_cons_zero, List.set_cons_succ]
  refine take_yes (i := 13) (oi := ?o208) (d := (some 21)) (v := ?v208) ?hi208 (by kernel_rfl) (by kernel_rfl) (by kernel_rfl) (fun _ _ _ h => h) ?hd208 ?hw208 ?hy208 (by assumption) ?_
  case hi208 => (simp only [List.getElem?_toArray, List.getElem?_cons_zero, List.getElem?_cons_succ]; exact rfl)
  case hd208 => rfl
  case hw208 => rfl
  case hy208 => (intro w hSw; (try dsimp only at hSw); go_simp; try with_reducible rfl)
  try simp only [Act.put, List.setIfInBounds_toArray, List.set_cons_zero, List.set_cons_succ]
  refine take_yes (i := 14) (oi := ?o209) (d := (some 22)) (v := ?v209) ?hi209 (by kernel_rfl) (by kernel_rfl) (by kernel_rfl) (fun _ _ _ h => h) ?hd209 ?hw209 ?hy209 (by assumption) ?_
  case hi209 => (simp only [List.getElem?_toArray, List.getElem?_cons_zero, List.getElem?_cons_succ]; exact rfl)
  case hd209 => rfl
  case hw209 => rfl
  case hy209 => (intro w hSw; (try dsimp only at hSw); go_simp; try with_reducible rfl)
  try simp only [Act.put, List.setIfInBounds_toArray, List.set_cons_zero, List.set_cons_succ]
  refine take_yes (i := 15) (oi := ?o210) (d := (some 23)) (v := ?v210) ?hi210 (by kernel_rfl) (by kernel_rfl) (by kernel_rfl) (fun _ _ _ h => h) ?hd210 ?hw210 ?hy210 (by assumption) ?_
  case hi210 => (simp only [List.getElem?_toArray, List.getElem?_cons_zero, List.getElem?_cons_succ]; exact rfl)
  case hd210 => rfl
  case hw210 => rfl
  case hy210 => (intro w hSw; (try dsimp only at hSw); go_simp; try with_reducible rfl)
  try simp only [Act.put, List.setIfInBounds_toArray, List.set_cons_zero, List.set_cons_succ]
  refine take_yes (i := 16) (oi := ?o211) (d := (some 24)) (v := ?v211) ?hi211 (by kernel_rfl) (by kernel_rfl) (by kernel_rfl) (fun _ _ _ h => h) ?hd211 ?hw211 ?hy211 (by assumption) ?_
  case hi211 => (simp only [List.getElem?_toArray, List.getElem?_cons_zero, List.getElem?_cons_succ]; exact rfl)
  case hd211 => rfl
  case hw211 => rfl
  case hy211 => (intro w hSw; (try dsimp only at hSw); go_simp; try with_reducible rfl)
  try simp only [Act.put, List.setIfInBounds_toArray, List.set_cons_zero, List.set_cons_succ]
  refine take_yes (i := 17) (oi := ?o212) (d := (some 25)) (v := ?v212) ?hi212 (by kernel_rfl) (by kernel_rfl) (by kernel_rfl) (fun _ _ _ h => h) ?hd212 ?hw212 ?hy212 (by assumption) ?_
  case hi212 => (simp only [List.getElem?_toArray, List.getElem?_cons_zero, List.getElem?_cons_succ]; exact rfl)
  case hd212 => rfl
  case hw212 => rfl
  case hy212 => (intro w hSw; (try dsimp only at hSw); go_simp; try with_reducible rfl)
  try simp only [Act.put, List.setIfInBounds_toArray, List.set_cons_zero, List.set_cons_succ]
  refine take_yes (i := 18) (oi := ?o213) (d := (some 26)) (v := ?v213) ?hi213 (by kernel_rfl) (by kernel_rfl) (by kernel_rfl) (fun _ _ _ h => h) ?hd213 ?hw213 ?hy213 (by assumption) ?_
  case hi213 => (simp only [List.getElem?_toArray, List.getElem?_cons_zero, List.getElem?_cons_succ]; exact rfl)
  case hd213 => rfl
  case hw213 => rfl
  case hy213 => (intro w hSw; (try dsimp only at hSw); go_simp; try with_reducible rfl)
  try simp only [Act.put, List.setIfInBounds_toArray, List.set_cons_zero, List.set_cons_succ]
  refine take_yes (i := 19) (oi := ?o214) (d := (some 27)) (v := ?v214) ?hi214 (by kernel_rfl) (by kernel_rfl) (by kernel_rfl) (fun _ _ _ h => h) ?hd214 ?hw214 ?hy214 (by assumption) ?_
  case hi214 => (simp only [List.getElem?_toArray, List.getElem?_cons_zero, List.getElem?_cons_succ]; exact rfl)
  case hd214 => rfl
  case hw214 => rfl
  case hy214 => (intro w hSw; (try dsimp only at hSw); go_simp; try with_reducible rfl)
  try simp only [Act.put, List.setIfInBounds_toArray, List.set_cons_zero, List.set_cons_succ]
  refine take_yes (i := 20) (oi := ?o215) (d := (some 28)) (v := ?v215) ?hi215 (by kernel_rfl) (by kernel_rfl) (by kernel_rfl) (fun _ _ _ h => h) ?hd215 ?hw215 ?hy215 (by assumption) ?_
  case hi215 => (simp only [List.getElem?_toArray, List.getElem?_cons_zero, List.getElem?_cons_succ]; exact rfl)
  case hd215 => rfl
  case hw215 => rfl
  case hy215 => (intro w hSw; (try dsimp only at hSw); go_simp; try with_reducible rfl)
  try simp only [Act.put, List.setIfInBounds_toArray, List.set_cons_zero, List.set_cons_succ]
  refine take_yes (i := 21) (oi := ?o216) (d := (some 29)) (v := ?v216) ?hi216 (by kernel_rfl) (by kernel_rfl) (by kernel_rfl) (fun _ _ _ h => h) ?hd216 ?hw216 ?hy216 (by assumption) ?_
  case hi216 => (simp only [List.getElem?_toArray, List.getElem?_cons_zero, List.getElem?_cons_succ]; exact rfl)
  case hd216 => rfl
  case hw216 => rfl
  case hy216 => (intro w hSw; (try dsimp only at hSw); go_simp; try with_reducible rfl)
  try simp only [Act.put, List.setIfInBounds_toArray, List.set_cons_zero, List.set_cons_succ]
  refine take_yes (i := 22) (oi := ?o217) (d := (some 30)) (v := ?v217) ?hi217 (by kernel_rfl) (by kernel_rfl) (by kernel_rfl) (fun _ _ _ h => h) ?hd217 ?hw217 ?hy217 (by assumption) ?_
  case hi217 => (simp only [List.getElem?_toArray, List.getElem?_cons_zero, List.getElem?_cons_succ]; exact rfl)
  case hd217 => rfl
  case hw217 => rfl
  case hy217 => (intro w hSw; (try dsimp only at hSw); go_simp; try with_reducible rfl)
  try simp only [Act.put, List.setIfInBounds_toArray, List.set_cons_zero, List.set_cons_succ]
  refine take_yes (i := 23) (oi := ?o218) (d := (some 31)) (v := ?v218) ?hi218 (by kernel_rfl) (by kernel_rfl) (by kernel_rfl) (fun _ _ _ h => h) ?hd218 ?hw218 ?hy218 (by assumption) ?_
  case hi218 => (simp only [List.getElem?_toArray, List.getElem?_cons_zero, List.getElem?_cons_succ]; exact rfl)
  case hd218 => rfl
  case hw218 => rfl
  case hy218 => (intro w hSw; (try dsimp only at hSw); go_simp; try with_reducible rfl)
  try simp only [Act.put, List.setIfInBounds_toArray, List.set_cons_zero, List.set_cons_succ]
  refine take_yes (i := 24) (oi := ?o219) (d := (some 32)) (v := ?v219) ?hi219 (by kernel_rfl) (by kernel_rfl) (by kernel_rfl) (fun _ _ _ h => h) ?hd219 ?hw219 ?hy219 (by assumption) ?_
  case hi219 => (simp only [List.getElem?_toArray, List.getElem?_cons_zero, List.getElem?_cons_succ]; exact rfl)
  case hd219 => rfl
  case hw219 => rfl
  case hy219 => (intro w hSw; (try dsimp only at hSw); go_simp; try with_reducible rfl)
  try simp only [Act.put, List.setIfInBounds_toArray, List.set_cons_zero, List.set_cons_succ]
  refine take_yes (i := 25) (oi := ?o220) (d := (some 33)) (v := ?v220) ?hi220 (by kernel_rfl) (by kernel_rfl) (by kernel_rfl) (fun _ _ _ h => h) ?hd220 ?hw220 ?hy220 (by assumption) ?_
  case hi220 => (simp only [List.getElem?_toArray, List.getElem?_cons_zero, List.getElem?_cons_succ]; exact rfl)
  case hd220 => rfl
  case hw220 => rfl
  case hy220 => (intro w hSw; (try dsimp only at hSw); go_simp; try with_reducible rfl)
  try simp only [Act.put, List.setIfInBounds_toArray, List.set_cons_zero, List.set_cons_succ]
  refine take_yes (i := 26) (oi := ?o221) (d := (some 34)) (v := ?v221) ?hi221 (by kernel_rfl) (by kernel_rfl) (by kernel_rfl) (fun _ _ _ h => h) ?hd221 ?hw221 ?hy221 (by assumption) ?_
  case hi221 => (simp only [List.getElem?_toArray, List.getElem?_cons_zero, List.getElem?_cons_succ]; exact rfl)
  case hd221 => rfl
  case hw221 => rfl
  case hy221 => (intro w hSw; (try dsimp only at hSw); go_simp; try with_reducible rfl)
  try simp only [Act.put, List.setIfInBounds_toArray, List.set_cons_zero, List.set_cons_succ]
  refine take_yes (i := 27) (oi := ?o222) (d := (some 35)) (v := ?v222) ?hi222 (by kernel_rfl) (by kernel_rfl) (by kernel_rfl) (fun _ _ _ h => h) ?hd222 ?hw222 ?hy222 (by assumption) ?_
  case hi222 => (simp only [List.getElem?_toArray, List.getElem?_cons_zero, List.getElem?_cons_succ]; exact rfl)
  case hd222 => rfl
  case hw222 => rfl
  case hy222 => (intro w hSw; (try dsimp only at hSw); go_simp; try with_reducible rfl)
  try simp only [Act.put, List.setIfInBounds_toArray, List.set_cons_zero, List.set_cons_succ]
  refine take_yes (i := 28) (oi := ?o223) (d := (some 36)) (v := ?v223) ?hi223 (by kernel_rfl) (by kernel_rfl) (by kernel_rfl) (fun _ _ _ h => h) ?hd223 ?hw223 ?hy223 (by assumption) ?_
  case hi223 => (simp only [List.getElem?_toArray, List.getElem?_cons_zero, List.getElem?_cons_succ]; exact rfl)
  case hd223 => rfl
  case hw223 => rfl
  case hy223 => (intro w hSw; (try dsimp only at hSw); go_simp; try with_reducible rfl)
  try simp only [Act.put, List.setIfInBounds_toArray, List.set_cons_zero, List.set_cons_succ]
  refine take_yes (i := 29) (oi := ?o224) (d := (some 37)) (v := ?v224) ?hi224 (by kernel_rfl) (by kernel_rfl) (by kernel_rfl) (fun _ _ _ h => h) ?hd224 ?hw224 ?hy224 (by assumption) ?_
  case hi224 => (simp only [List.getElem?_toArray, List.getElem?_cons_zero, List.getElem?_cons_succ]; exact rfl)
  case hd224 => rfl
  case hw224 => rfl
  case hy224 => (intro w hSw; (try dsimp only at hSw); go_simp; try with_reducible rfl)
  try simp only [Act.put, List.setIfInBounds_toArray, List.set_cons_zero, List.set_cons_succ]
  refine take_yes (i := 30) (oi := ?o225) (d := (some 38)) (v := ?v225) ?hi225 (by kernel_rfl) (by kernel_rfl) (by kernel_rfl) (fun _ _ _ h => h) ?hd225 ?hw225 ?hy225 (by assumption) ?_
  case hi225 => (simp only [List.getElem?_toArray, List.getElem?_cons_zero, List.getElem?_cons_succ]; exact rfl)
  case hd225 => rfl
  case hw225 => rfl
  case hy225 => (intro w hSw; (try dsimp only at hSw); go_simp; try with_reducible rfl)
  try simp only [Act.put, List.setIfInBounds_toArray, List.set_cons_zero, List.set_cons_succ]
  refine take_yes (i := 31) (oi := ?o226) (d := (some 39)) (v := ?v226) ?hi226 (by kernel_rfl) (by kernel_rfl) (by kernel_rfl) (fun _ _ _ h => h) ?hd226 ?hw226 ?hy226 (by assumption) ?_
  case hi226 => (simp only [List.getElem?_toArray, List.getElem?_cons_zero, List.getElem?_cons_succ]; exact rfl)
  case hd226 => rfl
  case hw226 => rfl
  case hy226 => (intro w hSw; (try dsimp only at hSw); go_simp; try with_reducible rfl)
  try simp only [Act.put, List.setIfInBounds_toArray, List.set_cons_zero, List.set_cons_succ]
  refine take_yes (i := 32) (oi := ?o227) (d := (some 40)) (v := ?v227) ?hi227 (by kernel_rfl) (by kernel_rfl) (by kernel_rfl) (fun _ _ _ h => h) ?hd227 ?hw227 ?hy227 (by assumption) ?_
  case hi227 => (simp only [List.getElem?_toArray, List.getElem?_cons_zero, List.getElem?_cons_succ]; exact rfl)
  case hd227 => rfl
  case hw227 => rfl
  case hy227 => (intro w hSw; (try dsimp only at hSw); go_simp; try with_reducible rfl)
  try simp only [Act.put, List.setIfInBounds_toArray, List.set_cons_zero, List.set_cons_succ]
  refine take_yes (i := 33) (oi := ?o228) (d := (some 41)) (v := ?v228) ?hi228 (by kernel_rfl) (by kernel_rfl) (by kernel_rfl) (fun _ _ _ h => h) ?hd228 ?hw228 ?hy228 (by assumption) ?_
  case hi228 => (simp only [List.getElem?_toArray, List.getElem?_cons_zero, List.getElem?_cons_succ]; exact rfl)
  case hd228 => rfl
  case hw228 => rfl
  case hy228 => (intro w hSw; (try dsimp only at hSw); go_simp; try with_reducible rfl)
  try simp only [Act.put, List.setIfInBounds_toArray, List.set_cons_zero, List.set_cons_succ]
  refine take_yes (i := 34) (oi := ?o229) (d := (some 42)) (v := ?v229) ?hi229 (by kernel_rfl) (by kernel_rfl) (by kernel_rfl) (fun _ _ _ h => h) ?hd229 ?hw229 ?hy229 (by assumption) ?_
  case hi229 => (simp only [List.getElem?_toArray, List.getElem?_cons_zero, List.getElem?_cons_succ]; exact rfl)
  case hd229 => rfl
  case hw229 => rfl
  case hy229 => (intro w hSw; (try dsimp only at hSw); go_simp; try with_reducible rfl)
  try simp only [Act.put, List.setIfInBounds_toArray, List.set_cons_zero, List.set_cons_succ]
  refine take_yes (i := 35) (oi := ?o230) (d := (some 43)) (v := ?v230) ?hi230 (by kernel_rfl) (by kernel_rfl) (by kernel_rfl) (fun _ _ _ h => h) ?hd230 ?hw230 ?hy230 (by assumption) ?_
  case hi230 => (simp only [List.getElem?_toArray, List.getElem?_cons_zero, List.getElem?_cons_succ]; exact rfl)
  case hd230 => rfl
  case hw230 => rfl
  case hy230 => (intro w hSw; (try dsimp only at hSw); go_simp; try with_reducible rfl)
  try simp only [Act.put, List.setIfInBounds_toArray, List.set_cons_zero, List.set_cons_succ]
  refine wpAnyH_ready (rs := [36]) (by kernel_rfl) (by simp) ?_
  refine AllReadyH.cons rfl (fun K hK => ?_) AllReadyH.nil
  go_simp
  go_at_call 80
  refine (Bit.Has_in q.tp q.tg q.tc n i q.ws _ (HC1.out.below (ext_drew (Below.refl _ _))).taken hi (by omega)).mono ?_
  rintro e w3 ⟨rfl, hw3⟩
  rw [hw3, HHV.out]
  clear hw3 w3
  go_wp2_with fail
  refine hK.out _ _ (by first | assumption) (fun hHeld36 => ?_)
  clear hK K
  try simp only [Act.put, List.setIfInBounds_toArray, List.set_cons_zero, List.set_cons_succ]
  refine take_yes (i := 37) (oi := ?o231) (d := (some 45)) (v := ?v231) ?hi231 (by kernel_rfl) (by kernel_rfl) (by kernel_rfl) (fun _ _ _ h => h) ?hd231 ?hw231 ?hy231 (by assumption) ?_
  case hi231 => (simp only [List.getElem?_toArray, List.getElem?_cons_zero, List.getElem?_cons_succ]; exact rfl)
  case hd231 => rfl
  case hw231 => rfl
  case hy231 => (intro w hSw; (try dsimp only at hSw); go_simp; try with_reducible rfl)
  try simp only [Act.put, List.setIfInBounds_toArray, List.set_cons_zero, List.set_cons_succ]
  refine take_yes (i := 38) (oi := ?o232) (d := (some 7)) (v := ?v232) ?hi232 (by kernel_rfl) (by kernel_rfl) (by kernel_rfl) (fun _ _ _ h => h) ?hd232 ?hw232 ?hy232 (by assumption) ?_
  case hi232 => (simp only [List.getElem?_toArray, List.getElem?_cons_zero, List.getElem?_cons_succ]; exact rfl)
  case hd232 => rfl
  case hw232 => rfl
  case hy232 => (intro w hSw; (try dsimp only at hSw); go_simp; try with_reducible rfl)
  try simp only [Act.put, List.setIfInBounds_toArray, List.set_cons_zero, List.set_cons_succ]
  refine wpAnyH_done (by kernel_rfl) ?_ _
  go_wp2_with fail
  go_ret
  exact ⟨rfl, ext_trans HB1.out (by first | exact ext_drew (Below.refl _ _) | exact ext_drew (ext_drew (Below.refl _ _)))⟩
set_option maxRecDepth 100000 in
set_option maxHeartbeats 2000000 in
theorem may_past (S : Nat → Prop) (b n codes : Nat) (group next clock : Int) (L : List Bkg) (q : Parts) (id til last : Int) (i : Nat) (w : World) (h : BookAt S w b n codes group next clock L q) (c0 : decide (id ≤ last) = false) (c1 : decide (next ≤ id) = false) (hi : i < n) (hv : hasB q.ws i = false) (c6 : (til == 0) = false) (c7 : decide (clock < til) = false) :
    Calls Tryz.prog 39 #[.pointer (some ⟨b, 0, none⟩), .agg #[.int .u32 id, .int .i64 (i : Int), .int .i64 til], .int .u32 last] w fun e w' => e = .returned (.bool false) ∧ Below w.heap.size w w' := by
  have hn4 : n ≤ 1024 := h.small.2.2.2.2
  have c2 : decide ((i : Int) < 0) = false := decide_eq_false (by omega)
  have c3 : decide ((n : Int) ≤ (i : Int)) = false := decide_eq_false (by omega)
  have c3n : decide (n ≤ i) = false := decide_eq_false (by omega)
  have HHV := Lib.hid hv
  clear hv
  have HH := Lib.hid h
  clear h
  go_enter Tryz.func39, Tryz.ntmps39
  go_wp2_with fail
  have hb1 : Below w.heap.size w (w.alloc (.cells #[.int .u32 id, .int .i64 (i : Int), .int .i64 til] 78)) := ext_alloc (Below.refl _ _) _
  have hA1 : Arr (w.alloc (.cells #[.int .u32 id, .int .i64 (i : Int), .int .i64 til] 78)) w.heap.size 78 #[.int .u32 id, .int .i64 (i : Int), .int .i64 til] := Arr.fresh w _ _
  obtain ⟨w1, hw1⟩ : ∃ w1, w.alloc (.cells #[.int .u32 id, .int .i64 (i : Int), .int .i64 til] 78) = w1 := ⟨_, rfl⟩
  obtain ⟨vb, hvb⟩ : ∃ vb, w.heap.size = vb := ⟨_, rfl⟩
  rw [hw1] at hb1 hA1 ⊢
  have HC1 := Lib.hid (HH.out.comp.below hb1)
  have HB1 := Lib.hid hb1
  clear hb1
  rw [hvb] at hA1 ⊢
  clear hw1 hvb
  have HCS : ∀ w', Below w1.heap.size w1 w' → (w'.cell? ⟨vb, 0, none⟩ = some (.int .u32 id) ∧ w'.cell? ⟨vb, 1, none⟩ = some (.int .i64 (i : Int)) ∧ w'.cell? ⟨vb, 2, none⟩ = some (.int .i64 til) ∧ w'.cell? ⟨b, 0, none⟩ = some (.int .i64 n) ∧ w'.cell? ⟨b, 4, none⟩ = some (.int .i64 clock) ∧ w'.cell? ⟨b, 5, none⟩ = some (.int .u32 next) ∧ w'.cell? ⟨b, 6, none⟩ = some (.pointer (some ⟨q.tp, 0, none⟩)) ∧ Below w1.heap.size w1 w') := fun w' hb => ⟨(hA1.keep hb).cell 0, (hA1.keep hb).cell 1, (hA1.keep hb).cell 2, (HC1.out.own.keep hb).cell 0, (HC1.out.own.keep hb).cell 4, (HC1.out.own.keep hb).cell 5, (HC1.out.own.keep hb).cell 6, hb⟩
  have HCS := Lib.hid HCS
  clear hA1
  refine wp_region_held_drew (S := (fun w' => w'.cell? ⟨vb, 0, none⟩ = some (.int .u32 id) ∧ w'.cell? ⟨vb, 1, none⟩ = some (.int .i64 (i : Int)) ∧ w'.cell? ⟨vb, 2, none⟩ = some (.int .i64 til) ∧ w'.cell? ⟨b, 0, none⟩ = some (.int .i64 n) ∧ w'.cell? ⟨b, 4, none⟩ = some (.int .i64 clock) ∧ w'.cell? ⟨b, 5, none⟩ = some (.int .u32 next) ∧ w'.cell? ⟨b, 6, none⟩ = some (.pointer (some ⟨q.tp, 0, none⟩)) ∧ Below w1.heap.size w1 w')) (by kernel_rfl) (by exact HCS.out _ (ext_drew (Below.refl _ _))) (fun hHeld => ?_)
  refine take_yes (i := 0) (oi := ?o259) (d := (some 8)) (v := ?v259) ?hi259 (by kernel_rfl) (by kernel_rfl) (by kernel_rfl) (fun _ _ _ h => h) ?hd259 ?hw259 ?hy259 (by assumption) ?_
  case hi259 => (simp only [List.getElem?_toArray, List.getElem?_cons_zero]; exact rfl)
  case hd259 => rfl
  case hw259 => rfl
  case hy259 => (intro w hSw; (try dsimp only at hSw); go_simp; try with_reducible rfl)
  try simp only [Act.put, List.setIfInBounds_toArray, List.set_cons_zero, List.set_cons_succ]
  refine take_yes (i := 1) (oi := ?o260) (d := (some 9)) (v := ?v260) ?hi260 (by kernel_rfl) (by kernel_rfl) (by kernel_rfl) (fun _ _ _ h => h) ?hd260 ?hw260 ?hy260 (by assumption) ?_
  case hi260 => (simp only [List.getElem?_toArray, List.getElem?_cons_zero, List.getElem?_cons_succ]; exact rfl)
  case hd260 => rfl
  case hw260 => rfl
  case hy260 => (intro w hSw; (try dsimp only at hSw); go_simp; try with_reducible rfl)
  try simp only [Act.put, List.setIfInBounds_toArray, List.set_cons_zero, List.set_cons_succ]
  refine take_yes (i := 2) (oi := ?o261) (d := (some 10)) (v := ?v261) ?hi261 (by kernel_rfl) (by kernel_rfl) (by kernel_rfl) (fun _ _ _ h => h) ?hd261 ?hw261 ?hy261 (by assumption) ?_
  case hi261 => (simp only [List.getElem?_toArray, List.getElem?_cons_zero, List.getElem?_cons_succ]; exact rfl)
  case hd261 => rfl
  case hw261 => rfl
  case hy261 => (intro w hSw; (try dsimp only at hSw); go_simp; try with_reducible rfl)
  try simp only [Act.put, List.setIfInBounds_toArray, List.set_cons_zero, List.set_cons_succ]
  refine take_yes (i := 3) (oi := ?o262) (d := (some 11)) (v := ?v262) ?hi262 (by kernel_rfl) (by kernel_rfl) (by kernel_rfl) (fun _ _ _ h => h) ?hd262 ?hw262 ?hy262 (by assumption) ?_
  case hi262 => (simp only [List.getElem?_toArray, List.getElem?_cons_zero, List.getElem?_cons_succ]; exact rfl)
  case hd262 => rfl
  case hw262 => rfl
  case hy262 => (intro w hSw; (try dsimp only at hSw); go_simp; try with_reducible rfl)
  try simp only [Act.put, List.setIfInBounds_toArray, List.set_cons_zero, List.set_cons_succ]
  refine take_yes (i := 4) (oi := ?o263) (d := (some 12)) (v := ?v263) ?hi263 (by kernel_rfl) (by kernel_rfl) (by kernel_rfl) (fun _ _ _ h => h) ?hd263 ?hw263 ?hy263 (by assumption) ?_
  case hi263 => (simp only [List.getElem?_toArray, List.getElem?_cons_zero, List.getElem?_cons_succ]; exact rfl)
  case hd263 => rfl
  case hw263 => rfl
  case hy263 => (intro w hSw; (try dsimp only at hSw); go_simp; try with_reducible rfl)
  try simp only [Act.put, List.setIfInBounds_toArray, List.set_cons_zero, List.set_cons_succ]
  refine take_yes (i := 5) (oi := ?o264) (d := (some 13)) (v := ?v264) ?hi264 (by kernel_rfl) (by kernel_rfl) (by kernel_rfl) (fun _ _ _ h => h) ?hd264 ?hw264 ?hy264 (by assumption) ?_
  case hi264 => (simp only [List.getElem?_toArray, List.getElem?_cons_zero, List.getElem?_cons_succ]; exact rfl)
  case hd264 => rfl
  case hw264 => rfl
  case hy264 => (intro w hSw; (try dsimp only at hSw); go_simp; try with_reducible rfl)
  try simp only [Act.put, List.setIfInBounds_toArray, List.set_cons_zero, List.set_cons_succ]
  refine take_yes (i := 6) (oi := ?o265) (d := (some 14)) (v := ?v265) ?hi265 (by kernel_rfl) (by kernel_rfl) (by kernel_rfl) (fun _ _ _ h => h) ?hd265 ?hw265 ?hy265 (by assumption) ?_
  case hi265 => (simp only [List.getElem?_toArray, List.getElem?_cons_zero, List.getElem?_cons_succ]; exact rfl)
  case hd265 => rfl
  case hw265 => rfl
  case hy265 => (intro w hSw; (try dsimp only at hSw); go_simp; try with_reducible rfl)
  try simp only [Act.put, List.setIfInBounds_toArray, List.set_cons_zero, List.set_cons_succ]
  refine take_yes (i := 7) (oi := ?o266) (d := (some 15)) (v := ?v266) ?hi266 (by kernel_rfl) (by kernel_rfl) (by kernel_rfl) (fun _ _ _ h => h) ?hd266 ?hw266 ?hy266 (by assumption) ?_
  case hi266 => (simp only [List.getElem?_toArray, List.getElem?_cons_zero, List.getElem?_cons_succ]; exact rfl)
  case hd266 => rfl
  case hw266 => rfl
  case hy266 => (intro w hSw; (try dsimp only at hSw); go_simp; try with_reducible rfl)
  try simp only [Act.put, List.setIfInBounds_toArray, List.set_cons_zero, List.set_cons_succ]
  refine take_yes (i := 8) (oi := ?o267) (d := (some 16)) (v := ?v267) ?hi267 (by kernel_rfl) (by kernel_rfl) (by kernel_rfl) (fun _ _ _ h => h) ?hd267 ?hw267 ?hy267 (by assumption) ?_
  case hi267 => (simp only [List.getElem?_toArray, List.getElem?_cons_zero, List.getElem?_cons_succ]; exact rfl)
  case hd267 => rfl
  case hw267 => rfl
  case hy267 => (intro w hSw; (try dsimp only at hSw); go_simp; try with_reducible rfl)
  try simp only [Act.put, List.setIfInBounds_toArray, List.set_cons_zero, List.set_cons_succ]
  refine take_yes (i := 9) (oi := ?o268) (d := (some 17)) (v := ?v268) ?hi268 (by kernel_rfl) (by kernel_rfl) (by kernel_rfl) (fun _ _ _ h => h) ?hd268 ?hw268 ?hy268 (by assumption) ?_
  case hi268 => (simp only [List.getElem?_toArray, List.getElem?_cons_zero, List.getElem?_cons_succ]; exact rfl)
  case hd268 => rfl
  case hw268 => rfl
  case hy268 => (intro w hSw; (try dsimp only at hSw); go_simp; try with_reducible rfl)
  try simp only [Act.put, List.setIfInBounds_toArray, List.set_cons_zero, List.set_cons_succ]
  refine take_yes (i := 10) (oi := ?o269) (d := (some 18)) (v := ?v269) ?hi269 (by kernel_rfl) (by kernel_rfl) (by kernel_rfl) (fun _ _ _ h => h) ?hd269 ?hw269 ?hy269 (by assumption) ?_
  case hi269 => (simp only [List.getElem?_toArray, List.getElem?_cons_zero, List.getElem?_cons_succ]; exact rfl)
  case hd269 => rfl
  case hw269 => rfl
  case hy269 => (intro w hSw; (try dsimp only at hSw); go_simp; try with_reducible rfl)
  try simp only [Act.put, List.setIfInBounds_toArray, List.set_cons_zero, List.set_cons_succ]
  refine take_yes (i := 11) (oi := ?o270) (d := (some 19)) (v := ?v270) ?hi270 (by kernel_rfl) (by kernel_rfl) (by kernel_rfl) (fun _ _ _ h => h) ?hd270 ?hw270 ?hy270 (by assumption) ?_
  case hi270 => (simp only [List.getElem?_toArray, List.getElem?_cons_zero, List.getElem?_cons_succ]; exact rfl)
  case hd270 => rfl
  case hw270 => rfl
  case hy270 => (intro w hSw; (try dsimp only at hSw); go_simp; try with_reducible rfl)
  try simp only [Act.put, List.setIfInBounds_toArray, List.set_cons_zero, List.set_cons_succ]
  refine take_yes (i := 12) (oi := ?o271) (d := (some 20)) (v := ?v271) ?hi271 (by kernel_rfl) (by kernel_rfl) (by kernel_rfl) (fun _ _ _ h => h) ?hd271 ?hw271 ?hy271 (by assumption) ?_
  case hi271 => (simp only [List.getElem?_toArray, List.getElem?_cons_zero, List.getElem?_cons_succ]; exact rfl)
  case hd271 => rfl
  case hw271 => rfl
  case hy271 => (intro w hSw; (try dsimp only at hSw); go_simp; try with_reducible rfl)
  try simp only [Act.put, List.setIfInBounds_toArray, List.set_cons_zero, List.set_cons_succ]
  refine take_yes (i := 13) (oi := ?o272) (d := (some 21)) (v := ?v272) ?hi272 (by kernel_rfl) (by kernel_rfl) (by kernel_rfl) (fun _ _ _ h => h) ?hd272 ?hw272 ?hy272 (by assumption) ?_
  case hi272 => (simp only [List.getElem?_toArray, List.getElem?_cons_zero, List.getElem?_cons_succ]; exact rfl)
  case hd272 => rfl
  case hw272 => rfl
  case hy272 => (intro w hSw; (try dsimp only at hSw); go_simp; try with_reducible rfl)
  try simp only [Act.put, List.setIfInBounds_toArray, List.set_cons_zero, List.set_cons_succ]
  refine take_yes (i := 14) (oi := ?o273) (d := (some 22)) (v := ?v273) ?hi273 (by kernel_rfl) (by kernel_rfl) (by kernel_rfl) (fun _ _ _ h => h) ?hd273 ?hw273 ?hy273 (by assumption) ?_
  case hi273 => (simp only [List.getElem?_toArray, List.getElem?_cons_zero, List.getElem?_cons_succ]; exact rfl)
  case hd273 => rfl
  case hw273 => rfl
  case hy273 => (intro w hSw; (try dsimp only at hSw); go_simp; try with_reducible rfl)
  try simp only [Act.put, List.setIfInBounds_toArray, List.set_cons_zero, List.set_cons_succ]
  refine take_yes (i := 15) (oi := ?o274) (d := (some 23)) (v := ?v274) ?hi274 (by kernel_rfl) (by kernel_rfl) (by kernel_rfl) (fun _ _ _ h => h) ?hd274 ?hw274 ?hy274 (by assumption) ?_
  case hi274 => (simp only [List.getElem?_toArray, List.getElem?_cons_zero, List.getElem?_cons_succ]; exact rfl)
  case hd274 => rfl
  case hw274 => rfl
  case hy274 => (intro w hSw; (try dsimp only at hSw); go_simp; try with_reducible rfl)
  try simp only [Act.put, List.setIfInBounds_toArray, List.set_cons_zero, List.set_cons_succ]
  refine take_yes (i := 16) (oi := ?o275) (d := (some 24)) (v := ?v275) ?hi275 (by kernel_rfl) (by kernel_rfl) (by kernel_rfl) (fun _ _ _ h => h) ?hd275 ?hw275 ?hy275 (by assumption) ?_
  case hi275 => (simp only [List.getElem?_toArray, List.getElem?_cons_zero, List.getElem?_cons_succ]; exact rfl)
  case hd275 => rfl
  case hw275 => rfl
  case hy275 => (intro w hSw; (try dsimp only at hSw); go_simp; try with_reducible rfl)
  try simp only [Act.put, List.setIfInBounds_toArray, List.set_cons_zero, List.set_cons_succ]
  refine take_yes (i := 17) (oi := ?o276) (d := (some 25)) (v := ?v276) ?hi276 (by kernel_rfl) (by kernel_rfl) (by kernel_rfl) (fun _ _ _ h => h) ?hd276 ?hw276 ?hy276 (by assumption) ?_
  case hi276 => (simp only [List.getElem?_toArray, List.getElem?_cons_zero, List.getElem?_cons_succ]; exact rfl)
  case hd276 => rfl
  case hw276 => rfl
  case hy276 => (intro w hSw; (try dsimp only at hSw); go_simp; try with_reducible rfl)
  try simp only [Act.put, List.setIfInBounds_toArray, List.set_cons_zero, List.set_cons_succ]
  refine take_yes (i := 18) (oi := ?o277) (d := (some 26)) (v := ?v277) ?hi277 (by kernel_rfl) (by kernel_rfl) (by kernel_rfl) (fun _ _ _ h => h) ?hd277 ?hw277 ?hy277 (by assumption) ?_
  case hi277 => (simp only [List.getElem?_toArray, List.getElem?_cons_zero, List.getElem?_cons_succ]; exact rfl)
  case hd277 => rfl
  case hw277 => rfl
  case hy277 => (intro w hSw; (try dsimp only at hSw); go_simp; try with_reducible rfl)
  try simp only [Act.put, List.setIfInBounds_toArray, List.set_cons_zero, List.set_cons_succ]
  refine take_yes (i := 19) (oi := ?o278) (d := (some 27)) (v := ?v278) ?hi278 (by kernel_rfl) (by kernel_rfl) (by kernel_rfl) (fun _ _ _ h => h) ?hd278 ?hw278 ?hy278 (by assumption) ?_
  case hi278 => (simp only [List.getElem?_toArray, List.getElem?_cons_zero, List.getElem?_cons_succ]; exact rfl)
  case hd278 => rfl
  case hw278 => rfl
  case hy278 => (intro w hSw; (try dsimp only at hSw); go_simp; try with_reducible rfl)
  try simp only [Act.put, List.setIfInBounds_toArray, List.set_cons_zero, List.set_cons_succ]
  refine take_yes (i := 20) (oi := ?o279) (d := (some 28)) (v := ?v279) ?hi279 (by kernel_rfl) (by kernel_rfl) (by kernel_rfl) (fun _ _ _ h => h) ?hd279 ?hw279 ?hy279 (by assumption) ?_
  case hi279 => (simp only [List.getElem?_toArray, List.getElem?_cons_zero, List.getElem?_cons_succ]; exact rfl)
  case hd279 => rfl
  case hw279 => rfl
  case hy279 => (intro w hSw; (try dsimp only at hSw); go_simp; try with_reducible rfl)
  try simp only [Act.put, List.setIfInBounds_toArray, List.set_cons_zero, List.set_cons_succ]
  refine take_yes (i := 21) (oi := ?o280) (d := (some 29)) (v := ?v280) ?hi280 (by kernel_rfl) (by kernel_rfl) (by kernel_rfl) (fun _ _ _ h => h) ?hd280 ?hw280 ?hy280 (by assumption) ?_
  case hi280 => (simp only [List.getElem?_toArray, List.getElem?_cons_zero, List.getElem?_cons_succ]; exact rfl)
  case hd280 => rfl
  case hw280 => rfl
  case hy280 => (intro w hSw; (try dsimp only at hSw); go_simp; try with_reducible rfl)
  try simp only [Act.put, List.setIfInBounds_toArray, List.set_cons_zero, List.set_cons_succ]
  refine take_yes (i := 22) (oi := ?o281) (d := (some 30)) (v := ?v281) ?hi281 (by kernel_rfl) (by kernel_rfl) (by kernel_rfl) (fun _ _ _ h => h) ?hd281 ?hw281 ?hy281 (by assumption) ?_
  case hi281 => (simp only [List.getElem?_toArray, List.getElem?_cons_zero, List.getElem?_cons_succ]; exact rfl)
  case hd281 => rfl
  case hw281 => rfl
  case hy281 => (intro w hSw; (try dsimp only at hSw); go_simp; try with_reducible rfl)
  try simp only [Act.put, List.setIfInBounds_toArray, List.set_cons_zero, List.set_cons_succ]
  refine take_yes (i := 23) (oi := ?o282) (d := (some 31)) (v := ?v282) ?hi282 (by kernel_rfl) (by kernel_rfl) (by kernel_rfl) (fun _ _ _ h => h) ?hd282 ?hw282 ?hy282 (by assumption) ?_
  case hi282 => (simp only [List.getElem?_toArray, List.getElem?_cons_zero, List.getElem?_cons_succ]; exact rfl)
  case hd282 => rfl
  case hw282 => rfl
  case hy282 => (intro w hSw; (try dsimp only at hSw); go_simp; try with_reducible rfl)
  try simp only [Act.put, List.setIfInBounds_toArray, List.set_cons_zero, List.set_cons_succ]
  refine take_yes (i := 24) (oi := ?o283) (d := (some 32)) (v := ?v283) ?hi283 (by kernel_rfl) (by kernel_rfl) (by kernel_rfl) (fun _ _ _ h => h) ?hd283 ?hw283 ?hy283 (by assumption) ?_
  case hi283 => (simp only [List.getElem?_toArray, List.getElem?_cons_zero, List.getElem?_cons_succ]; exact rfl)
  case hd283 => rfl
  case hw283 => rfl
  case hy283 => (intro w hSw; (try dsimp only at hSw); go_simp; try with_reducible rfl)
  try simp only [Act.put, List.setIfInBounds_toArray, List.set_cons_zero, List.set_cons_succ]
  refine take_yes (i := 25) (oi := ?o284) (d := (some 33)) (v := ?v284) ?hi284 (by kernel_rfl) (by kernel_rfl) (by kernel_rfl) (fun _ _ _ h => h) ?hd284 ?hw284 ?hy284 (by assumption) ?_
  case hi284 => (simp only [List.getElem?_toArray, List.getElem?_cons_zero, List.getElem?_cons_succ]; exact rfl)
  case hd284 => rfl
  case hw284 => rfl
  case hy284 => (intro w hSw; (try dsimp only at hSw); go_simp; try with_reducible rfl)
  try simp only [Act.put, List.setIfInBounds_toArray, List.set_cons_zero, List.set_cons_succ]
  refine take_yes (i := 26) (oi := ?o285) (d := (some 34)) (v := ?v285) ?hi285 (by kernel_rfl) (by kernel_rfl) (by kernel_rfl) (fun _ _ _ h => h) ?hd285 ?hw285 ?hy285 (by assumption) ?_
  case hi285 => (simp only [List.getElem?_toArray, List.getElem?_cons_zero, List.getElem?_cons_succ]; exact rfl)
  case hd285 => rfl
  case hw285 => rfl
  case hy285 => (intro w hSw; (try dsimp only at hSw); go_simp; try with_reducible rfl)
  try simp only [Act.put, List.setIfInBounds_toArray, List.set_cons_zero, List.set_cons_succ]
  refine take_yes (i := 27) (oi := ?o286) (d := (some 35)) (v := ?v286) ?hi286 (by kernel_rfl) (by kernel_rfl) (by kernel_rfl) (fun _ _ _ h => h) ?hd286 ?hw286 ?hy286 (by assumption) ?_
  case hi286 => (simp only [List.getElem?_toArray, List.getElem?_cons_zero, List.getElem?_cons_succ]; exact rfl)
  case hd286 => rfl
  case hw286 => rfl
  case hy286 => (intro w hSw; (try dsimp only at hSw); go_simp; try with_reducible rfl)
  try simp only [Act.put, List.setIfInBounds_toArray, List.set_cons_zero, List.set_cons_succ]
  refine take_yes (i := 28) (oi := ?o287) (d := (some 36)) (v := ?v287) ?hi287 (by kernel_rfl) (by kernel_rfl) (by kernel_rfl) (fun _ _ _ h => h) ?hd287 ?hw287 ?hy287 (by assumption) ?_
  case hi287 => (simp only [List.getElem?_toArray, List.getElem?_cons_zero, List.getElem?_cons_succ]; exact rfl)
  case hd287 => rfl
  case hw287 => rfl
  case hy287 => (intro w hSw; (try dsimp only at hSw); go_simp; try with_reducible rfl)
  try simp only [Act.put, List.setIfInBounds_toArray, List.set_cons_zero, List.set_cons_succ]
  refine take_yes (i := 29) (oi := ?o288) (d := (some 37)) (v := ?v288) ?hi288 (by kernel_rfl) (by kernel_rfl) (by kernel_rfl) (fun _ _ _ h => h) ?hd288 ?hw288 ?hy288 (by assumption) ?_
  case hi288 => (simp only [List.getElem?_toArray, List.getElem?_cons_zero, List.getElem?_cons_succ]; exact rfl)
  case hd288 => rfl
  case hw288 => rfl
  case hy288 => (intro w hSw; (try dsimp only at hSw); go_simp; try with_reducible rfl)
  try simp only [Act.put, List.setIfInBounds_toArray, List.set_cons_zero, List.set_cons_succ]
  refine take_yes (i := 30) (oi := ?o289) (d := (some 38)) (v := ?v289) ?hi289 (by kernel_rfl) (by kernel_rfl) (by kernel_rfl) (fun _ _ _ h => h) ?hd289 ?hw289 ?hy289 (by assumption) ?_
  case hi289 => (simp only [List.getElem?_toArray, List.getElem?_cons_zero, List.getElem?_cons_succ]; exact rfl)
  case hd289 => rfl
  case hw289 => rfl
  case hy289 => (intro w hSw; (try dsimp only at hSw); go_simp; try with_reducible rfl)
  try simp only [Act.put, List.setIfInBounds_toArray, List.set_cons_zero, List.set_cons_succ]
  refine take_yes (i := 31) (oi := ?o290) (d := (some 39)) (v := ?v290) ?hi290 (by kernel_rfl) (by kernel_rfl) (by kernel_rfl) (fun _ _ _ h => h) ?hd290 ?hw290 ?hy290 (by assumption) ?_
  case hi290 => (simp only [List.getElem?_toArray, List.getElem?_cons_zero, List.getElem?_cons_succ]; exact rfl)
  case hd290 => rfl
  case hw290 => rfl
  case hy290 => (intro w hSw; (try dsimp only at hSw); go_simp; try with_reducible rfl)
  try simp only [Act.put, List.setIfInBounds_toArray, List.set_cons_zero, List.set_cons_succ]
  refine take_yes (i := 32) (oi := ?o291) (d := (some 40)) (v := ?v291) ?hi291 (by kernel_rfl) (by kernel_rfl) (by kernel_rfl) (fun _ _ _ h => h) ?hd291 ?hw291 ?hy291 (by assumption) ?_
  case hi291 => (simp only [List.getElem?_toArray, List.getElem?_cons_zero, List.getElem?_cons_succ]; exact rfl)
  case hd291 => rfl
  case hw291 => rfl
  case hy291 => (intro w hSw; (try dsimp only at hSw); go_simp; try with_reducible rfl)
  try simp only [Act.put, List.setIfInBounds_toArray, List.set_cons_zero, List.set_cons_succ]
  refine take_yes (i := 33) (oi := ?o292) (d := (some 41)) (v := ?v292) ?hi292 (by kernel_rfl) (by kernel_rfl) (by kernel_rfl) (fun _ _ _ h => h) ?hd292 ?hw292 ?hy292 (by assumption) ?_
  case hi292 => (simp only [List.getElem?_toArray, List.getElem?_cons_zero, List.getElem?_cons_succ]; exact rfl)
  case hd292 => rfl
  case hw292 => rfl
  case hy292 => (intro w hSw; (try dsimp only at hSw); go_simp; try with_reducible rfl)
  try simp only [Act.put, List.setIfInBounds_toArray, List.set_cons_zero, List.set_cons_succ]
  refine take_yes (i := 34) (oi := ?o293) (d := (some 42)) (v := ?v293) ?hi293 (by kernel_rfl) (by kernel_rfl) (by kernel_rfl) (fun _ _ _ h => h) ?hd293 ?hw293 ?hy293 (by assumption) ?_
  case hi293 => (simp only [List.getElem?_toArray, List.getElem?_cons_zero, List.getElem?_cons_succ]; exact rfl)
  case hd293 => rfl
  case hw293 => rfl
  case hy293 => (intro w hSw; (try dsimp only at hSw); go_simp; try with_reducible rfl)
  try simp only [Act.put, List.setIfInBounds_toArray, List.set_cons_zero, List.set_cons_succ]
  refine take_yes (i := 35) (oi := ?o294) (d := (some 43)) (v := ?v294) ?hi294 (by kernel_rfl) (by kernel_rfl) (by kernel_rfl) (fun _ _ _ h => h) ?hd294 ?hw294 ?hy294 (by assumption) ?_
  case hi294 => (simp only [List.getElem?_toArray, List.getElem?_cons_zero, List.getElem?_cons_succ]; exact rfl)
  case hd294 => rfl
  case hw294 => rfl
  case hy294 => (intro w hSw; (try dsimp only at hSw); go_simp; try with_reducible rfl)
  try simp only [Act.put, List.setIfInBounds_toArray, List.set_cons_zero, List.set_cons_succ]
  refine wpAnyH_ready (rs := [36]) (by kernel_rfl) (by simp) ?_
  refine AllReadyH.cons rfl (fun K hK => ?_) AllReadyH.nil
  go_simp
  go_at_call 80
  refine (Bit.Has_in q.tp q.tg q.tc n i q.ws _ (HC1.out.below (ext_drew (Below.refl _ _))).taken hi (by omega)).mono ?_
  rintro e w3 ⟨rfl, hw3⟩
  rw [hw3, HHV.out]
  clear hw3 w3
  go_wp2_with fail
  refine hK.out _ _ (by first | assumption) (fun hHeld36 => ?_)
  clear hK K
  try simp only [Act.put, List.setIfInBounds_toArray, List.set_cons_zero, List.set_cons_succ]
  refine take_yes (i := 37) (oi := ?o295) (d := (some 45)) (v := ?v295) ?hi295 (by kernel_rfl) (by kernel_rfl) (by kernel_rfl) (fun _ _ _ h => h) ?hd295 ?hw295 ?hy295 (by assumption) ?_
  case hi295 => (simp only [List.getElem?_toArray, List.getElem?_cons_zero, List.getElem?_cons_succ]; exact rfl)
  case hd295 => rfl
  case hw295 => rfl
  case hy295 => (intro w hSw; (try dsimp only at hSw); go_simp; try with_reducible rfl)
  try simp only [Act.put, List.setIfInBounds_toArray, List.set_cons_zero, List.set_cons_succ]
  refine take_yes (i := 38) (oi := ?o296) (d := (some 7)) (v := ?v296) ?hi296 (by kernel_rfl) (by kernel_rfl) (by kernel_rfl) (fun _ _ _ h => h) ?hd296 ?hw296 ?hy296 (by assumption) ?_
  case hi296 => (simp only [List.getElem?_toArray, List.getElem?_cons_zero, List.getElem?_cons_succ]; exact rfl)
  case hd296 => rfl
  case hw296 => rfl
  case hy296 => (intro w hSw; (try dsimp only at hSw); go_simp; try with_reducible rfl)
  try simp only [Act.put, List.setIfInBounds_toArray, List.set_cons_zero, List.set_cons_succ]
  refine wpAnyH_done (by kernel_rfl) ?_ _
  go_wp2_with fail
  refine wp_region_held_drew (S := (fun w' => w'.cell? ⟨vb, 0, none⟩ = some (.int .u32 id) ∧ w'.cell? ⟨vb, 1, none⟩ = some (.int .i64 (i : Int)) ∧ w'.cell? ⟨vb, 2, none⟩ = some (.int .i64 til) ∧ w'.cell? ⟨b, 0, none⟩ = some (.int .i64 n) ∧ w'.cell? ⟨b, 4, none⟩ = some (.int .i64 clock) ∧ w'.cell? ⟨b, 5, none⟩ = some (.int .u32 next) ∧ w'.cell? ⟨b, 6, none⟩ = some (.pointer (some ⟨q.tp, 0, none⟩)) ∧ Below w1.heap.size w1 w')) (by kernel_rfl) (by exact HCS.out _ (ext_drew (ext_drew (Below.refl _ _)))) (fun hHeld => ?_)
  refine take_yes (i := 0) (oi := ?o233) (d := (some 50)) (v := ?v233) ?hi233 (by kernel_rfl) (by kernel_rfl) (by kernel_rfl) (fun _ _ _ h => h) ?hd233 ?hw233 ?hy233 (by assumption) ?_
  case hi233 => (simp only [List.getElem?_toArray, List.getElem?_cons_zero]; exact rfl)
  case hd233 => rfl
  case hw233 => rfl
  case hy233 => (intro w hSw; (try dsimp only at hSw); go_simp; try with_reducible rfl)
  try simp only [Act.put, List.setIfInBounds_toArray, List.set_cons_zero, List.set_cons_succ]
  refine take_yes (i := 1) (oi := ?o234) (d := (some 51)) (v := ?v234) ?hi234 (by kernel_rfl) (by kernel_rfl) (by kernel_rfl) (fun _ _ _ h => h) ?hd234 ?hw234 ?hy234 (by assumption) ?_
  case hi234 => (simp only [List.getElem?_toArray, List.getElem?_cons_zero, List.getElem?_cons_succ]; exact rfl)
  case hd234 => rfl
  case hw234 => rfl
  case hy234 => (intro w hSw; (try dsimp only at hSw); go_simp; try with_reducible rfl)
  try simp only [Act.put, List.setIfInBounds_toArray, List.set_cons_zero, List.set_cons_succ]
  refine take_yes (i := 2) (oi := ?o235) (d := (some 52)) (v := ?v235) ?hi235 (by kernel_rfl) (by kernel_rfl) (by kernel_rfl) (fun _ _ _ h => h) ?hd235 ?hw235 ?hy235 (by assumption) ?_
  case hi235 => (simp only [List.getElem?_toArray, List.getElem?_cons_zero, List.getElem?_cons_succ]; exact rfl)
  case hd235 => rfl
  case hw235 => rfl
  case hy235 => (intro w hSw; (try dsimp only at hSw); go_simp; try with_reducible rfl)
  try simp only [Act.put, List.setIfInBounds_toArray, List.set_cons_zero, List.set_cons_succ]
  refine take_yes (i := 3) (oi := ?o236) (d := (some 53)) (v := ?v236) ?hi236 (by kernel_rfl) (by kernel_rfl) (by kernel_rfl) (fun _ _ _ h => h) ?hd236 ?hw236 ?hy236 (by assumption) ?_
  case hi236 => (simp only [List.getElem?_toArray, List.getElem?_cons_zero, List.getElem?_cons_succ]; exact rfl)
  case hd236 => rfl
  case hw236 => rfl
  case hy236 => (intro w hSw; (try dsimp only at hSw); go_simp; try with_reducible rfl)
  try simp only [Act.put, List.setIfInBounds_toArray, List.set_cons_zero, List.set_cons_succ]
  refine take_yes (i := 4) (oi := ?o237) (d := (some 54)) (v := ?v237) ?hi237 (by kernel_rfl) (by kernel_rfl) (by kernel_rfl) (fun _ _ _ h => h) ?hd237 ?hw237 ?hy237 (by assumption) ?_
  case hi237 => (simp only [List.getElem?_toArray, List.getElem?_cons_zero, List.getElem?_cons_succ]; exact rfl)
  case hd237 => rfl
  case hw237 => rfl
  case hy237 => (intro w hSw; (try dsimp only at hSw); go_simp; try with_reducible rfl)
  try simp only [Act.put, List.setIfInBounds_toArray, List.set_cons_zero, List.set_cons_succ]
  refine take_yes (i := 5) (oi := ?o238) (d := (some 55)) (v := ?v238) ?hi238 (by kernel_rfl) (by kernel_rfl) (by kernel_rfl) (fun _ _ _ h => h) ?hd238 ?hw238 ?hy238 (by assumption) ?_
  case hi238 => (simp only [List.getElem?_toArray, List.getElem?_cons_zero, List.getElem?_cons_succ]; exact rfl)
  case hd238 => rfl
  case hw238 => rfl
  case hy238 => (intro w hSw; (try dsimp only at hSw); go_simp; try with_reducible rfl)
  try simp only [Act.put, List.setIfInBounds_toArray, List.set_cons_zero, List.set_cons_succ]
  refine take_yes (i := 6) (oi := ?o239) (d := (some 56)) (v := ?v239) ?hi239 (by kernel_rfl) (by kernel_rfl) (by kernel_rfl) (fun _ _ _ h => h) ?hd239 ?hw239 ?hy239 (by assumption) ?_
  case hi239 => (simp only [List.getElem?_toArray, List.getElem?_cons_zero, List.getElem?_cons_succ]; exact rfl)
  case hd239 => rfl
  case hw239 => rfl
  case hy239 => (intro w hSw; (try dsimp only at hSw); go_simp; try with_reducible rfl)
  try simp only [Act.put, List.setIfInBounds_toArray, List.set_cons_zero, List.set_cons_succ]
  refine take_yes (i := 7) (oi := ?o240) (d := (some 57)) (v := ?v240) ?hi240 (by kernel_rfl) (by kernel_rfl) (by kernel_rfl) (fun _ _ _ h => h) ?hd240 ?hw240 ?hy240 (by assumption) ?_
  case hi240 => (simp only [List.getElem?_toArray, List.getElem?_cons_zero, List.getElem?_cons_succ]; exact rfl)
  case hd240 => rfl
  case hw240 => rfl
  case hy240 => (intro w hSw; (try dsimp only at hSw); go_simp; try with_reducible rfl)
  try simp only [Act.put, List.setIfInBounds_toArray, List.set_cons_zero, List.set_cons_succ]
  refine take_no (i := 8) (oi := ?o241) (d := (some 58)) ?hi241 (by kernel_rfl) (by kernel_rfl) (by kernel_rfl) (fun _ _ _ h => h) ?hd241 ?hw241 (by assumption) ?_
  case hi241 => (simp only [List.getElem?_toArray, List.getElem?_cons_zero, List.getElem?_cons_succ]; exact rfl)
  case hd241 => rfl
  case hw241 => rfl
  try simp only [Act.put, List.setIfInBounds_toArray, List.set_cons_zero, List.set_cons_succ]
  refine take_no (i := 9) (oi := ?o242) (d := (some 59)) ?hi242 (by kernel_rfl) (by kernel_rfl) (by kernel_rfl) (fun _ _ _ h => h) ?hd242 ?hw242 (by assumption) ?_
  case hi242 => (simp only [List.getElem?_toArray, List.getElem?_cons_zero, List.getElem?_cons_succ]; exact rfl)
  case hd242 => rfl
  case hw242 => rfl
  try simp only [Act.put, List.setIfInBounds_toArray, List.set_cons_zero, List.set_cons_succ]
  refine take_no (i := 10) (oi := ?o243) (d := (some 60)) ?hi243 (by kernel_rfl) (by kernel_rfl) (by kernel_rfl) (fun _ _ _ h => h) ?hd243 ?hw243 (by assumption) ?_
  case hi243 => (simp only [List.getElem?_toArray, List.getElem?_cons_zero, List.getElem?_cons_succ]; exact rfl)
  case hd243 => rfl
  case hw243 => rfl
  try simp only [Act.put, List.setIfInBounds_toArray, List.set_cons_zero, List.set_cons_succ]
  refine take_yes (i := 11) (oi := ?o244) (d := (some 61)) (v := ?v244) ?hi244 (by kernel_rfl) (by kernel_rfl) (by kernel_rfl) (fun _ _ _ h => h) ?hd244 ?hw244 ?hy244 (by assumption) ?_
  case hi244 => (simp only [List.getElem?_toArray, List.getElem?_cons_zero, List.getElem?_cons_succ]; exact rfl)
  case hd244 => rfl
  case hw244 => rfl
  case hy244 => (intro w hSw; (try dsimp only at hSw); go_simp; try with_reducible rfl)
  try simp only [Act.put, List.setIfInBounds_toArray, List.set_cons_zero, List.set_cons_succ]
  refine take_yes (i := 12) (oi := ?o245) (d := (some 6)) (v := ?v245) ?hi245 (by kernel_rfl) (by kernel_rfl) (by kernel_rfl) (fun _ _ _ h => h) ?hd245 ?hw245 ?hy245 (by assumption) ?_
  case hi245 => (simp only [List.getElem?_toArray, List.getElem?_cons_zero, List.getElem?_cons_succ]; exact rfl)
  case hd245 => rfl
  case hw245 => rfl
  case hy245 => (intro w hSw; (try dsimp only at hSw); go_simp; try with_reducible rfl)
  try simp only [Act.put, List.setIfInBounds_toArray, List.set_cons_zero, List.set_cons_succ]
  refine wpAnyH_done (by kernel_rfl) ?_ _
  go_wp2_with fail
  go_ret
  exact ⟨rfl, ext_trans HB1.out (by first | exact ext_drew (Below.refl _ _) | exact ext_drew (ext_drew (Below.refl _ _)))⟩
set_option maxRecDepth 100000 in
set_option maxHeartbeats 2000000 in
theorem may_late (S : Nat → Prop) (b n codes : Nat) (group next clock : Int) (L : List Bkg) (q : Parts) (id til last : Int) (i : Nat) (w : World) (h : BookAt S w b n codes group next clock L q) (c0 : decide (id ≤ last) = false) (c1 : decide (next ≤ id) = false) (hi : i < n) (hv : hasB q.ws i = false) (c6 : (til == 0) = false) (c7 : decide (clock < til) = true) (c8 : decide (til ≤ 1099511627776) = false) :
    Calls Tryz.prog 39 #[.pointer (some ⟨b, 0, none⟩), .agg #[.int .u32 id, .int .i64 (i : Int), .int .i64 til], .int .u32 last] w fun e w' => e = .returned (.bool false) ∧ Below w.heap.size w w' := by
  have hn4 : n ≤ 1024 := h.small.2.2.2.2
  have c2 : decide ((i : Int) < 0) = false := decide_eq_false (by omega)
  have c3 : decide ((n : Int) ≤ (i : Int)) = false := decide_eq_false (by omega)
  have c3n : decide (n ≤ i) = false := decide_eq_false (by omega)
  have HHV := Lib.hid hv
  clear hv
  have HH := Lib.hid h
  clear h
  go_enter Tryz.func39, Tryz.ntmps39
  go_wp2_with fail
  have hb1 : Below w.heap.size w (w.alloc (.cells #[.int .u32 id, .int .i64 (i : Int), .int .i64 til] 78)) := ext_alloc (Below.refl _ _) _
  have hA1 : Arr (w.alloc (.cells #[.int .u32 id, .int .i64 (i : Int), .int .i64 til] 78)) w.heap.size 78 #[.int .u32 id, .int .i64 (i : Int), .int .i64 til] := Arr.fresh w _ _
  obtain ⟨w1, hw1⟩ : ∃ w1, w.alloc (.cells #[.int .u32 id, .int .i64 (i : Int), .int .i64 til] 78) = w1 := ⟨_, rfl⟩
  obtain ⟨vb, hvb⟩ : ∃ vb, w.heap.size = vb := ⟨_, rfl⟩
  rw [hw1] at hb1 hA1 ⊢
  have HC1 := Lib.hid (HH.out.comp.below hb1)
  have HB1 := Lib.hid hb1
  clear hb1
  rw [hvb] at hA1 ⊢
  clear hw1 hvb
  have HCS : ∀ w', Below w1.heap.size w1 w' → (w'.cell? ⟨vb, 0, none⟩ = some (.int .u32 id) ∧ w'.cell? ⟨vb, 1, none⟩ = some (.int .i64 (i : Int)) ∧ w'.cell? ⟨vb, 2, none⟩ = some (.int .i64 til) ∧ w'.cell? ⟨b, 0, none⟩ = some (.int .i64 n) ∧ w'.cell? ⟨b, 4, none⟩ = some (.int .i64 clock) ∧ w'.cell? ⟨b, 5, none⟩ = some (.int .u32 next) ∧ w'.cell? ⟨b, 6, none⟩ = some (.pointer (some ⟨q.tp, 0, none⟩)) ∧ Below w1.heap.size w1 w') := fun w' hb => ⟨(hA1.keep hb).cell 0, (hA1.keep hb).cell 1, (hA1.keep hb).cell 2, (HC1.out.own.keep hb).cell 0, (HC1.out.own.keep hb).cell 4, (HC1.out.own.keep hb).cell 5, (HC1.out.own.keep hb).cell 6, hb⟩
  have HCS := Lib.hid HCS
  clear hA1
  refine wp_region_held_drew (S := (fun w' => w'.cell? ⟨vb, 0, none⟩ = some (.int .u32 id) ∧ w'.cell? ⟨vb, 1, none⟩ = some (.int .i64 (i : Int)) ∧ w'.cell? ⟨vb, 2, none⟩ = some (.int .i64 til) ∧ w'.cell? ⟨b, 0, none⟩ = some (.int .i64 n) ∧ w'.cell? ⟨b, 4, none⟩ = some (.int .i64 clock) ∧ w'.cell? ⟨b, 5, none⟩ = some (.int .u32 next) ∧ w'.cell? ⟨b, 6, none⟩ = some (.pointer (some ⟨q.tp, 0, none⟩)) ∧ Below w1.heap.size w1 w')) (by kernel_rfl) (by exact HCS.out _ (ext_drew (Below.refl _ _))) (fun hHeld => ?_)
  refine take_yes (i := 0) (oi := ?o297) (d := (some 8)) (v := ?v297) ?hi297 (by kernel_rfl) (by kernel_rfl) (by kernel_rfl) (fun _ _ _ h => h) ?hd297 ?hw297 ?hy297 (by assumption) ?_
  case hi297 => (simp only [List.getElem?_toArray, List.getElem?_cons_zero]; exact rfl)
  case hd297 => rfl
  case hw297 => rfl
  case hy297 => (intro w hSw; (try dsimp only at hSw); go_simp; try with_reducible rfl)
  try simp only [Act.put, List.setIfInBounds_toArray, List.set_cons_zero, List.set_cons_succ]
  refine take_yes (i := 1) (oi := ?o298) (d := (some 9)) (v := ?v298) ?hi298 (by kernel_rfl) (by kernel_rfl) (by kernel_rfl) (fun _ _ _ h => h) ?hd298 ?hw298 ?hy298 (by assumption) ?_
  case hi298 => (simp only [List.getElem?_toArray, List.getElem?_cons_zero, List.getElem?_cons_succ]; exact rfl)
  case hd298 => rfl
  case hw298 => rfl
  case hy298 => (intro w hSw; (try dsimp only at hSw); go_simp; try with_reducible rfl)
  try simp only [Act.put, List.setIfInBounds_toArray, List.set_cons_zero, List.set_cons_succ]
  refine take_yes (i := 2) (oi := ?o299) (d := (some 10)) (v := ?v299) ?hi299 (by kernel_rfl) (by kernel_rfl) (by kernel_rfl) (fun _ _ _ h => h) ?hd299 ?hw299 ?hy299 (by assumption) ?_
  case hi299 => (simp only [List.getElem?_toArray, List.getElem?_cons_zero, List.getElem?_cons_succ]; exact rfl)
  case hd299 => rfl
  case hw299 => rfl
  case hy299 => (intro w hSw; (try dsimp only at hSw); go_simp; try with_reducible rfl)
  try simp only [Act.put, List.setIfInBounds_toArray, List.set_cons_zero, List.set_cons_succ]
  refine take_yes (i := 3) (oi := ?o300) (d := (some 11)) (v := ?v300) ?hi300 (by kernel_rfl) (by kernel_rfl) (by kernel_rfl) (fun _ _ _ h => h) ?hd300 ?hw300 ?hy300 (by assumption) ?_
  case hi300 => (simp only [List.getElem?_toArray, List.getElem?_cons_zero, List.getElem?_cons_succ]; exact rfl)
  case hd300 => rfl
  case hw300 => rfl
  case hy300 => (intro w hSw; (try dsimp only at hSw); go_simp; try with_reducible rfl)
  try simp only [Act.put, List.setIfInBounds_toArray, List.set_cons_zero, List.set_cons_succ]
  refine take_yes (i := 4) (oi := ?o301) (d := (some 12)) (v := ?v301) ?hi301 (by kernel_rfl) (by kernel_rfl) (by kernel_rfl) (fun _ _ _ h => h) ?hd301 ?hw301 ?hy301 (by assumption) ?_
  case hi301 => (simp only [List.getElem?_toArray, List.getElem?_cons_zero, List.getElem?_cons_succ]; exact rfl)
  case hd301 => rfl
  case hw301 => rfl
  case hy301 => (intro w hSw; (try dsimp only at hSw); go_simp; try with_reducible rfl)
  try simp only [Act.put, List.setIfInBounds_toArray, List.set_cons_zero, List.set_cons_succ]
  refine take_yes (i := 5) (oi := ?o302) (d := (some 13)) (v := ?v302) ?hi302 (by kernel_rfl) (by kernel_rfl) (by kernel_rfl) (fun _ _ _ h => h) ?hd302 ?hw302 ?hy302 (by assumption) ?_
  case hi302 => (simp only [List.getElem?_toArray, List.getElem?_cons_zero, List.getElem?_cons_succ]; exact rfl)
  case hd302 => rfl
  case hw302 => rfl
  case hy302 => (intro w hSw; (try dsimp only at hSw); go_simp; try with_reducible rfl)
  try simp only [Act.put, List.setIfInBounds_toArray, List.set_cons_zero, List.set_cons_succ]
  refine take_yes (i := 6) (oi := ?o303) (d := (some 14)) (v := ?v303) ?hi303 (by kernel_rfl) (by kernel_rfl) (by kernel_rfl) (fun _ _ _ h => h) ?hd303 ?hw303 ?hy303 (by assumption) ?_
  case hi303 => (simp only [List.getElem?_toArray, List.getElem?_cons_zero, List.getElem?_cons_succ]; exact rfl)
  case hd303 => rfl
  case hw303 => rfl
  case hy303 => (intro w hSw; (try dsimp only at hSw); go_simp; try with_reducible rfl)
  try simp only [Act.put, List.setIfInBounds_toArray, List.set_cons_zero, List.set_cons_succ]
  refine take_yes (i := 7) (oi := ?o304) (d := (some 15)) (v := ?v304) ?hi304 (by kernel_rfl) (by kernel_rfl) (by kernel_rfl) (fun _ _ _ h => h) ?hd304 ?hw304 ?hy304 (by assumption) ?_
  case hi304 => (simp only [List.getElem?_toArray, List.getElem?_cons_zero, List.getElem?_cons_succ]; exact rfl)
  case hd304 => rfl
  case hw304 => rfl
  case hy304 => (intro w hSw; (try dsimp only at hSw); go_simp; try with_reducible rfl)
  try simp only [Act.put, List.setIfInBounds_toArray, List.set_cons_zero, List.set_cons_succ]
  refine take_yes (i := 8) (oi := ?o305) (d := (some 16)) (v := ?v305) ?hi305 (by kernel_rfl) (by kernel_rfl) (by kernel_rfl) (fun _ _ _ h => h) ?hd305 ?hw305 ?hy305 (by assumption) ?_
  case hi305 => (simp only [List.getElem?_toArray, List.getElem?_cons_zero, List.getElem?_cons_succ]; exact rfl)
  case hd305 => rfl
  case hw305 => rfl
  case hy305 => (intro w hSw; (try dsimp only at hSw); go_simp; try with_reducible rfl)
  try simp only [Act.put, List.setIfInBounds_toArray, List.set_cons_zero, List.set_cons_succ]
  refine take_yes (i := 9) (oi := ?o306) (d := (some 17)) (v := ?v306) ?hi306 (by kernel_rfl) (by kernel_rfl) (by kernel_rfl) (fun _ _ _ h => h) ?hd306 ?hw306 ?hy306 (by assumption) ?_
  case hi306 => (simp only [List.getElem?_toArray, List.getElem?_cons_zero, List.getElem?_cons_succ]; exact rfl)
  case hd306 => rfl
  case hw306 => rfl
  case hy306 => (intro w hSw; (try dsimp only at hSw); go_simp; try with_reducible rfl)
  try simp only [Act.put, List.setIfInBounds_toArray, List.set_cons_zero, List.set_cons_succ]
  refine take_yes (i := 10) (oi := ?o307) (d := (some 18)) (v := ?v307) ?hi307 (by kernel_rfl) (by kernel_rfl) (by kernel_rfl) (fun _ _ _ h => h) ?hd307 ?hw307 ?hy307 (by assumption) ?_
  case hi307 => (simp only [List.getElem?_toArray, List.getElem?_cons_zero, List.getElem?_cons_succ]; exact rfl)
  case hd307 => rfl
  case hw307 => rfl
  case hy307 => (intro w hSw; (try dsimp only at hSw); go_simp; try with_reducible rfl)
  try simp only [Act.put, List.setIfInBounds_toArray, List.set_cons_zero, List.set_cons_succ]
  refine take_yes (i := 11) (oi := ?o308) (d := (some 19)) (v := ?v308) ?hi308 (by kernel_rfl) (by kernel_rfl) (by kernel_rfl) (fun _ _ _ h => h) ?hd308 ?hw308 ?hy308 (by assumption) ?_
  case hi308 => (simp only [List.getElem?_toArray, List.getElem?_cons_zero, List.getElem?_cons_succ]; exact rfl)
  case hd308 => rfl
  case hw308 => rfl
  case hy308 => (intro w hSw; (try dsimp only at hSw); go_simp; try with_reducible rfl)
  try simp only [Act.put, List.setIfInBounds_toArray, List.set_cons_zero, List.set_cons_succ]
  refine take_yes (i := 12) (oi := ?o309) (d := (some 20)) (v := ?v309) ?hi309 (by kernel_rfl) (by kernel_rfl) (by kernel_rfl) (fun _ _ _ h => h) ?hd309 ?hw309 ?hy309 (by assumption) ?_
  case hi309 => (simp only [List.getElem?_toArray, List.getElem?_cons_zero, List.getElem?_cons_succ]; exact rfl)
  case hd309 => rfl
  case hw309 => rfl
  case hy309 => (intro w hSw; (try dsimp only at hSw); go_simp; try with_reducible rfl)
  try simp only [Act.put, List.setIfInBounds_toArray, List.set_cons_zero, List.set_cons_succ]
  refine take_yes (i := 13) (oi := ?o310) (d := (some 21)) (v := ?v310) ?hi310 (by kernel_rfl) (by kernel_rfl) (by kernel_rfl) (fun _ _ _ h => h) ?hd310 ?hw310 ?hy310 (by assumption) ?_
  case hi310 => (simp only [List.getElem?_toArray, List.getElem?_cons_zero, List.getElem?_cons_succ]; exact rfl)
  case hd310 => rfl
  case hw310 => rfl
  case hy310 => (intro w hSw; (try dsimp only at hSw); go_simp; try with_reducible rfl)
  try simp only [Act.put, List.setIfInBounds_toArray, List.set_cons_zero, List.set_cons_succ]
  refine take_yes (i := 14) (oi := ?o311) (d := (some 22)) (v := ?v311) ?hi311 (by kernel_rfl) (by kernel_rfl) (by kernel_rfl) (fun _ _ _ h => h) ?hd311 ?hw311 ?hy311 (by assumption) ?_
  case hi311 => (simp only [List.getElem?_toArray, List.getElem?_cons_zero, List.getElem?_cons_succ]; exact rfl)
  case hd311 => rfl
  case hw311 => rfl
  case hy311 => (intro w hSw; (try dsimp only at hSw); go_simp; try with_reducible rfl)
  try simp only [Act.put, List.setIfInBounds_toArray, List.set_cons_zero, List.set_cons_succ]
  refine take_yes (i := 15) (oi := ?o312) (d := (some 23)) (v := ?v312) ?hi312 (by kernel_rfl) (by kernel_rfl) (by kernel_rfl) (fun _ _ _ h => h) ?hd312 ?hw312 ?hy312 (by assumption) ?_
  case hi312 => (simp only [List.getElem?_toArray, List.getElem?_cons_zero, List.getElem?_cons_succ]; exact rfl)
  case hd312 => rfl
  case hw312 => rfl
  case hy312 => (intro w hSw; (try dsimp only at hSw); go_simp; try with_reducible rfl)
  try simp only [Act.put, List.setIfInBounds_toArray, List.set_cons_zero, List.set_cons_succ]
  refine take_yes (i := 16) (oi := ?o313) (d := (some 24)) (v := ?v313) ?hi313 (by kernel_rfl) (by kernel_rfl) (by kernel_rfl) (fun _ _ _ h => h) ?hd313 ?hw313 ?hy313 (by assumption) ?_
  case hi313 => (simp only [List.getElem?_toArray, List.getElem?_cons_zero, List.getElem?_cons_succ]; exact rfl)
  case hd313 => rfl
  case hw313 => rfl
  case hy313 => (intro w hSw; (try dsimp only at hSw); go_simp; try with_reducible rfl)
  try simp only [Act.put, List.setIfInBounds_toArray, List.set_cons_zero, List.set_cons_succ]
  refine take_yes (i := 17) (oi := ?o314) (d := (some 25)) (v := ?v314) ?hi314 (by kernel_rfl) (by kernel_rfl) (by kernel_rfl) (fun _ _ _ h => h) ?hd314 ?hw314 ?hy314 (by assumption) ?_
  case hi314 => (simp only [List.getElem?_toArray, List.getElem?_cons_zero, List.getElem?_cons_succ]; exact rfl)
  case hd314 => rfl
  case hw314 => rfl
  case hy314 => (intro w hSw; (try dsimp only at hSw); go_simp; try with_reducible rfl)
  try simp only [Act.put, List.setIfInBounds_toArray, List.set_cons_zero, List.set_cons_succ]
  refine take_yes (i := 18) (oi := ?o315) (d := (some 26)) (v := ?v315) ?hi315 (by kernel_rfl) (by kernel_rfl) (by kernel_rfl) (fun _ _ _ h => h) ?hd315 ?hw315 ?hy315 (by assumption) ?_
  case hi315 => (simp only [List.getElem?_toArray, List.getElem?_cons_zero, List.getElem?_cons_succ]; exact rfl)
  case hd315 => rfl
  case hw315 => rfl
  case hy315 => (intro w hSw; (try dsimp only at hSw); go_simp; try with_reducible rfl)
  try simp only [Act.put, List.setIfInBounds_toArray, List.set_cons_zero, List.set_cons_succ]
  refine take_yes (i := 19) (oi := ?o316) (d := (some 27)) (v := ?v316) ?hi316 (by kernel_rfl) (by kernel_rfl) (by kernel_rfl) (fun _ _ _ h => h) ?hd316 ?hw316 ?hy316 (by assumption) ?_
  case hi316 => (simp only [List.getElem?_toArray, List.getElem?_cons_zero, List.getElem?_cons_succ]; exact rfl)
  case hd316 => rfl
  case hw316 => rfl
  case hy316 => (intro w hSw; (try dsimp only at hSw); go_simp; try with_reducible rfl)
  try simp only [Act.put, List.setIfInBounds_toArray, List.set_cons_zero, List.set_cons_succ]
  refine take_yes (i := 20) (oi := ?o317) (d := (some 28)) (v := ?v317) ?hi317 (by kernel_rfl) (by kernel_rfl) (by kernel_rfl) (fun _ _ _ h => h) ?hd317 ?hw317 ?hy317 (by assumption) ?_
  case hi317 => (simp only [List.getElem?_toArray, List.getElem?_cons_zero, List.getElem?_cons_succ]; exact rfl)
  case hd317 => rfl
  case hw317 => rfl
  case hy317 => (intro w hSw; (try dsimp only at hSw); go_simp; try with_reducible rfl)
  try simp only [Act.put, List.setIfInBounds_toArray, List.set_cons_zero, List.set_cons_succ]
  refine take_yes (i := 21) (oi := ?o318) (d := (some 29)) (v := ?v318) ?hi318 (by kernel_rfl) (by kernel_rfl) (by kernel_rfl) (fun _ _ _ h => h) ?hd318 ?hw318 ?hy318 (by assumption) ?_
  case hi318 => (simp only [List.getElem?_toArray, List.getElem?_cons_zero, List.getElem?_cons_succ]; exact rfl)
  case hd318 => rfl
  case hw318 => rfl
  case hy318 => (intro w hSw; (try dsimp only at hSw); go_simp; try with_reducible rfl)
  try simp only [Act.put, List.setIfInBounds_toArray, List.set_cons_zero, List.set_cons_succ]
  refine take_yes (i := 22) (oi := ?o319) (d := (some 30)) (v := ?v319) ?hi319 (by kernel_rfl) (by kernel_rfl) (by kernel_rfl) (fun _ _ _ h => h) ?hd319 ?hw319 ?hy319 (by assumption) ?_
  case hi319 => (simp only [List.getElem?_toArray, List.getElem?_cons_zero, List.getElem?_cons_succ]; exact rfl)
  case hd319 => rfl
  case hw319 => rfl
  case hy319 => (intro w hSw; (try dsimp only at hSw); go_simp; try with_reducible rfl)
  try simp only [Act.put, List.setIfInBounds_toArray, List.set_cons_zero, List.set_cons_succ]
  refine take_yes (i := 23) (oi := ?o320) (d := (some 31)) (v := ?v320) ?hi320 (by kernel_rfl) (by kernel_rfl) (by kernel_rfl) (fun _ _ _ h => h) ?hd320 ?hw320 ?hy320 (by assumption) ?_
  case hi320 => (simp only [List.getElem?_toArray, List.getElem?_cons_zero, List.getElem?_cons_succ]; exact rfl)
  case hd320 => rfl
  case hw320 => rfl
  case hy320 => (intro w hSw; (try dsimp only at hSw); go_simp; try with_reducible rfl)
  try simp only [Act.put, List.setIfInBounds_toArray, List.set_cons_zero, List.set_cons_succ]
  refine take_yes (i := 24) (oi := ?o321) (d := (some 32)) (v := ?v321) ?hi321 (by kernel_rfl) (by kernel_rfl) (by kernel_rfl) (fun _ _ _ h => h) ?hd321 ?hw321 ?hy321 (by assumption) ?_
  case hi321 => (simp only [List.getElem?_toArray, List.getElem?_cons_zero, List.getElem?_cons_succ]; exact rfl)
  case hd321 => rfl
  case hw321 => rfl
  case hy321 => (intro w hSw; (try dsimp only at hSw); go_simp; try with_reducible rfl)
  try simp only [Act.put, List.setIfInBounds_toArray, List.set_cons_zero, List.set_cons_succ]
  refine take_yes (i := 25) (oi := ?o322) (d := (some 33)) (v := ?v322) ?hi322 (by kernel_rfl) (by kernel_rfl) (by kernel_rfl) (fun _ _ _ h => h) ?hd322 ?hw322 ?hy322 (by assumption) ?_
  case hi322 => (simp only [List.getElem?_toArray, List.getElem?_cons_zero, List.getElem?_cons_succ]; exact rfl)
  case hd322 => rfl
  case hw322 => rfl
  case hy322 => (intro w hSw; (try dsimp only at hSw); go_simp; try with_reducible rfl)
  try simp only [Act.put, List.setIfInBounds_toArray, List.set_cons_zero, List.set_cons_succ]
  refine take_yes (i := 26) (oi := ?o323) (d := (some 34)) (v := ?v323) ?hi323 (by kernel_rfl) (by kernel_rfl) (by kernel_rfl) (fun _ _ _ h => h) ?hd323 ?hw323 ?hy323 (by assumption) ?_
  case hi323 => (simp only [List.getElem?_toArray, List.getElem?_cons_zero, List.getElem?_cons_succ]; exact rfl)
  case hd323 => rfl
  case hw323 => rfl
  case hy323 => (intro w hSw; (try dsimp only at hSw); go_simp; try with_reducible rfl)
  try simp only [Act.put, List.setIfInBounds_toArray, List.set_cons_zero, List.set_cons_succ]
  refine take_yes (i := 27) (oi := ?o324) (d := (some 35)) (v := ?v324) ?hi324 (by kernel_rfl) (by kernel_rfl) (by kernel_rfl) (fun _ _ _ h => h) ?hd324 ?hw324 ?hy324 (by assumption) ?_
  case hi324 => (simp only [List.getElem?_toArray, List.getElem?_cons_zero, List.getElem?_cons_succ]; exact rfl)
  case hd324 => rfl
  case hw324 => rfl
  case hy324 => (intro w hSw; (try dsimp only at hSw); go_simp; try with_reducible rfl)
  try simp only [Act.put, List.setIfInBounds_toArray, List.set_cons_zero, List.set_cons_succ]
  refine take_yes (i := 28) (oi := ?o325) (d := (some 36)) (v := ?v325) ?hi325 (by kernel_rfl) (by kernel_rfl) (by kernel_rfl) (fun _ _ _ h => h) ?hd325 ?hw325 ?hy325 (by assumption) ?_
  case hi325 => (simp only [List.getElem?_toArray, List.getElem?_cons_zero, List.getElem?_cons_succ]; exact rfl)
  case hd325 => rfl
  case hw325 => rfl
  case hy325 => (intro w hSw; (try dsimp only at hSw); go_simp; try with_reducible rfl)
  try simp only [Act.put, List.setIfInBounds_toArray, List.set_cons_zero, List.set_cons_succ]
  refine take_yes (i := 29) (oi := ?o326) (d := (some 37)) (v := ?v326) ?hi326 (by kernel_rfl) (by kernel_rfl) (by kernel_rfl) (fun _ _ _ h => h) ?hd326 ?hw326 ?hy326 (by assumption) ?_
  case hi326 => (simp only [List.getElem?_toArray, List.getElem?_cons_zero, List.getElem?_cons_succ]; exact rfl)
  case hd326 => rfl
  case hw326 => rfl
  case hy326 => (intro w hSw; (try dsimp only at hSw); go_simp; try with_reducible rfl)
  try simp only [Act.put, List.setIfInBounds_toArray, List.set_cons_zero, List.set_cons_succ]
  refine take_yes (i := 30) (oi := ?o327) (d := (some 38)) (v := ?v327) ?hi327 (by kernel_rfl) (by kernel_rfl) (by kernel_rfl) (fun _ _ _ h => h) ?hd327 ?hw327 ?hy327 (by assumption) ?_
  case hi327 => (simp only [List.getElem?_toArray, List.getElem?_cons_zero, List.getElem?_cons_succ]; exact rfl)
  case hd327 => rfl
  case hw327 => rfl
  case hy327 => (intro w hSw; (try dsimp only at hSw); go_simp; try with_reducible rfl)
  try simp only [Act.put, List.setIfInBounds_toArray, List.set_cons_zero, List.set_cons_succ]
  refine take_yes (i := 31) (oi := ?o328) (d := (some 39)) (v := ?v328) ?hi328 (by kernel_rfl) (by kernel_rfl) (by kernel_rfl) (fun _ _ _ h => h) ?hd328 ?hw328 ?hy328 (by assumption) ?_
  case hi328 => (simp only [List.getElem?_toArray, List.getElem?_cons_zero, List.getElem?_cons_succ]; exact rfl)
  case hd328 => rfl
  case hw328 => rfl
  case hy328 => (intro w hSw; (try dsimp only at hSw); go_simp; try with_reducible rfl)
  try simp only [Act.put, List.setIfInBounds_toArray, List.set_cons_zero, List.set_cons_succ]
  refine take_yes (i := 32) (oi := ?o329) (d := (some 40)) (v := ?v329) ?hi329 (by kernel_rfl) (by kernel_rfl) (by kernel_rfl) (fun _ _ _ h => h) ?hd329 ?hw329 ?hy329 (by assumption) ?_
  case hi329 => (simp only [List.getElem?_toArray, List.getElem?_cons_zero, List.getElem?_cons_succ]; exact rfl)
  case hd329 => rfl
  case hw329 => rfl
  case hy329 => (intro w hSw; (try dsimp only at hSw); go_simp; try with_reducible rfl)
  try simp only [Act.put, List.setIfInBounds_toArray, List.set_cons_zero, List.set_cons_succ]
  refine take_yes (i := 33) (oi := ?o330) (d := (some 41)) (v := ?v330) ?hi330 (by kernel_rfl) (by kernel_rfl) (by kernel_rfl) (fun _ _ _ h => h) ?hd330 ?hw330 ?hy330 (by assumption) ?_
  case hi330 => (simp only [List.getElem?_toArray, List.getElem?_cons_zero, List.getElem?_cons_succ]; exact rfl)
  case hd330 => rfl
  case hw330 => rfl
  case hy330 => (intro w hSw; (try dsimp only at hSw); go_simp; try with_reducible rfl)
  try simp only [Act.put, List.setIfInBounds_toArray, List.set_cons_zero, List.set_cons_succ]
  refine take_yes (i := 34) (oi := ?o331) (d := (some 42)) (v := ?v331) ?hi331 (by kernel_rfl) (by kernel_rfl) (by kernel_rfl) (fun _ _ _ h => h) ?hd331 ?hw331 ?hy331 (by assumption) ?_
  case hi331 => (simp only [List.getElem?_toArray, List.getElem?_cons_zero, List.getElem?_cons_succ]; exact rfl)
  case hd331 => rfl
  case hw331 => rfl
  case hy331 => (intro w hSw; (try dsimp only at hSw); go_simp; try with_reducible rfl)
  try simp only [Act.put, List.setIfInBounds_toArray, List.set_cons_zero, List.set_cons_succ]
  refine take_yes (i := 35) (oi := ?o332) (d := (some 43)) (v := ?v332) ?hi332 (by kernel_rfl) (by kernel_rfl) (by kernel_rfl) (fun _ _ _ h => h) ?hd332 ?hw332 ?hy332 (by assumption) ?_
  case hi332 => (simp only [List.getElem?_toArray, List.getElem?_cons_zero, List.getElem?_cons_succ]; exact rfl)
  case hd332 => rfl
  case hw332 => rfl
  case hy332 => (intro w hSw; (try dsimp only at hSw); go_simp; try with_reducible rfl)
  try simp only [Act.put, List.setIfInBounds_toArray, List.set_cons_zero, List.set_cons_succ]
  refine wpAnyH_ready (rs := [36]) (by kernel_rfl) (by simp) ?_
  refine AllReadyH.cons rfl (fun K hK => ?_) AllReadyH.nil
  go_simp
  go_at_call 80
  refine (Bit.Has_in q.tp q.tg q.tc n i q.ws _ (HC1.out.below (ext_drew (Below.refl _ _))).taken hi (by omega)).mono ?_
  rintro e w3 ⟨rfl, hw3⟩
  rw [hw3, HHV.out]
  clear hw3 w3
  go_wp2_with fail
  refine hK.out _ _ (by first | assumption) (fun hHeld36 => ?_)
  clear hK K
  try simp only [Act.put, List.setIfInBounds_toArray, List.set_cons_zero, List.set_cons_succ]
  refine take_yes (i := 37) (oi := ?o333) (d := (some 45)) (v := ?v333) ?hi333 (by kernel_rfl) (by kernel_rfl) (by kernel_rfl) (fun _ _ _ h => h) ?hd333 ?hw333 ?hy333 (by assumption) ?_
  case hi333 => (simp only [List.getElem?_toArray, List.getElem?_cons_zero, List.getElem?_cons_succ]; exact rfl)
  case hd333 => rfl
  case hw333 => rfl
  case hy333 => (intro w hSw; (try dsimp only at hSw); go_simp; try with_reducible rfl)
  try simp only [Act.put, List.setIfInBounds_toArray, List.set_cons_zero, List.set_cons_succ]
  refine take_yes (i := 38) (oi := ?o334) (d := (some 7)) (v := ?v334) ?hi334 (by kernel_rfl) (by kernel_rfl) (by kernel_rfl) (fun _ _ _ h => h) ?hd334 ?hw334 ?hy334 (by assumption) ?_
  case hi334 => (simp only [List.getElem?_toArray, List.getElem?_cons_zero, List.getElem?_cons_succ]; exact rfl)
  case hd334 => rfl
  case hw334 => rfl
  case hy334 => (intro w hSw; (try dsimp only at hSw); go_simp; try with_reducible rfl)
  try simp only [Act.put, List.setIfInBounds_toArray, List.set_cons_zero, List.set_cons_succ]
  refine wpAnyH_done (by kernel_rfl) ?_ _
  go_wp2_with fail
  refine wp_region_held_drew (S := (fun w' => w'.cell? ⟨vb, 0, none⟩ = some (.int .u32 id) ∧ w'.cell? ⟨vb, 1, none⟩ = some (.int .i64 (i : Int)) ∧ w'.cell? ⟨vb, 2, none⟩ = some (.int .i64 til) ∧ w'.cell? ⟨b, 0, none⟩ = some (.int .i64 n) ∧ w'.cell? ⟨b, 4, none⟩ = some (.int .i64 clock) ∧ w'.cell? ⟨b, 5, none⟩ = some (.int .u32 next) ∧ w'.cell? ⟨b, 6, none⟩ = some (.pointer (some ⟨q.tp, 0, none⟩)) ∧ Below w1.heap.size w1 w')) (by kernel_rfl) (by exact HCS.out _ (ext_drew (ext_drew (Below.refl _ _)))) (fun hHeld => ?_)
  refine take_yes (i := 0) (oi := ?o246) (d := (some 50)) (v := ?v246) ?hi246 (by kernel_rfl) (by kernel_rfl) (by kernel_rfl) (fun _ _ _ h => h) ?hd246 ?hw246 ?hy246 (by assumption) ?_
  case hi246 => (simp only [List.getElem?_toArray, List.getElem?_cons_zero]; exact rfl)
  case hd246 => rfl
  case hw246 => rfl
  case hy246 => (intro w hSw; (try dsimp only at hSw); go_simp; try with_reducible rfl)
  try simp only [Act.put, List.setIfInBounds_toArray, List.set_cons_zero, List.set_cons_succ]
  refine take_yes (i := 1) (oi := ?o247) (d := (some 51)) (v := ?v247) ?hi247 (by kernel_rfl) (by kernel_rfl) (by kernel_rfl) (fun _ _ _ h => h) ?hd247 ?hw247 ?hy247 (by assumption) ?_
  case hi247 => (simp only [List.getElem?_toArray, List.getElem?_cons_zero, List.getElem?_cons_succ]; exact rfl)
  case hd247 => rfl
  case hw247 => rfl
  case hy247 => (intro w hSw; (try dsimp only at hSw); go_simp; try with_reducible rfl)
  try simp only [Act.put, List.setIfInBounds_toArray, List.set_cons_zero, List.set_cons_succ]
  refine take_yes (i := 2) (oi := ?o248) (d := (some 52)) (v := ?v248) ?hi248 (by kernel_rfl) (by kernel_rfl) (by kernel_rfl) (fun _ _ _ h => h) ?hd248 ?hw248 ?hy248 (by assumption) ?_
  case hi248 => (simp only [List.getElem?_toArray, List.getElem?_cons_zero, List.getElem?_cons_succ]; exact rfl)
  case hd248 => rfl
  case hw248 => rfl
  case hy248 => (intro w hSw; (try dsimp only at hSw); go_simp; try with_reducible rfl)
  try simp only [Act.put, List.setIfInBounds_toArray, List.set_cons_zero, List.set_cons_succ]
  refine take_yes (i := 3) (oi := ?o249) (d := (some 53)) (v := ?v249) ?hi249 (by kernel_rfl) (by kernel_rfl) (by kernel_rfl) (fun _ _ _ h => h) ?hd249 ?hw249 ?hy249 (by assumption) ?_
  case hi249 => (simp only [List.getElem?_toArray, List.getElem?_cons_zero, List.getElem?_cons_succ]; exact rfl)
  case hd249 => rfl
  case hw249 => rfl
  case hy249 => (intro w hSw; (try dsimp only at hSw); go_simp; try with_reducible rfl)
  try simp only [Act.put, List.setIfInBounds_toArray, List.set_cons_zero, List.set_cons_succ]
  refine take_yes (i := 4) (oi := ?o250) (d := (some 54)) (v := ?v250) ?hi250 (by kernel_rfl) (by kernel_rfl) (by kernel_rfl) (fun _ _ _ h => h) ?hd250 ?hw250 ?hy250 (by assumption) ?_
  case hi250 => (simp only [List.getElem?_toArray, List.getElem?_cons_zero, List.getElem?_cons_succ]; exact rfl)
  case hd250 => rfl
  case hw250 => rfl
  case hy250 => (intro w hSw; (try dsimp only at hSw); go_simp; try with_reducible rfl)
  try simp only [Act.put, List.setIfInBounds_toArray, List.set_cons_zero, List.set_cons_succ]
  refine take_yes (i := 5) (oi := ?o251) (d := (some 55)) (v := ?v251) ?hi251 (by kernel_rfl) (by kernel_rfl) (by kernel_rfl) (fun _ _ _ h => h) ?hd251 ?hw251 ?hy251 (by assumption) ?_
  case hi251 => (simp only [List.getElem?_toArray, List.getElem?_cons_zero, List.getElem?_cons_succ]; exact rfl)
  case hd251 => rfl
  case hw251 => rfl
  case hy251 => (intro w hSw; (try dsimp only at hSw); go_simp; try with_reducible rfl)
  try simp only [Act.put, List.setIfInBounds_toArray, List.set_cons_zero, List.set_cons_succ]
  refine take_yes (i := 6) (oi := ?o252) (d := (some 56)) (v := ?v252) ?hi252 (by kernel_rfl) (by kernel_rfl) (by kernel_rfl) (fun _ _ _ h => h) ?hd252 ?hw252 ?hy252 (by assumption) ?_
  case hi252 => (simp only [List.getElem?_toArray, List.getElem?_cons_zero, List.getElem?_cons_succ]; exact rfl)
  case hd252 => rfl
  case hw252 => rfl
  case hy252 => (intro w hSw; (try dsimp only at hSw); go_simp; try with_reducible rfl)
  try simp only [Act.put, List.setIfInBounds_toArray, List.set_cons_zero, List.set_cons_succ]
  refine take_yes (i := 7) (oi := ?o253) (d := (some 57)) (v := ?v253) ?hi253 (by kernel_rfl) (by kernel_rfl) (by kernel_rfl) (fun _ _ _ h => h) ?hd253 ?hw253 ?hy253 (by assumption) ?_
  case hi253 => (simp only [List.getElem?_toArray, List.getElem?_cons_zero, List.getElem?_cons_succ]; exact rfl)
  case hd253 => rfl
  case hw253 => rfl
  case hy253 => (intro w hSw; (try dsimp only at hSw); go_simp; try with_reducible rfl)
  try simp only [Act.put, List.setIfInBounds_toArray, List.set_cons_zero, List.set_cons_succ]
  refine take_yes (i := 8) (oi := ?o254) (d := (some 58)) (v := ?v254) ?hi254 (by kernel_rfl) (by kernel_rfl) (by kernel_rfl) (fun _ _ _ h => h) ?hd254 ?hw254 ?hy254 (by assumption) ?_
  case hi254 => (simp only [List.getElem?_toArray, List.getElem?_cons_zero, List.getElem?_cons_succ]; exact rfl)
  case hd254 => rfl
  case hw254 => rfl
  case hy254 => (intro w hSw; (try dsimp only at hSw); go_simp; try with_reducible rfl)
  try simp only [Act.put, List.setIfInBounds_toArray, List.set_cons_zero, List.set_cons_succ]
  refine take_yes (i := 9) (oi := ?o255) (d := (some 59)) (v := ?v255) ?hi255 (by kernel_rfl) (by kernel_rfl) (by kernel_rfl) (fun _ _ _ h => h) ?hd255 ?hw255 ?hy255 (by assumption) ?_
  case hi255 => (simp only [List.getElem?_toArray, List.getElem?_cons_zero, List.getElem?_cons_succ]; exact rfl)
  case hd255 => rfl
  case hw255 => rfl
  case hy255 => (intro w hSw; (try dsimp only at hSw); go_simp; try with_reducible rfl)
  try simp only [Act.put, List.setIfInBounds_toArray, List.set_cons_zero, List.set_cons_succ]
  refine take_yes (i := 10) (oi := ?o256) (d := (some 60)) (v := ?v256) ?hi256 (by kernel_rfl) (by kernel_rfl) (by kernel_rfl) (fun _ _ _ h => h) ?hd256 ?hw256 ?hy256 (by assumption) ?_
  case hi256 => (simp only [List.getElem?_toArray, List.getElem?_cons_zero, List.getElem?_cons_succ]; exact rfl)
  case hd256 => rfl
  case hw256 => rfl
  case hy256 => (intro w hSw; (try dsimp only at hSw); go_simp; try with_reducible rfl)
  try simp only [Act.put, List.setIfInBounds_toArray, List.set_cons_zero, List.set_cons_succ]
  refine take_yes (i := 11) (oi := ?o257) (d := (some 61)) (v := ?v257) ?hi257 (by kernel_rfl) (by kernel_rfl) (by kernel_rfl) (fun _ _ _ h => h) ?hd257 ?hw257 ?hy257 (by assumption) ?_
  case hi257 => (simp only [List.getElem?_toArray, List.getElem?_cons_zero, List.getElem?_cons_succ]; exact rfl)
  case hd257 => rfl
  case hw257 => rfl
  case hy257 => (intro w hSw; (try dsimp only at hSw); go_simp; try with_reducible rfl)
  try simp only [Act.put, List.setIfInBounds_toArray, List.set_cons_zero, List.set_cons_succ]
  refine take_yes (i := 12) (oi := ?o258) (d := (some 6)) (v := ?v258) ?hi258 (by kernel_rfl) (by kernel_rfl) (by kernel_rfl) (fun _ _ _ h => h) ?hd258 ?hw258 ?hy258 (by assumption) ?_
  case hi258 => (simp only [List.getElem?_toArray, List.getElem?_cons_zero, List.getElem?_cons_succ]; exact rfl)
  case hd258 => rfl
  case hw258 => rfl
  case hy258 => (intro w hSw; (try dsimp only at hSw); go_simp; try with_reducible rfl)
  try simp only [Act.put, List.setIfInBounds_toArray, List.set_cons_zero, List.set_cons_succ]
  refine wpAnyH_done (by kernel_rfl) ?_ _
  go_wp2_with fail
  go_ret
  exact ⟨rfl, ext_trans HB1.out (by first | exact ext_drew (Below.refl _ _) | exact ext_drew (ext_drew (Below.refl _ _)))⟩
set_option maxRecDepth 100000 in
set_option maxHeartbeats 2000000 in
theorem may_yes (S : Nat → Prop) (b n codes : Nat) (group next clock : Int) (L : List Bkg) (q : Parts) (id til last : Int) (i : Nat) (w : World) (h : BookAt S w b n codes group next clock L q) (c0 : decide (id ≤ last) = false) (c1 : decide (next ≤ id) = false) (hi : i < n) (hv : hasB q.ws i = false) (c6 : (til == 0) = false) (c7 : decide (clock < til) = true) (c8 : decide (til ≤ 1099511627776) = true) :
    Calls Tryz.prog 39 #[.pointer (some ⟨b, 0, none⟩), .agg #[.int .u32 id, .int .i64 (i : Int), .int .i64 til], .int .u32 last] w fun e w' => e = .returned (.bool true) ∧ Below w.heap.size w w' := by
  have hn4 : n ≤ 1024 := h.small.2.2.2.2
  have c2 : decide ((i : Int) < 0) = false := decide_eq_false (by omega)
  have c3 : decide ((n : Int) ≤ (i : Int)) = false := decide_eq_false (by omega)
  have c3n : decide (n ≤ i) = false := decide_eq_false (by omega)
  have HHV := Lib.hid hv
  clear hv
  have HH := Lib.hid h
  clear h
  go_enter Tryz.func39, Tryz.ntmps39
  go_wp2_with fail
  have hb1 : Below w.heap.size w (w.alloc (.cells #[.int .u32 id, .int .i64 (i : Int), .int .i64 til] 78)) := ext_alloc (Below.refl _ _) _
  have hA1 : Arr (w.alloc (.cells #[.int .u32 id, .int .i64 (i : Int), .int .i64 til] 78)) w.heap.size 78 #[.int .u32 id, .int .i64 (i : Int), .int .i64 til] := Arr.fresh w _ _
  obtain ⟨w1, hw1⟩ : ∃ w1, w.alloc (.cells #[.int .u32 id, .int .i64 (i : Int), .int .i64 til] 78) = w1 := ⟨_, rfl⟩
  obtain ⟨vb, hvb⟩ : ∃ vb, w.heap.size = vb := ⟨_, rfl⟩
  rw [hw1] at hb1 hA1 ⊢
  have HC1 := Lib.hid (HH.out.comp.below hb1)
  have HB1 := Lib.hid hb1
  clear hb1
  rw [hvb] at hA1 ⊢
  clear hw1 hvb
  have HCS : ∀ w', Below w1.heap.size w1 w' → (w'.cell? ⟨vb, 0, none⟩ = some (.int .u32 id) ∧ w'.cell? ⟨vb, 1, none⟩ = some (.int .i64 (i : Int)) ∧ w'.cell? ⟨vb, 2, none⟩ = some (.int .i64 til) ∧ w'.cell? ⟨b, 0, none⟩ = some (.int .i64 n) ∧ w'.cell? ⟨b, 4, none⟩ = some (.int .i64 clock) ∧ w'.cell? ⟨b, 5, none⟩ = some (.int .u32 next) ∧ w'.cell? ⟨b, 6, none⟩ = some (.pointer (some ⟨q.tp, 0, none⟩)) ∧ Below w1.heap.size w1 w') := fun w' hb => ⟨(hA1.keep hb).cell 0, (hA1.keep hb).cell 1, (hA1.keep hb).cell 2, (HC1.out.own.keep hb).cell 0, (HC1.out.own.keep hb).cell 4, (HC1.out.own.keep hb).cell 5, (HC1.out.own.keep hb).cell 6, hb⟩
  have HCS := Lib.hid HCS
  clear hA1
  refine wp_region_held_drew (S := (fun w' => w'.cell? ⟨vb, 0, none⟩ = some (.int .u32 id) ∧ w'.cell? ⟨vb, 1, none⟩ = some (.int .i64 (i : Int)) ∧ w'.cell? ⟨vb, 2, none⟩ = some (.int .i64 til) ∧ w'.cell? ⟨b, 0, none⟩ = some (.int .i64 n) ∧ w'.cell? ⟨b, 4, none⟩ = some (.int .i64 clock) ∧ w'.cell? ⟨b, 5, none⟩ = some (.int .u32 next) ∧ w'.cell? ⟨b, 6, none⟩ = some (.pointer (some ⟨q.tp, 0, none⟩)) ∧ Below w1.heap.size w1 w')) (by kernel_rfl) (by exact HCS.out _ (ext_drew (Below.refl _ _))) (fun hHeld => ?_)
  refine take_yes (i := 0) (oi := ?o335) (d := (some 8)) (v := ?v335) ?hi335 (by kernel_rfl) (by kernel_rfl) (by kernel_rfl) (fun _ _ _ h => h) ?hd335 ?hw335 ?hy335 (by assumption) ?_
  case hi335 => (simp only [List.getElem?_toArray, List.getElem?_cons_zero]; exact rfl)
  case hd335 => rfl
  case hw335 => rfl
  case hy335 => (intro w hSw; (try dsimp only at hSw); go_simp; try with_reducible rfl)
  try simp only [Act.put, List.setIfInBounds_toArray, List.set_cons_zero, List.set_cons_succ]
  refine take_yes (i := 1) (oi := ?o336) (d := (some 9)) (v := ?v336) ?hi336 (by kernel_rfl) (by kernel_rfl) (by kernel_rfl) (fun _ _ _ h => h) ?hd336 ?hw336 ?hy336 (by assumption) ?_
  case hi336 => (simp only [List.getElem?_toArray, List.getElem?_cons_zero, List.getElem?_cons_succ]; exact rfl)
  case hd336 => rfl
  case hw336 => rfl
  case hy336 => (intro w hSw; (try dsimp only at hSw); go_simp; try with_reducible rfl)
  try simp only [Act.put, List.setIfInBounds_toArray, List.set_cons_zero, List.set_cons_succ]
  refine take_yes (i := 2) (oi := ?o337) (d := (some 10)) (v := ?v337) ?hi337 (by kernel_rfl) (by kernel_rfl) (by kernel_rfl) (fun _ _ _ h => h) ?hd337 ?hw337 ?hy337 (by assumption) ?_
  case hi337 => (simp only [List.getElem?_toArray, List.getElem?_cons_zero, List.getElem?_cons_succ]; exact rfl)
  case hd337 => rfl
  case hw337 => rfl
  case hy337 => (intro w hSw; (try dsimp only at hSw); go_simp; try with_reducible rfl)
  try simp only [Act.put, List.setIfInBounds_toArray, List.set_cons_zero, List.set_cons_succ]
  refine take_yes (i := 3) (oi := ?o338) (d := (some 11)) (v := ?v338) ?hi338 (by kernel_rfl) (by kernel_rfl) (by kernel_rfl) (fun _ _ _ h => h) ?hd338 ?hw338 ?hy338 (by assumption) ?_
  case hi338 => (simp only [List.getElem?_toArray, List.getElem?_cons_zero, List.getElem?_cons_succ]; exact rfl)
  case hd338 => rfl
  case hw338 => rfl
  case hy338 => (intro w hSw; (try dsimp only at hSw); go_simp; try with_reducible rfl)
  try simp only [Act.put, List.setIfInBounds_toArray, List.set_cons_zero, List.set_cons_succ]
  refine take_yes (i := 4) (oi := ?o339) (d := (some 12)) (v := ?v339) ?hi339 (by kernel_rfl) (by kernel_rfl) (by kernel_rfl) (fun _ _ _ h => h) ?hd339 ?hw339 ?hy339 (by assumption) ?_
  case hi339 => (simp only [List.getElem?_toArray, List.getElem?_cons_zero, List.getElem?_cons_succ]; exact rfl)
  case hd339 => rfl
  case hw339 => rfl
  case hy339 => (intro w hSw; (try dsimp only at hSw); go_simp; try with_reducible rfl)
  try simp only [Act.put, List.setIfInBounds_toArray, List.set_cons_zero, List.set_cons_succ]
  refine take_yes (i := 5) (oi := ?o340) (d := (some 13)) (v := ?v340) ?hi340 (by kernel_rfl) (by kernel_rfl) (by kernel_rfl) (fun _ _ _ h => h) ?hd340 ?hw340 ?hy340 (by assumption) ?_
  case hi340 => (simp only [List.getElem?_toArray, List.getElem?_cons_zero, List.getElem?_cons_succ]; exact rfl)
  case hd340 => rfl
  case hw340 => rfl
  case hy340 => (intro w hSw; (try dsimp only at hSw); go_simp; try with_reducible rfl)
  try simp only [Act.put, List.setIfInBounds_toArray, List.set_cons_zero, List.set_cons_succ]
  refine take_yes (i := 6) (oi := ?o341) (d := (some 14)) (v := ?v341) ?hi341 (by kernel_rfl) (by kernel_rfl) (by kernel_rfl) (fun _ _ _ h => h) ?hd341 ?hw341 ?hy341 (by assumption) ?_
  case hi341 => (simp only [List.getElem?_toArray, List.getElem?_cons_zero, List.getElem?_cons_succ]; exact rfl)
  case hd341 => rfl
  case hw341 => rfl
  case hy341 => (intro w hSw; (try dsimp only at hSw); go_simp; try with_reducible rfl)
  try simp only [Act.put, List.setIfInBounds_toArray, List.set_cons_zero, List.set_cons_succ]
  refine take_yes (i := 7) (oi := ?o342) (d := (some 15)) (v := ?v342) ?hi342 (by kernel_rfl) (by kernel_rfl) (by kernel_rfl) (fun _ _ _ h => h) ?hd342 ?hw342 ?hy342 (by assumption) ?_
  case hi342 => (simp only [List.getElem?_toArray, List.getElem?_cons_zero, List.getElem?_cons_succ]; exact rfl)
  case hd342 => rfl
  case hw342 => rfl
  case hy342 => (intro w hSw; (try dsimp only at hSw); go_simp; try with_reducible rfl)
  try simp only [Act.put, List.setIfInBounds_toArray, List.set_cons_zero, List.set_cons_succ]
  refine take_yes (i := 8) (oi := ?o343) (d := (some 16)) (v := ?v343) ?hi343 (by kernel_rfl) (by kernel_rfl) (by kernel_rfl) (fun _ _ _ h => h) ?hd343 ?hw343 ?hy343 (by assumption) ?_
  case hi343 => (simp only [List.getElem?_toArray, List.getElem?_cons_zero, List.getElem?_cons_succ]; exact rfl)
  case hd343 => rfl
  case hw343 => rfl
  case hy343 => (intro w hSw; (try dsimp only at hSw); go_simp; try with_reducible rfl)
  try simp only [Act.put, List.setIfInBounds_toArray, List.set_cons_zero, List.set_cons_succ]
  refine take_yes (i := 9) (oi := ?o344) (d := (some 17)) (v := ?v344) ?hi344 (by kernel_rfl) (by kernel_rfl) (by kernel_rfl) (fun _ _ _ h => h) ?hd344 ?hw344 ?hy344 (by assumption) ?_
  case hi344 => (simp only [List.getElem?_toArray, List.getElem?_cons_zero, List.getElem?_cons_succ]; exact rfl)
  case hd344 => rfl
  case hw344 => rfl
  case hy344 => (intro w hSw; (try dsimp only at hSw); go_simp; try with_reducible rfl)
  try simp only [Act.put, List.setIfInBounds_toArray, List.set_cons_zero, List.set_cons_succ]
  refine take_yes (i := 10) (oi := ?o345) (d := (some 18)) (v := ?v345) ?hi345 (by kernel_rfl) (by kernel_rfl) (by kernel_rfl) (fun _ _ _ h => h) ?hd345 ?hw345 ?hy345 (by assumption) ?_
  case hi345 => (simp only [List.getElem?_toArray, List.getElem?_cons_zero, List.getElem?_cons_succ]; exact rfl)
  case hd345 => rfl
  case hw345 => rfl
  case hy345 => (intro w hSw; (try dsimp only at hSw); go_simp; try with_reducible rfl)
  try simp only [Act.put, List.setIfInBounds_toArray, List.set_cons_zero, List.set_cons_succ]
  refine take_yes (i := 11) (oi := ?o346) (d := (some 19)) (v := ?v346) ?hi346 (by kernel_rfl) (by kernel_rfl) (by kernel_rfl) (fun _ _ _ h => h) ?hd346 ?hw346 ?hy346 (by assumption) ?_
  case hi346 => (simp only [List.getElem?_toArray, List.getElem?_cons_zero, List.getElem?_cons_succ]; exact rfl)
  case hd346 => rfl
  case hw346 => rfl
  case hy346 => (intro w hSw; (try dsimp only at hSw); go_simp; try with_reducible rfl)
  try simp only [Act.put, List.setIfInBounds_toArray, List.set_cons_zero, List.set_cons_succ]
  refine take_yes (i := 12) (oi := ?o347) (d := (some 20)) (v := ?v347) ?hi347 (by kernel_rfl) (by kernel_rfl) (by kernel_rfl) (fun _ _ _ h => h) ?hd347 ?hw347 ?hy347 (by assumption) ?_
  case hi347 => (simp only [List.getElem?_toArray, List.getElem?_cons_zero, List.getElem?_cons_succ]; exact rfl)
  case hd347 => rfl
  case hw347 => rfl
  case hy347 => (intro w hSw; (try dsimp only at hSw); go_simp; try with_reducible rfl)
  try simp only [Act.put, List.setIfInBounds_toArray, List.set_cons_zero, List.set_cons_succ]
  refine take_yes (i := 13) (oi := ?o348) (d := (some 21)) (v := ?v348) ?hi348 (by kernel_rfl) (by kernel_rfl) (by kernel_rfl) (fun _ _ _ h => h) ?hd348 ?hw348 ?hy348 (by assumption) ?_
  case hi348 => (simp only [List.getElem?_toArray, List.getElem?_cons_zero, List.getElem?_cons_succ]; exact rfl)
  case hd348 => rfl
  case hw348 => rfl
  case hy348 => (intro w hSw; (try dsimp only at hSw); go_simp; try with_reducible rfl)
  try simp only [Act.put, List.setIfInBounds_toArray, List.set_cons_zero, List.set_cons_succ]
  refine take_yes (i := 14) (oi := ?o349) (d := (some 22)) (v := ?v349) ?hi349 (by kernel_rfl) (by kernel_rfl) (by kernel_rfl) (fun _ _ _ h => h) ?hd349 ?hw349 ?hy349 (by assumption) ?_
  case hi349 => (simp only [List.getElem?_toArray, List.getElem?_cons_zero, List.getElem?_cons_succ]; exact rfl)
  case hd349 => rfl
  case hw349 => rfl
  case hy349 => (intro w hSw; (try dsimp only at hSw); go_simp; try with_reducible rfl)
  try simp only [Act.put, List.setIfInBounds_toArray, List.set_cons_zero, List.set_cons_succ]
  refine take_yes (i := 15) (oi := ?o350) (d := (some 23)) (v := ?v350) ?hi350 (by kernel_rfl) (by kernel_rfl) (by kernel_rfl) (fun _ _ _ h => h) ?hd350 ?hw350 ?hy350 (by assumption) ?_
  case hi350 => (simp only [List.getElem?_toArray, List.getElem?_cons_zero, List.getElem?_cons_succ]; exact rfl)
  case hd350 => rfl
  case hw350 => rfl
  case hy350 => (intro w hSw; (try dsimp only at hSw); go_simp; try with_reducible rfl)
  try simp only [Act.put, List.setIfInBounds_toArray, List.set_cons_zero, List.set_cons_succ]
  refine take_yes (i := 16) (oi := ?o351) (d := (some 24)) (v := ?v351) ?hi351 (by kernel_rfl) (by kernel_rfl) (by kernel_rfl) (fun _ _ _ h => h) ?hd351 ?hw351 ?hy351 (by assumption) ?_
  case hi351 => (simp only [List.getElem?_toArray, List.getElem?_cons_zero, List.getElem?_cons_succ]; exact rfl)
  case hd351 => rfl
  case hw351 => rfl
  case hy351 => (intro w hSw; (try dsimp only at hSw); go_simp; try with_reducible rfl)
  try simp only [Act.put, List.setIfInBounds_toArray, List.set_cons_zero, List.set_cons_succ]
  refine take_yes (i := 17) (oi := ?o352) (d := (some 25)) (v := ?v352) ?hi352 (by kernel_rfl) (by kernel_rfl) (by kernel_rfl) (fun _ _ _ h => h) ?hd352 ?hw352 ?hy352 (by assumption) ?_
  case hi352 => (simp only [List.getElem?_toArray, List.getElem?_cons_zero, List.getElem?_cons_succ]; exact rfl)
  case hd352 => rfl
  case hw352 => rfl
  case hy352 => (intro w hSw; (try dsimp only at hSw); go_simp; try with_reducible rfl)
  try simp only [Act.put, List.setIfInBounds_toArray, List.set_cons_zero, List.set_cons_succ]
  refine take_yes (i := 18) (oi := ?o353) (d := (some 26)) (v := ?v353) ?hi353 (by kernel_rfl) (by kernel_rfl) (by kernel_rfl) (fun _ _ _ h => h) ?hd353 ?hw353 ?hy353 (by assumption) ?_
  case hi353 => (simp only [List.getElem?_toArray, List.getElem?_cons_zero, List.getElem?_cons_succ]; exact rfl)
  case hd353 => rfl
  case hw353 => rfl
  case hy353 => (intro w hSw; (try dsimp only at hSw); go_simp; try with_reducible rfl)
  try simp only [Act.put, List.setIfInBounds_toArray, List.set_cons_zero, List.set_cons_succ]
  refine take_yes (i := 19) (oi := ?o354) (d := (some 27)) (v := ?v354) ?hi354 (by kernel_rfl) (by kernel_rfl) (by kernel_rfl) (fun _ _ _ h => h) ?hd354 ?hw354 ?hy354 (by assumption) ?_
  case hi354 => (simp only [List.getElem?_toArray, List.getElem?_cons_zero, List.getElem?_cons_succ]; exact rfl)
  case hd354 => rfl
  case hw354 => rfl
  case hy354 => (intro w hSw; (try dsimp only at hSw); go_simp; try with_reducible rfl)
  try simp only [Act.put, List.setIfInBounds_toArray, List.set_cons_zero, List.set_cons_succ]
  refine take_yes (i := 20) (oi := ?o355) (d := (some 28)) (v := ?v355) ?hi355 (by kernel_rfl) (by kernel_rfl) (by kernel_rfl) (fun _ _ _ h => h) ?hd355 ?hw355 ?hy355 (by assumption) ?_
  case hi355 => (simp only [List.getElem?_toArray, List.getElem?_cons_zero, List.getElem?_cons_succ]; exact rfl)
  case hd355 => rfl
  case hw355 => rfl
  case hy355 => (intro w hSw; (try dsimp only at hSw); go_simp; try with_reducible rfl)
  try simp only [Act.put, List.setIfInBounds_toArray, List.set_cons_zero, List.set_cons_succ]
  refine take_yes (i := 21) (oi := ?o356) (d := (some 29)) (v := ?v356) ?hi356 (by kernel_rfl) (by kernel_rfl) (by kernel_rfl) (fun _ _ _ h => h) ?hd356 ?hw356 ?hy356 (by assumption) ?_
  case hi356 => (simp only [List.getElem?_toArray, List.getElem?_cons_zero, List.getElem?_cons_succ]; exact rfl)
  case hd356 => rfl
  case hw356 => rfl
  case hy356 => (intro w hSw; (try dsimp only at hSw); go_simp; try with_reducible rfl)
  try simp only [Act.put, List.setIfInBounds_toArray, List.set_cons_zero, List.set_cons_succ]
  refine take_yes (i := 22) (oi := ?o357) (d := (some 30)) (v := ?v357) ?hi357 (by kernel_rfl) (by kernel_rfl) (by kernel_rfl) (fun _ _ _ h => h) ?hd357 ?hw357 ?hy357 (by assumption) ?_
  case hi357 => (simp only [List.getElem?_toArray, List.getElem?_cons_zero, List.getElem?_cons_succ]; exact rfl)
  case hd357 => rfl
  case hw357 => rfl
  case hy357 => (intro w hSw; (try dsimp only at hSw); go_simp; try with_reducible rfl)
  try simp only [Act.put, List.setIfInBounds_toArray, List.set_cons_zero, List.set_cons_succ]
  refine take_yes (i := 23) (oi := ?o358) (d := (some 31)) (v := ?v358) ?hi358 (by kernel_rfl) (by kernel_rfl) (by kernel_rfl) (fun _ _ _ h => h) ?hd358 ?hw358 ?hy358 (by assumption) ?_
  case hi358 => (simp only [List.getElem?_toArray, List.getElem?_cons_zero, List.getElem?_cons_succ]; exact rfl)
  case hd358 => rfl
  case hw358 => rfl
  case hy358 => (intro w hSw; (try dsimp only at hSw); go_simp; try with_reducible rfl)
  try simp only [Act.put, List.setIfInBounds_toArray, List.set_cons_zero, List.set_cons_succ]
  refine take_yes (i := 24) (oi := ?o359) (d := (some 32)) (v := ?v359) ?hi359 (by kernel_rfl) (by kernel_rfl) (by kernel_rfl) (fun _ _ _ h => h) ?hd359 ?hw359 ?hy359 (by assumption) ?_
  case hi359 => (simp only [List.getElem?_toArray, List.getElem?_cons_zero, List.getElem?_cons_succ]; exact rfl)
  case hd359 => rfl
  case hw359 => rfl
  case hy359 => (intro w hSw; (try dsimp only at hSw); go_simp; try with_reducible rfl)
  try simp only [Act.put, List.setIfInBounds_toArray, List.set_cons_zero, List.set_cons_succ]
  refine take_yes (i := 25) (oi := ?o360) (d := (some 33)) (v := ?v360) ?hi360 (by kernel_rfl) (by kernel_rfl) (by kernel_rfl) (fun _ _ _ h => h) ?hd360 ?hw360 ?hy360 (by assumption) ?_
  case hi360 => (simp only [List.getElem?_toArray, List.getElem?_cons_zero, List.getElem?_cons_succ]; exact rfl)
  case hd360 => rfl
  case hw360 => rfl
  case hy360 => (intro w hSw; (try dsimp only at hSw); go_simp; try with_reducible rfl)
  try simp only [Act.put, List.setIfInBounds_toArray, List.set_cons_zero, List.set_cons_succ]
  refine take_yes (i := 26) (oi := ?o361) (d := (some 34)) (v := ?v361) ?hi361 (by kernel_rfl) (by kernel_rfl) (by kernel_rfl) (fun _ _ _ h => h) ?hd361 ?hw361 ?hy361 (by assumption) ?_
  case hi361 => (simp only [List.getElem?_toArray, List.getElem?_cons_zero, List.getElem?_cons_succ]; exact rfl)
  case hd361 => rfl
  case hw361 => rfl
  case hy361 => (intro w hSw; (try dsimp only at hSw); go_simp; try with_reducible rfl)
  try simp only [Act.put, List.setIfInBounds_toArray, List.set_cons_zero, List.set_cons_succ]
  refine take_yes (i := 27) (oi := ?o362) (d := (some 35)) (v := ?v362) ?hi362 (by kernel_rfl) (by kernel_rfl) (by kernel_rfl) (fun _ _ _ h => h) ?hd362 ?hw362 ?hy362 (by assumption) ?_
  case hi362 => (simp only [List.getElem?_toArray, List.getElem?_cons_zero, List.getElem?_cons_succ]; exact rfl)
  case hd362 => rfl
  case hw362 => rfl
  case hy362 => (intro w hSw; (try dsimp only at hSw); go_simp; try with_reducible rfl)
  try simp only [Act.put, List.setIfInBounds_toArray, List.set_cons_zero, List.set_cons_succ]
  refine take_yes (i := 28) (oi := ?o363) (d := (some 36)) (v := ?v363) ?hi363 (by kernel_rfl) (by kernel_rfl) (by kernel_rfl) (fun _ _ _ h => h) ?hd363 ?hw363 ?hy363 (by assumption) ?_
  case hi363 => (simp only [List.getElem?_toArray, List.getElem?_cons_zero, List.getElem?_cons_succ]; exact rfl)
  case hd363 => rfl
  case hw363 => rfl
  case hy363 => (intro w hSw; (try dsimp only at hSw); go_simp; try with_reducible rfl)
  try simp only [Act.put, List.setIfInBounds_toArray, List.set_cons_zero, List.set_cons_succ]
  refine take_yes (i := 29) (oi := ?o364) (d := (some 37)) (v := ?v364) ?hi364 (by kernel_rfl) (by kernel_rfl) (by kernel_rfl) (fun _ _ _ h => h) ?hd364 ?hw364 ?hy364 (by assumption) ?_
  case hi364 => (simp only [List.getElem?_toArray, List.getElem?_cons_zero, List.getElem?_cons_succ]; exact rfl)
  case hd364 => rfl
  case hw364 => rfl
  case hy364 => (intro w hSw; (try dsimp only at hSw); go_simp; try with_reducible rfl)
  try simp only [Act.put, List.setIfInBounds_toArray, List.set_cons_zero, List.set_cons_succ]
  refine take_yes (i := 30) (oi := ?o365) (d := (some 38)) (v := ?v365) ?hi365 (by kernel_rfl) (by kernel_rfl) (by kernel_rfl) (fun _ _ _ h => h) ?hd365 ?hw365 ?hy365 (by assumption) ?_
  case hi365 => (simp only [List.getElem?_toArray, List.getElem?_cons_zero, List.getElem?_cons_succ]; exact rfl)
  case hd365 => rfl
  case hw365 => rfl
  case hy365 => (intro w hSw; (try dsimp only at hSw); go_simp; try with_reducible rfl)
  try simp only [Act.put, List.setIfInBounds_toArray, List.set_cons_zero, List.set_cons_succ]
  refine take_yes (i := 31) (oi := ?o366) (d := (some 39)) (v := ?v366) ?hi366 (by kernel_rfl) (by kernel_rfl) (by kernel_rfl) (fun _ _ _ h => h) ?hd366 ?hw366 ?hy366 (by assumption) ?_
  case hi366 => (simp only [List.getElem?_toArray, List.getElem?_cons_zero, List.getElem?_cons_succ]; exact rfl)
  case hd366 => rfl
  case hw366 => rfl
  case hy366 => (intro w hSw; (try dsimp only at hSw); go_simp; try with_reducible rfl)
  try simp only [Act.put, List.setIfInBounds_toArray, List.set_cons_zero, List.set_cons_succ]
  refine take_yes (i := 32) (oi := ?o367) (d := (some 40)) (v := ?v367) ?hi367 (by kernel_rfl) (by kernel_rfl) (by kernel_rfl) (fun _ _ _ h => h) ?hd367 ?hw367 ?hy367 (by assumption) ?_
  case hi367 => (simp only [List.getElem?_toArray, List.getElem?_cons_zero, List.getElem?_cons_succ]; exact rfl)
  case hd367 => rfl
  case hw367 => rfl
  case hy367 => (intro w hSw; (try dsimp only at hSw); go_simp; try with_reducible rfl)
  try simp only [Act.put, List.setIfInBounds_toArray, List.set_cons_zero, List.set_cons_succ]
  refine take_yes (i := 33) (oi := ?o368) (d := (some 41)) (v := ?v368) ?hi368 (by kernel_rfl) (by kernel_rfl) (by kernel_rfl) (fun _ _ _ h => h) ?hd368 ?hw368 ?hy368 (by assumption) ?_
  case hi368 => (simp only [List.getElem?_toArray, List.getElem?_cons_zero, List.getElem?_cons_succ]; exact rfl)
  case hd368 => rfl
  case hw368 => rfl
  case hy368 => (intro w hSw; (try dsimp only at hSw); go_simp; try with_reducible rfl)
  try simp only [Act.put, List.setIfInBounds_toArray, List.set_cons_zero, List.set_cons_succ]
  refine take_yes (i := 34) (oi := ?o369) (d := (some 42)) (v := ?v369) ?hi369 (by kernel_rfl) (by kernel_rfl) (by kernel_rfl) (fun _ _ _ h => h) ?hd369 ?hw369 ?hy369 (by assumption) ?_
  case hi369 => (simp only [List.getElem?_toArray, List.getElem?_cons_zero, List.getElem?_cons_succ]; exact rfl)
  case hd369 => rfl
  case hw369 => rfl
  case hy369 => (intro w hSw; (try dsimp only at hSw); go_simp; try with_reducible rfl)
  try simp only [Act.put, List.setIfInBounds_toArray, List.set_cons_zero, List.set_cons_succ]
  refine take_yes (i := 35) (oi := ?o370) (d := (some 43)) (v := ?v370) ?hi370 (by kernel_rfl) (by kernel_rfl) (by kernel_rfl) (fun _ _ _ h => h) ?hd370 ?hw370 ?hy370 (by assumption) ?_
  case hi370 => (simp only [List.getElem?_toArray, List.getElem?_cons_zero, List.getElem?_cons_succ]; exact rfl)
  case hd370 => rfl
  case hw370 => rfl
  case hy370 => (intro w hSw; (try dsimp only at hSw); go_simp; try with_reducible rfl)
  try simp only [Act.put, List.setIfInBounds_toArray, List.set_cons_zero, List.set_cons_succ]
  refine wpAnyH_ready (rs := [36]) (by kernel_rfl) (by simp) ?_
  refine AllReadyH.cons rfl (fun K hK => ?_) AllReadyH.nil
  go_simp
  go_at_call 80
  refine (Bit.Has_in q.tp q.tg q.tc n i q.ws _ (HC1.out.below (ext_drew (Below.refl _ _))).taken hi (by omega)).mono ?_
  rintro e w3 ⟨rfl, hw3⟩
  rw [hw3, HHV.out]
  clear hw3 w3
  go_wp2_with fail
  refine hK.out _ _ (by first | assumption) (fun hHeld36 => ?_)
  clear hK K
  try simp only [Act.put, List.setIfInBounds_toArray, List.set_cons_zero, List.set_cons_succ]
  refine take_yes (i := 37) (oi := ?o371) (d := (some 45)) (v := ?v371) ?hi371 (by kernel_rfl) (by kernel_rfl) (by kernel_rfl) (fun _ _ _ h => h) ?hd371 ?hw371 ?hy371 (by assumption) ?_
  case hi371 => (simp only [List.getElem?_toArray, List.getElem?_cons_zero, List.getElem?_cons_succ]; exact rfl)
  case hd371 => rfl
  case hw371 => rfl
  case hy371 => (intro w hSw; (try dsimp only at hSw); go_simp; try with_reducible rfl)
  try simp only [Act.put, List.setIfInBounds_toArray, List.set_cons_zero, List.set_cons_succ]
  refine take_yes (i := 38) (oi := ?o372) (d := (some 7)) (v := ?v372) ?hi372 (by kernel_rfl) (by kernel_rfl) (by kernel_rfl) (fun _ _ _ h => h) ?hd372 ?hw372 ?hy372 (by assumption) ?_
  case hi372 => (simp only [List.getElem?_toArray, List.getElem?_cons_zero, List.getElem?_cons_succ]; exact rfl)
  case hd372 => rfl
  case hw372 => rfl
  case hy372 => (intro w hSw; (try dsimp only at hSw); go_simp; try with_reducible rfl)
  try simp only [Act.put, List.setIfInBounds_toArray, List.set_cons_zero, List.set_cons_succ]
  refine wpAnyH_done (by kernel_rfl) ?_ _
  go_wp2_with fail
  refine wp_region_held_drew (S := (fun w' => w'.cell? ⟨vb, 0, none⟩ = some (.int .u32 id) ∧ w'.cell? ⟨vb, 1, none⟩ = some (.int .i64 (i : Int)) ∧ w'.cell? ⟨vb, 2, none⟩ = some (.int .i64 til) ∧ w'.cell? ⟨b, 0, none⟩ = some (.int .i64 n) ∧ w'.cell? ⟨b, 4, none⟩ = some (.int .i64 clock) ∧ w'.cell? ⟨b, 5, none⟩ = some (.int .u32 next) ∧ w'.cell? ⟨b, 6, none⟩ = some (.pointer (some ⟨q.tp, 0, none⟩)) ∧ Below w1.heap.size w1 w')) (by kernel_rfl) (by exact HCS.out _ (ext_drew (ext_drew (Below.refl _ _)))) (fun hHeld => ?_)
  refine take_yes (i := 0) (oi := ?o246) (d := (some 50)) (v := ?v246) ?hi246 (by kernel_rfl) (by kernel_rfl) (by kernel_rfl) (fun _ _ _ h => h) ?hd246 ?hw246 ?hy246 (by assumption) ?_
  case hi246 => (simp only [List.getElem?_toArray, List.getElem?_cons_zero]; exact rfl)
  case hd246 => rfl
  case hw246 => rfl
  case hy246 => (intro w hSw; (try dsimp only at hSw); go_simp; try with_reducible rfl)
  try simp only [Act.put, List.setIfInBounds_toArray, List.set_cons_zero, List.set_cons_succ]
  refine take_yes (i := 1) (oi := ?o247) (d := (some 51)) (v := ?v247) ?hi247 (by kernel_rfl) (by kernel_rfl) (by kernel_rfl) (fun _ _ _ h => h) ?hd247 ?hw247 ?hy247 (by assumption) ?_
  case hi247 => (simp only [List.getElem?_toArray, List.getElem?_cons_zero, List.getElem?_cons_succ]; exact rfl)
  case hd247 => rfl
  case hw247 => rfl
  case hy247 => (intro w hSw; (try dsimp only at hSw); go_simp; try with_reducible rfl)
  try simp only [Act.put, List.setIfInBounds_toArray, List.set_cons_zero, List.set_cons_succ]
  refine take_yes (i := 2) (oi := ?o248) (d := (some 52)) (v := ?v248) ?hi248 (by kernel_rfl) (by kernel_rfl) (by kernel_rfl) (fun _ _ _ h => h) ?hd248 ?hw248 ?hy248 (by assumption) ?_
  case hi248 => (simp only [List.getElem?_toArray, List.getElem?_cons_zero, List.getElem?_cons_succ]; exact rfl)
  case hd248 => rfl
  case hw248 => rfl
  case hy248 => (intro w hSw; (try dsimp only at hSw); go_simp; try with_reducible rfl)
  try simp only [Act.put, List.setIfInBounds_toArray, List.set_cons_zero, List.set_cons_succ]
  refine take_yes (i := 3) (oi := ?o249) (d := (some 53)) (v := ?v249) ?hi249 (by kernel_rfl) (by kernel_rfl) (by kernel_rfl) (fun _ _ _ h => h) ?hd249 ?hw249 ?hy249 (by assumption) ?_
  case hi249 => (simp only [List.getElem?_toArray, List.getElem?_cons_zero, List.getElem?_cons_succ]; exact rfl)
  case hd249 => rfl
  case hw249 => rfl
  case hy249 => (intro w hSw; (try dsimp only at hSw); go_simp; try with_reducible rfl)
  try simp only [Act.put, List.setIfInBounds_toArray, List.set_cons_zero, List.set_cons_succ]
  refine take_yes (i := 4) (oi := ?o250) (d := (some 54)) (v := ?v250) ?hi250 (by kernel_rfl) (by kernel_rfl) (by kernel_rfl) (fun _ _ _ h => h) ?hd250 ?hw250 ?hy250 (by assumption) ?_
  case hi250 => (simp only [List.getElem?_toArray, List.getElem?_cons_zero, List.getElem?_cons_succ]; exact rfl)
  case hd250 => rfl
  case hw250 => rfl
  case hy250 => (intro w hSw; (try dsimp only at hSw); go_simp; try with_reducible rfl)
  try simp only [Act.put, List.setIfInBounds_toArray, List.set_cons_zero, List.set_cons_succ]
  refine take_yes (i := 5) (oi := ?o251) (d := (some 55)) (v := ?v251) ?hi251 (by kernel_rfl) (by kernel_rfl) (by kernel_rfl) (fun _ _ _ h => h) ?hd251 ?hw251 ?hy251 (by assumption) ?_
  case hi251 => (simp only [List.getElem?_toArray, List.getElem?_cons_zero, List.getElem?_cons_succ]; exact rfl)
  case hd251 => rfl
  case hw251 => rfl
  case hy251 => (intro w hSw; (try dsimp only at hSw); go_simp; try with_reducible rfl)
  try simp only [Act.put, List.setIfInBounds_toArray, List.set_cons_zero, List.set_cons_succ]
  refine take_yes (i := 6) (oi := ?o252) (d := (some 56)) (v := ?v252) ?hi252 (by kernel_rfl) (by kernel_rfl) (by kernel_rfl) (fun _ _ _ h => h) ?hd252 ?hw252 ?hy252 (by assumption) ?_
  case hi252 => (simp only [List.getElem?_toArray, List.getElem?_cons_zero, List.getElem?_cons_succ]; exact rfl)
  case hd252 => rfl
  case hw252 => rfl
  case hy252 => (intro w hSw; (try dsimp only at hSw); go_simp; try with_reducible rfl)
  try simp only [Act.put, List.setIfInBounds_toArray, List.set_cons_zero, List.set_cons_succ]
  refine take_yes (i := 7) (oi := ?o253) (d := (some 57)) (v := ?v253) ?hi253 (by kernel_rfl) (by kernel_rfl) (by kernel_rfl) (fun _ _ _ h => h) ?hd253 ?hw253 ?hy253 (by assumption) ?_
  case hi253 => (simp only [List.getElem?_toArray, List.getElem?_cons_zero, List.getElem?_cons_succ]; exact rfl)
  case hd253 => rfl
  case hw253 => rfl
  case hy253 => (intro w hSw; (try dsimp only at hSw); go_simp; try with_reducible rfl)
  try simp only [Act.put, List.setIfInBounds_toArray, List.set_cons_zero, List.set_cons_succ]
  refine take_yes (i := 8) (oi := ?o254) (d := (some 58)) (v := ?v254) ?hi254 (by kernel_rfl) (by kernel_rfl) (by kernel_rfl) (fun _ _ _ h => h) ?hd254 ?hw254 ?hy254 (by assumption) ?_
  case hi254 => (simp only [List.getElem?_toArray, List.getElem?_cons_zero, List.getElem?_cons_succ]; exact rfl)
  case hd254 => rfl
  case hw254 => rfl
  case hy254 => (intro w hSw; (try dsimp only at hSw); go_simp; try with_reducible rfl)
  try simp only [Act.put, List.setIfInBounds_toArray, List.set_cons_zero, List.set_cons_succ]
  refine take_yes (i := 9) (oi := ?o255) (d := (some 59)) (v := ?v255) ?hi255 (by kernel_rfl) (by kernel_rfl) (by kernel_rfl) (fun _ _ _ h => h) ?hd255 ?hw255 ?hy255 (by assumption) ?_
  case hi255 => (simp only [List.getElem?_toArray, List.getElem?_cons_zero, List.getElem?_cons_succ]; exact rfl)
  case hd255 => rfl
  case hw255 => rfl
  case hy255 => (intro w hSw; (try dsimp only at hSw); go_simp; try with_reducible rfl)
  try simp only [Act.put, List.setIfInBounds_toArray, List.set_cons_zero, List.set_cons_succ]
  refine take_yes (i := 10) (oi := ?o256) (d := (some 60)) (v := ?v256) ?hi256 (by kernel_rfl) (by kernel_rfl) (by kernel_rfl) (fun _ _ _ h => h) ?hd256 ?hw256 ?hy256 (by assumption) ?_
  case hi256 => (simp only [List.getElem?_toArray, List.getElem?_cons_zero, List.getElem?_cons_succ]; exact rfl)
  case hd256 => rfl
  case hw256 => rfl
  case hy256 => (intro w hSw; (try dsimp only at hSw); go_simp; try with_reducible rfl)
  try simp only [Act.put, List.setIfInBounds_toArray, List.set_cons_zero, List.set_cons_succ]
  refine take_yes (i := 11) (oi := ?o257) (d := (some 61)) (v := ?v257) ?hi257 (by kernel_rfl) (by kernel_rfl) (by kernel_rfl) (fun _ _ _ h => h) ?hd257 ?hw257 ?hy257 (by assumption) ?_
  case hi257 => (simp only [List.getElem?_toArray, List.getElem?_cons_zero, List.getElem?_cons_succ]; exact rfl)
  case hd257 => rfl
  case hw257 => rfl
  case hy257 => (intro w hSw; (try dsimp only at hSw); go_simp; try with_reducible rfl)
  try simp only [Act.put, List.setIfInBounds_toArray, List.set_cons_zero, List.set_cons_succ]
  refine take_yes (i := 12) (oi := ?o258) (d := (some 6)) (v := ?v258) ?hi258 (by kernel_rfl) (by kernel_rfl) (by kernel_rfl) (fun _ _ _ h => h) ?hd258 ?hw258 ?hy258 (by assumption) ?_
  case hi258 => (simp only [List.getElem?_toArray, List.getElem?_cons_zero, List.getElem?_cons_succ]; exact rfl)
  case hd258 => rfl
  case hw258 => rfl
  case hy258 => (intro w hSw; (try dsimp only at hSw); go_simp; try with_reducible rfl)
  try simp only [Act.put, List.setIfInBounds_toArray, List.set_cons_zero, List.set_cons_succ]
  refine wpAnyH_done (by kernel_rfl) ?_ _
  go_wp2_with fail
  go_ret
  exact ⟨rfl, ext_trans HB1.out (by first | exact ext_drew (Below.refl _ _) | exact ext_drew (ext_drew (Below.refl _ _)))⟩

end Go.Proofs.YtpoijhjjbmaedaaGreatDoor.Bk
