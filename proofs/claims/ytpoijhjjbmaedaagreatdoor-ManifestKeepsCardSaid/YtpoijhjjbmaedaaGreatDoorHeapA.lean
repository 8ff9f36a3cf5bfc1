/- Packed: Heap Heap2 -/
import Derived.Test.YtpoijhjjbmaedaaGreatDoorPlainA
import Derived.Test.YtpoijhjjbmaedaaGreatDoorKitA
import Derived.Test.YtpoijhjjbmaedaaGreatDoorChecked
import Derived.StillTailTactics
set_option linter.unusedVariables false
set_option linter.unusedSimpArgs false
/- Heap: The heap of what is due: the order, ahead, swap. -/
section
namespace Go.Proofs.YtpoijhjjbmaedaaGreatDoor.Hp
open Go.RowKit

def lessV : Value := .func (.func 79) #[] #[]
def dueC (x : Due) : Array Value := #[.int .i64 x.til, .int .u32 x.id]
def itemL (f : Nat → Due) (i : Nat) : List Value := [.int .i64 (f i).til, .int .u32 (f i).id, .int .i64 (f i).handle]
theorem itemL_len (f : Nat → Due) (i : Nat) : (itemL f i).length = 3 := rfl

set_option maxRecDepth 100000 in
set_option maxHeartbeats 1000000 in
theorem Less_in (a b c d : Int) (w : World) : Calls Tryz.prog 79 #[.agg #[.int .i64 a, .int .u32 b], .agg #[.int .i64 c, .int .u32 d]] w fun e w' => e = .returned (.bool (decide (a < c) || (a == c && decide (b < d)))) ∧ Below w.heap.size w w' := by
  have hb : Below w.heap.size w ((w.alloc (.cells #[.int .i64 a, .int .u32 b] 151)).alloc (.cells #[.int .i64 c, .int .u32 d] 151)) := ext_alloc (ext_alloc (Below.refl _ _) _) _
  have HB := Lib.hid hb
  clear hb
  by_cases h1 : a < c
  · have q1 : decide (a < c) = true := decide_eq_true h1
    go_enter Tryz.func79, Tryz.ntmps79
    go_wp2_with fail
    go_ret
    exact ⟨by simp [h1], HB.out⟩
  · have q1 : decide (a < c) = false := decide_eq_false h1
    by_cases h2 : a = c
    · have q2 : (a == c) = true := by simpa using h2
      by_cases h3 : b < d
      · have q3 : decide (b < d) = true := decide_eq_true h3
        have H := Lib.hid (And.intro h1 (And.intro h2 h3))
        clear h1 h2 h3
        go_enter Tryz.func79, Tryz.ntmps79
        go_wp2_with fail
        go_ret
        exact ⟨by simp [H.out.2.1, H.out.2.2], HB.out⟩
      · have q3 : decide (b < d) = false := decide_eq_false h3
        have H := Lib.hid (And.intro h1 (And.intro h2 h3))
        clear h1 h2 h3
        go_enter Tryz.func79, Tryz.ntmps79
        go_wp2_with fail
        go_ret
        exact ⟨by simp [q1, q2, q3], HB.out⟩
    · have q2 : (a == c) = false := by simpa using h2
      have H := Lib.hid (And.intro h1 h2)
      clear h1 h2
      go_enter Tryz.func79, Tryz.ntmps79
      go_wp2_with fail
      go_ret
      exact ⟨by simp [q1, q2], HB.out⟩

end Go.Proofs.YtpoijhjjbmaedaaGreatDoor.Hp
end

/- Heap2: The heap of what is due: ahead. -/
section
namespace Go.Proofs.YtpoijhjjbmaedaaGreatDoor.Hp
open Go.RowKit

set_option maxRecDepth 100000 in
set_option maxHeartbeats 2000000 in
theorem ahead_raw (p g cap l i k : Nat) (a1 a2 a3 b1 b2 b3 : Int) (w : World) (x0 : w.cell? ⟨p, 0, none⟩ = some lessV) (x1 : w.cell? ⟨p, 1, none⟩ = some (.slice (some ⟨g, 0, none⟩) l cap))
    (y1 : w.cell? ⟨g, i * 3, none⟩ = some (.int .i64 a1)) (y2 : w.cell? ⟨g, i * 3 + 1, none⟩ = some (.int .u32 a2)) (y3 : w.cell? ⟨g, i * 3 + 2, none⟩ = some (.int .i64 a3))
    (z1 : w.cell? ⟨g, k * 3, none⟩ = some (.int .i64 b1)) (z2 : w.cell? ⟨g, k * 3 + 1, none⟩ = some (.int .u32 b2)) (z3 : w.cell? ⟨g, k * 3 + 2, none⟩ = some (.int .i64 b3)) (hi : i < l) (hk : k < l) (hl : l ≤ 70000) (hcap : cap ≤ maxLen) (hpl : p < w.heap.size) (hgl : g < w.heap.size) :
    Calls Tryz.prog 166 #[.pointer (some ⟨p, 0, none⟩), .int .i64 i, .int .i64 k] w fun e w' => e = .returned (.bool (lessD ⟨a1, a2, a3⟩ ⟨b1, b2, b3⟩ || (!lessD ⟨b1, b2, b3⟩ ⟨a1, a2, a3⟩ && decide (a3 < b3)))) ∧ Below w.heap.size w w' := by
  have HCS : ∀ w', Below w.heap.size w w' → (w'.cell? ⟨p, 1, none⟩ = some (.slice (some ⟨g, 0, none⟩) l cap) ∧ w'.cell? ⟨g, i * 3, none⟩ = some (.int .i64 a1) ∧ w'.cell? ⟨g, i * 3 + 1, none⟩ = some (.int .u32 a2) ∧ w'.cell? ⟨g, i * 3 + 2, none⟩ = some (.int .i64 a3) ∧ w'.cell? ⟨g, k * 3, none⟩ = some (.int .i64 b1) ∧ w'.cell? ⟨g, k * 3 + 1, none⟩ = some (.int .u32 b2) ∧ w'.cell? ⟨g, k * 3 + 2, none⟩ = some (.int .i64 b3) ∧ Below w.heap.size w w') := fun w' hb =>
    ⟨(hb.cell (p := ⟨p, 1, none⟩) hpl).trans x1, (hb.cell (p := ⟨g, i * 3, none⟩) hgl).trans y1, (hb.cell (p := ⟨g, i * 3 + 1, none⟩) hgl).trans y2, (hb.cell (p := ⟨g, i * 3 + 2, none⟩) hgl).trans y3, (hb.cell (p := ⟨g, k * 3, none⟩) hgl).trans z1, (hb.cell (p := ⟨g, k * 3 + 1, none⟩) hgl).trans z2, (hb.cell (p := ⟨g, k * 3 + 2, none⟩) hgl).trans z3, hb⟩
  have hi1 : (i : Int) < (l : Int) := by omega
  have hk1 : (k : Int) < (l : Int) := by omega
  have hi0 : (0 : Int) ≤ (i : Int) := by omega
  have hk0 : (0 : Int) ≤ (k : Int) := by omega
  have HL1 : ∀ v, lessD ⟨a1, a2, a3⟩ ⟨b1, b2, b3⟩ = v → ∀ W, Calls Tryz.prog 79 #[.agg #[.int .i64 a1, .int .u32 a2], .agg #[.int .i64 b1, .int .u32 b2]] W fun e w' => e = .returned (.bool v) ∧ Below W.heap.size W w' := fun v hv W => hv ▸ Less_in a1 a2 b1 b2 W
  have HL2 : ∀ v, lessD ⟨b1, b2, b3⟩ ⟨a1, a2, a3⟩ = v → ∀ W, Calls Tryz.prog 79 #[.agg #[.int .i64 b1, .int .u32 b2], .agg #[.int .i64 a1, .int .u32 a2]] W fun e w' => e = .returned (.bool v) ∧ Below W.heap.size W w' := fun v hv W => hv ▸ Less_in b1 b2 a1 a2 W
  have HL1 := Lib.hid HL1
  have HL2 := Lib.hid HL2
  have HX0 := Lib.hid x0
  clear x0 y1 y2 y3 z1 z2 z3 x1 hi hk
  rw [show lessV = .func (.func 79) #[] #[] from rfl] at HX0
  go_enter Tryz.func166, Tryz.ntmps166
  go_wp2_with fail
  refine wp_region_held_drew (S := (fun w' => w'.cell? ⟨p, 1, none⟩ = some (.slice (some ⟨g, 0, none⟩) l cap) ∧ w'.cell? ⟨g, i * 3, none⟩ = some (.int .i64 a1) ∧ w'.cell? ⟨g, i * 3 + 1, none⟩ = some (.int .u32 a2) ∧ w'.cell? ⟨g, i * 3 + 2, none⟩ = some (.int .i64 a3) ∧ w'.cell? ⟨g, k * 3, none⟩ = some (.int .i64 b1) ∧ w'.cell? ⟨g, k * 3 + 1, none⟩ = some (.int .u32 b2) ∧ w'.cell? ⟨g, k * 3 + 2, none⟩ = some (.int .i64 b3) ∧ Below w.heap.size w w')) (by kernel_rfl) (by exact HCS _ (ext_drew (Below.refl _ _))) (fun hHeld => ?_)
  refine take_yes (i := 0) (oi := ?o1) (d := (some 9)) (v := ?v1) ?hi1 (by kernel_rfl) (by kernel_rfl) (by kernel_rfl) (fun _ _ _ h => h) ?hd1 ?hw1 ?hy1 (by assumption) ?_
  case hi1 => (simp only [List.getElem?_toArray, List.getElem?_cons_zero]; exact rfl)
  case hd1 => rfl
  case hw1 => rfl
  case hy1 => (intro w hSw; (try dsimp only at hSw); go_simp; try with_reducible rfl)
  try simp only [Act.put, List.setIfInBounds_toArray, List.set_cons_zero, List.set_cons_succ]
  refine take_yes (i := 1) (oi := ?o2) (d := (some 10)) (v := ?v2) ?hi2 (by kernel_rfl) (by kernel_rfl) (by kernel_rfl) (fun _ _ _ h => h) ?hd2 ?hw2 ?hy2 (by assumption) ?_
  case hi2 => (simp only [List.getElem?_toArray, List.getElem?_cons_zero, List.getElem?_cons_succ]; exact rfl)
  case hd2 => rfl
  case hw2 => rfl
  case hy2 => (intro w hSw; (try dsimp only at hSw); go_simp; try with_reducible rfl)
  try simp only [Act.put, List.setIfInBounds_toArray, List.set_cons_zero, List.set_cons_succ]
  refine take_yes (i := 2) (oi := ?o3) (d := (some 11)) (v := ?v3) ?hi3 (by kernel_rfl) (by kernel_rfl) (by kernel_rfl) (fun _ _ _ h => h) ?hd3 ?hw3 ?hy3 (by assumption) ?_
  case hi3 => (simp only [List.getElem?_toArray, List.getElem?_cons_zero, List.getElem?_cons_succ]; exact rfl)
  case hd3 => rfl
  case hw3 => rfl
  case hy3 => (intro w hSw; (try dsimp only at hSw); go_simp; try with_reducible rfl)
  try simp only [Act.put, List.setIfInBounds_toArray, List.set_cons_zero, List.set_cons_succ]
  refine take_yes (i := 3) (oi := ?o4) (d := (some 12)) (v := ?v4) ?hi4 (by kernel_rfl) (by kernel_rfl) (by kernel_rfl) (fun _ _ _ h => h) ?hd4 ?hw4 ?hy4 (by assumption) ?_
  case hi4 => (simp only [List.getElem?_toArray, List.getElem?_cons_zero, List.getElem?_cons_succ]; exact rfl)
  case hd4 => rfl
  case hw4 => rfl
  case hy4 => (intro w hSw; (try dsimp only at hSw); go_simp; try with_reducible rfl)
  try simp only [Act.put, List.setIfInBounds_toArray, List.set_cons_zero, List.set_cons_succ]
  refine take_yes (i := 4) (oi := ?o5) (d := (some 13)) (v := ?v5) ?hi5 (by kernel_rfl) (by kernel_rfl) (by kernel_rfl) (fun _ _ _ h => h) ?hd5 ?hw5 ?hy5 (by assumption) ?_
  case hi5 => (simp only [List.getElem?_toArray, List.getElem?_cons_zero, List.getElem?_cons_succ]; exact rfl)
  case hd5 => rfl
  case hw5 => rfl
  case hy5 => (intro w hSw; (try dsimp only at hSw); go_simp; try with_reducible rfl)
  try simp only [Act.put, List.setIfInBounds_toArray, List.set_cons_zero, List.set_cons_succ]
  refine take_yes (i := 5) (oi := ?o6) (d := (some 14)) (v := ?v6) ?hi6 (by kernel_rfl) (by kernel_rfl) (by kernel_rfl) (fun _ _ _ h => h) ?hd6 ?hw6 ?hy6 (by assumption) ?_
  case hi6 => (simp only [List.getElem?_toArray, List.getElem?_cons_zero, List.getElem?_cons_succ]; exact rfl)
  case hd6 => rfl
  case hw6 => rfl
  case hy6 => (intro w hSw; (try dsimp only at hSw); go_simp; try with_reducible rfl)
  try simp only [Act.put, List.setIfInBounds_toArray, List.set_cons_zero, List.set_cons_succ]
  refine take_yes (i := 6) (oi := ?o7) (d := (some 15)) (v := ?v7) ?hi7 (by kernel_rfl) (by kernel_rfl) (by kernel_rfl) (fun _ _ _ h => h) ?hd7 ?hw7 ?hy7 (by assumption) ?_
  case hi7 => (simp only [List.getElem?_toArray, List.getElem?_cons_zero, List.getElem?_cons_succ]; exact rfl)
  case hd7 => rfl
  case hw7 => rfl
  case hy7 => (intro w hSw; (try dsimp only at hSw); go_simp; try with_reducible rfl)
  try simp only [Act.put, List.setIfInBounds_toArray, List.set_cons_zero, List.set_cons_succ]
  refine take_yes (i := 7) (oi := ?o8) (d := (some 16)) (v := ?v8) ?hi8 (by kernel_rfl) (by kernel_rfl) (by kernel_rfl) (fun _ _ _ h => h) ?hd8 ?hw8 ?hy8 (by assumption) ?_
  case hi8 => (simp only [List.getElem?_toArray, List.getElem?_cons_zero, List.getElem?_cons_succ]; exact rfl)
  case hd8 => rfl
  case hw8 => rfl
  case hy8 => (intro w hSw; (try dsimp only at hSw); go_simp; try with_reducible rfl)
  try simp only [Act.put, List.setIfInBounds_toArray, List.set_cons_zero, List.set_cons_succ]
  refine take_yes (i := 8) (oi := ?o9) (d := (some 17)) (v := ?v9) ?hi9 (by kernel_rfl) (by kernel_rfl) (by kernel_rfl) (fun _ _ _ h => h) ?hd9 ?hw9 ?hy9 (by assumption) ?_
  case hi9 => (simp only [List.getElem?_toArray, List.getElem?_cons_zero, List.getElem?_cons_succ]; exact rfl)
  case hd9 => rfl
  case hw9 => rfl
  case hy9 => (intro w hSw; (try dsimp only at hSw); go_simp; try with_reducible rfl)
  try simp only [Act.put, List.setIfInBounds_toArray, List.set_cons_zero, List.set_cons_succ]
  refine take_yes (i := 9) (oi := ?o10) (d := (some 18)) (v := ?v10) ?hi10 (by kernel_rfl) (by kernel_rfl) (by kernel_rfl) (fun _ _ _ h => h) ?hd10 ?hw10 ?hy10 (by assumption) ?_
  case hi10 => (simp only [List.getElem?_toArray, List.getElem?_cons_zero, List.getElem?_cons_succ]; exact rfl)
  case hd10 => rfl
  case hw10 => rfl
  case hy10 => (intro w hSw; (try dsimp only at hSw); go_simp; try with_reducible rfl)
  try simp only [Act.put, List.setIfInBounds_toArray, List.set_cons_zero, List.set_cons_succ]
  refine take_yes (i := 10) (oi := ?o11) (d := (some 19)) (v := ?v11) ?hi11 (by kernel_rfl) (by kernel_rfl) (by kernel_rfl) (fun _ _ _ h => h) ?hd11 ?hw11 ?hy11 (by assumption) ?_
  case hi11 => (simp only [List.getElem?_toArray, List.getElem?_cons_zero, List.getElem?_cons_succ]; exact rfl)
  case hd11 => rfl
  case hw11 => rfl
  case hy11 => (intro w hSw; (try dsimp only at hSw); go_simp; try with_reducible rfl)
  try simp only [Act.put, List.setIfInBounds_toArray, List.set_cons_zero, List.set_cons_succ]
  refine take_yes (i := 11) (oi := ?o12) (d := (some 20)) (v := ?v12) ?hi12 (by kernel_rfl) (by kernel_rfl) (by kernel_rfl) (fun _ _ _ h => h) ?hd12 ?hw12 ?hy12 (by assumption) ?_
  case hi12 => (simp only [List.getElem?_toArray, List.getElem?_cons_zero, List.getElem?_cons_succ]; exact rfl)
  case hd12 => rfl
  case hw12 => rfl
  case hy12 => (intro w hSw; (try dsimp only at hSw); go_simp; try with_reducible rfl)
  try simp only [Act.put, List.setIfInBounds_toArray, List.set_cons_zero, List.set_cons_succ]
  refine take_yes (i := 12) (oi := ?o13) (d := (some 21)) (v := ?v13) ?hi13 (by kernel_rfl) (by kernel_rfl) (by kernel_rfl) (fun _ _ _ h => h) ?hd13 ?hw13 ?hy13 (by assumption) ?_
  case hi13 => (simp only [List.getElem?_toArray, List.getElem?_cons_zero, List.getElem?_cons_succ]; exact rfl)
  case hd13 => rfl
  case hw13 => rfl
  case hy13 => (intro w hSw; (try dsimp only at hSw); go_simp; try with_reducible rfl)
  try simp only [Act.put, List.setIfInBounds_toArray, List.set_cons_zero, List.set_cons_succ]
  refine take_yes (i := 13) (oi := ?o14) (d := (some 22)) (v := ?v14) ?hi14 (by kernel_rfl) (by kernel_rfl) (by kernel_rfl) (fun _ _ _ h => h) ?hd14 ?hw14 ?hy14 (by assumption) ?_
  case hi14 => (simp only [List.getElem?_toArray, List.getElem?_cons_zero, List.getElem?_cons_succ]; exact rfl)
  case hd14 => rfl
  case hw14 => rfl
  case hy14 => (intro w hSw; (try dsimp only at hSw); go_simp; try with_reducible rfl)
  try simp only [Act.put, List.setIfInBounds_toArray, List.set_cons_zero, List.set_cons_succ]
  refine wpAnyH_ready (rs := [14, 15]) (by kernel_rfl) (by simp) ?_
  refine AllReadyH.cons rfl (fun K hK => ?_) (AllReadyH.cons rfl (fun K hK => ?_) AllReadyH.nil)
  · go_simp
    go_wp2_with fail
    refine hK.out _ _ (by first | exact HCS _ (ext_alloc (ext_alloc (ext_drew (Below.refl _ _)) _) _) | exact HCS _ (ext_alloc (ext_drew (Below.refl _ _)) _)) (fun hHeld14 => ?_)
    clear hK K
    try simp only [Act.put, List.setIfInBounds_toArray, List.set_cons_zero, List.set_cons_succ]
    refine wpAnyH_ready (rs := [15]) (by kernel_rfl) (by simp) ?_
    refine AllReadyH.cons rfl (fun K hK => ?_) AllReadyH.nil
    go_simp
    go_wp2_with fail
    refine hK.out _ _ (by first | exact HCS _ (ext_alloc (ext_alloc (ext_drew (Below.refl _ _)) _) _) | exact HCS _ (ext_alloc (ext_drew (Below.refl _ _)) _)) (fun hHeld15 => ?_)
    clear hK K
    try simp only [Act.put, List.setIfInBounds_toArray, List.set_cons_zero, List.set_cons_succ]
    refine wpAnyH_ready (rs := [16]) (by kernel_rfl) (by simp) ?_
    refine AllReadyH.cons rfl (fun K hK => ?_) AllReadyH.nil
    go_simp
    go_wp2_with fail
    refine hK.out _ _ (by first | exact HCS _ (ext_alloc (ext_alloc (ext_drew (Below.refl _ _)) _) _) | exact HCS _ (ext_alloc (ext_drew (Below.refl _ _)) _)) (fun hHeld16 => ?_)
    clear hK K
    try simp only [Act.put, List.setIfInBounds_toArray, List.set_cons_zero, List.set_cons_succ]
    refine wpAnyH_ready (rs := [17]) (by kernel_rfl) (by simp) ?_
    refine AllReadyH.cons rfl (fun K hK => ?_) AllReadyH.nil
    go_simp
    go_wp2_with fail
    refine hK.out _ _ (by first | exact HCS _ (ext_alloc (ext_alloc (ext_drew (Below.refl _ _)) _) _) | exact HCS _ (ext_alloc (ext_drew (Below.refl _ _)) _)) (fun hHeld17 => ?_)
    clear hK K
    try simp only [Act.put, List.setIfInBounds_toArray, List.set_cons_zero, List.set_cons_succ]
    refine wpAnyH_done (by kernel_rfl) ?_ _
    go_wp2_with fail
    have hA1 : Arr (((w.alloc (.cells #[.int .i64 a1, .int .u32 a2, .int .i64 a3] 216)).alloc (.cells #[.int .i64 b1, .int .u32 b2, .int .i64 b3] 216)).drew) w.heap.size 216 #[.int .i64 a1, .int .u32 a2, .int .i64 a3] := (Arr.alloc (Arr.fresh w _ _) _).drew
    have hA2 : Arr (((w.alloc (.cells #[.int .i64 a1, .int .u32 a2, .int .i64 a3] 216)).alloc (.cells #[.int .i64 b1, .int .u32 b2, .int .i64 b3] 216)).drew) (w.heap.size + 1) 216 #[.int .i64 b1, .int .u32 b2, .int .i64 b3] := (Arr.new (by simp)).drew
    have hB2 : Below w.heap.size w (((w.alloc (.cells #[.int .i64 a1, .int .u32 a2, .int .i64 a3] 216)).alloc (.cells #[.int .i64 b1, .int .u32 b2, .int .i64 b3] 216)).drew) := ext_drew (ext_alloc (ext_alloc (Below.refl _ _) _) _)
    obtain ⟨w2, hw2⟩ : ∃ w2, ((w.alloc (.cells #[.int .i64 a1, .int .u32 a2, .int .i64 a3] 216)).alloc (.cells #[.int .i64 b1, .int .u32 b2, .int .i64 b3] 216)).drew = w2 := ⟨_, rfl⟩
    rw [hw2] at hA1 hA2 hB2 ⊢
    clear hw2
    obtain ⟨q7, hq1⟩ : ∃ q, w.heap.size = q := ⟨_, rfl⟩
    obtain ⟨q8, hq2⟩ : ∃ q, w.heap.size + 1 = q := ⟨_, rfl⟩
    have HB2 := Lib.hid hB2
    clear hB2
    rw [hq1] at hA1
    rw [hq2] at hA2
    have hp2 := HB2.out.cell (p := ⟨p, 0, none⟩) hpl
    have HCS2 : ∀ w', Below w2.heap.size w2 w' → (w'.cell? ⟨p, 0, none⟩ = some (.func (.func 79) #[] #[]) ∧ w'.cell? ⟨q7, 0, none⟩ = some (.int .i64 a1) ∧ w'.cell? ⟨q7, 1, none⟩ = some (.int .u32 a2) ∧ w'.cell? ⟨q7, 2, none⟩ = some (.int .i64 a3) ∧ w'.cell? ⟨q8, 0, none⟩ = some (.int .i64 b1) ∧ w'.cell? ⟨q8, 1, none⟩ = some (.int .u32 b2) ∧ w'.cell? ⟨q8, 2, none⟩ = some (.int .i64 b3) ∧ Below w2.heap.size w2 w') := fun w' hb =>
      ⟨(hb.cell (p := ⟨p, 0, none⟩) (Nat.lt_of_lt_of_le hpl HB2.out.size)).trans (hp2.trans HX0.out), (hA1.keep hb).cell 0, (hA1.keep hb).cell 1, (hA1.keep hb).cell 2, (hA2.keep hb).cell 0, (hA2.keep hb).cell 1, (hA2.keep hb).cell 2, hb⟩
    have HCS2 := Lib.hid HCS2
    simp only [hq2]
    simp only [hq1]
    clear hp2 hA1 hA2 hq1 hq2
    have HW := Lib.hid HCS
    clear HCS hHeld17
    obtain ⟨k0, k1, k2, k3, k4, k5, k6, _⟩ := HCS2.out _ (Below.refl _ _)
    cases h1 : lessD ⟨a1, a2, a3⟩ ⟨b1, b2, b3⟩
    case true =>
          go_still_tail 8, (by kernel_rfl)
          change wpList _ _ _ _ _ w2.drew
          obtain ⟨w3, hw3⟩ : ∃ w3, w2.drew = w3 := ⟨_, rfl⟩
          have hb3 : Below w2.heap.size w2 w3 := by rw [← hw3]; exact ext_drew (Below.refl _ _)
          rw [hw3]
          clear hw3
          go_wp2_with fail
          refine (HL1.out true h1 _).mono ?_
          rintro e w4 ⟨rfl, hb4⟩
          have hb4' := ext_trans hb3 hb4
          obtain ⟨k0, k1, k2, k3, k4, k5, k6, _⟩ := HCS2.out _ hb4'
          go_wp2_with fail
          go_ret
          exact ⟨by rw [h1]; rfl, ext_trans HB2.out (hb4')⟩
    case false =>
      cases h2 : lessD ⟨b1, b2, b3⟩ ⟨a1, a2, a3⟩
      case true =>
          go_still_tail 8, (by kernel_rfl)
          change wpList _ _ _ _ _ w2.drew
          obtain ⟨w3, hw3⟩ : ∃ w3, w2.drew = w3 := ⟨_, rfl⟩
          have hb3 : Below w2.heap.size w2 w3 := by rw [← hw3]; exact ext_drew (Below.refl _ _)
          rw [hw3]
          clear hw3
          go_wp2_with fail
          refine (HL1.out false h1 _).mono ?_
          rintro e w4 ⟨rfl, hb4⟩
          have hb4' := ext_trans hb3 hb4
          obtain ⟨k0, k1, k2, k3, k4, k5, k6, _⟩ := HCS2.out _ hb4'
          go_wp2_with fail
          refine wp_region_held_drew (S := (fun w' => w'.cell? ⟨p, 0, none⟩ = some (.func (.func 79) #[] #[]) ∧ w'.cell? ⟨q7, 0, none⟩ = some (.int .i64 a1) ∧ w'.cell? ⟨q7, 1, none⟩ = some (.int .u32 a2) ∧ w'.cell? ⟨q7, 2, none⟩ = some (.int .i64 a3) ∧ w'.cell? ⟨q8, 0, none⟩ = some (.int .i64 b1) ∧ w'.cell? ⟨q8, 1, none⟩ = some (.int .u32 b2) ∧ w'.cell? ⟨q8, 2, none⟩ = some (.int .i64 b3) ∧ Below w2.heap.size w2 w')) (by kernel_rfl) (by exact HCS2.out _ (ext_drew hb4')) (fun hHeld => ?_)
          refine take_yes (i := 0) (oi := ?o15) (d := (some 32)) (v := ?v15) ?hi15 (by kernel_rfl) (by kernel_rfl) (by kernel_rfl) (fun _ _ _ h => h) ?hd15 ?hw15 ?hy15 (by assumption) ?_
          case hi15 => (simp only [List.getElem?_toArray, List.getElem?_cons_zero]; exact rfl)
          case hd15 => rfl
          case hw15 => rfl
          case hy15 => (intro w hSw; (try dsimp only at hSw); go_simp; try with_reducible rfl)
          try simp only [Act.put, List.setIfInBounds_toArray, List.set_cons_zero, List.set_cons_succ]
          refine take_yes (i := 1) (oi := ?o16) (d := (some 33)) (v := ?v16) ?hi16 (by kernel_rfl) (by kernel_rfl) (by kernel_rfl) (fun _ _ _ h => h) ?hd16 ?hw16 ?hy16 (by assumption) ?_
          case hi16 => (simp only [List.getElem?_toArray, List.getElem?_cons_zero, List.getElem?_cons_succ]; exact rfl)
          case hd16 => rfl
          case hw16 => rfl
          case hy16 => (intro w hSw; (try dsimp only at hSw); go_simp; try with_reducible rfl)
          try simp only [Act.put, List.setIfInBounds_toArray, List.set_cons_zero, List.set_cons_succ]
          refine take_yes (i := 2) (oi := ?o17) (d := (some 34)) (v := ?v17) ?hi17 (by kernel_rfl) (by kernel_rfl) (by kernel_rfl) (fun _ _ _ h => h) ?hd17 ?hw17 ?hy17 (by assumption) ?_
          case hi17 => (simp only [List.getElem?_toArray, List.getElem?_cons_zero, List.getElem?_cons_succ]; exact rfl)
          case hd17 => rfl
          case hw17 => rfl
          case hy17 => (intro w hSw; (try dsimp only at hSw); go_simp; try with_reducible rfl)
          try simp only [Act.put, List.setIfInBounds_toArray, List.set_cons_zero, List.set_cons_succ]
          refine take_yes (i := 3) (oi := ?o18) (d := (some 35)) (v := ?v18) ?hi18 (by kernel_rfl) (by kernel_rfl) (by kernel_rfl) (fun _ _ _ h => h) ?hd18 ?hw18 ?hy18 (by assumption) ?_
          case hi18 => (simp only [List.getElem?_toArray, List.getElem?_cons_zero, List.getElem?_cons_succ]; exact rfl)
          case hd18 => rfl
          case hw18 => rfl
          case hy18 => (intro w hSw; (try dsimp only at hSw); go_simp; try with_reducible rfl)
          try simp only [Act.put, List.setIfInBounds_toArray, List.set_cons_zero, List.set_cons_succ]
          refine take_yes (i := 4) (oi := ?o19) (d := (some 36)) (v := ?v19) ?hi19 (by kernel_rfl) (by kernel_rfl) (by kernel_rfl) (fun _ _ _ h => h) ?hd19 ?hw19 ?hy19 (by assumption) ?_
          case hi19 => (simp only [List.getElem?_toArray, List.getElem?_cons_zero, List.getElem?_cons_succ]; exact rfl)
          case hd19 => rfl
          case hw19 => rfl
          case hy19 => (intro w hSw; (try dsimp only at hSw); go_simp; try with_reducible rfl)
          try simp only [Act.put, List.setIfInBounds_toArray, List.set_cons_zero, List.set_cons_succ]
          refine take_yes (i := 5) (oi := ?o20) (d := (some 37)) (v := ?v20) ?hi20 (by kernel_rfl) (by kernel_rfl) (by kernel_rfl) (fun _ _ _ h => h) ?hd20 ?hw20 ?hy20 (by assumption) ?_
          case hi20 => (simp only [List.getElem?_toArray, List.getElem?_cons_zero, List.getElem?_cons_succ]; exact rfl)
          case hd20 => rfl
          case hw20 => rfl
          case hy20 => (intro w hSw; (try dsimp only at hSw); go_simp; try with_reducible rfl)
          try simp only [Act.put, List.setIfInBounds_toArray, List.set_cons_zero, List.set_cons_succ]
          refine take_yes (i := 6) (oi := ?o21) (d := (some 38)) (v := ?v21) ?hi21 (by kernel_rfl) (by kernel_rfl) (by kernel_rfl) (fun _ _ _ h => h) ?hd21 ?hw21 ?hy21 (by assumption) ?_
          case hi21 => (simp only [List.getElem?_toArray, List.getElem?_cons_zero, List.getElem?_cons_succ]; exact rfl)
          case hd21 => rfl
          case hw21 => rfl
          case hy21 => (intro w hSw; (try dsimp only at hSw); go_simp; try with_reducible rfl)
          try simp only [Act.put, List.setIfInBounds_toArray, List.set_cons_zero, List.set_cons_succ]
          refine take_yes (i := 7) (oi := ?o22) (d := (some 39)) (v := ?v22) ?hi22 (by kernel_rfl) (by kernel_rfl) (by kernel_rfl) (fun _ _ _ h => h) ?hd22 ?hw22 ?hy22 (by assumption) ?_
          case hi22 => (simp only [List.getElem?_toArray, List.getElem?_cons_zero, List.getElem?_cons_succ]; exact rfl)
          case hd22 => rfl
          case hw22 => rfl
          case hy22 => (intro w hSw; (try dsimp only at hSw); go_simp; try with_reducible rfl)
          try simp only [Act.put, List.setIfInBounds_toArray, List.set_cons_zero, List.set_cons_succ]
          refine wpAnyH_ready (rs := [8]) (by kernel_rfl) (by simp) ?_
          refine AllReadyH.cons rfl (fun K hK => ?_) AllReadyH.nil
          go_simp
          refine (HL2.out true h2 _).mono ?_
          rintro e w6 ⟨rfl, hb6⟩
          have hb6' := ext_trans hHeld.2.2.2.2.2.2.2 hb6
          go_wp2_with fail
          refine hK.out _ _ (by first | exact HCS2.out _ hb6' | assumption) (fun hHeld8 => ?_)
          clear hK K
          try simp only [Act.put, List.setIfInBounds_toArray, List.set_cons_zero, List.set_cons_succ]
          refine take_yes (i := 9) (oi := ?o23) (d := (some 41)) (v := ?v23) ?hi23 (by kernel_rfl) (by kernel_rfl) (by kernel_rfl) (fun _ _ _ h => h) ?hd23 ?hw23 ?hy23 (by assumption) ?_
          case hi23 => (simp only [List.getElem?_toArray, List.getElem?_cons_zero, List.getElem?_cons_succ]; exact rfl)
          case hd23 => rfl
          case hw23 => rfl
          case hy23 => (intro w hSw; (try dsimp only at hSw); go_simp; try with_reducible rfl)
          try simp only [Act.put, List.setIfInBounds_toArray, List.set_cons_zero, List.set_cons_succ]
          refine take_yes (i := 10) (oi := ?o24) (d := (some 42)) (v := ?v24) ?hi24 (by kernel_rfl) (by kernel_rfl) (by kernel_rfl) (fun _ _ _ h => h) ?hd24 ?hw24 ?hy24 (by assumption) ?_
          case hi24 => (simp only [List.getElem?_toArray, List.getElem?_cons_zero, List.getElem?_cons_succ]; exact rfl)
          case hd24 => rfl
          case hw24 => rfl
          case hy24 => (intro w hSw; (try dsimp only at hSw); go_simp; try with_reducible rfl)
          try simp only [Act.put, List.setIfInBounds_toArray, List.set_cons_zero, List.set_cons_succ]
          refine take_no (i := 11) (oi := ?o25) (d := (some 43)) ?hi25 (by kernel_rfl) (by kernel_rfl) (by kernel_rfl) (fun _ _ _ h => h) ?hd25 ?hw25 (by assumption) ?_
          case hi25 => (simp only [List.getElem?_toArray, List.getElem?_cons_zero, List.getElem?_cons_succ]; exact rfl)
          case hd25 => rfl
          case hw25 => rfl
          try simp only [Act.put, List.setIfInBounds_toArray, List.set_cons_zero, List.set_cons_succ]
          refine take_no (i := 12) (oi := ?o26) (d := (some 44)) ?hi26 (by kernel_rfl) (by kernel_rfl) (by kernel_rfl) (fun _ _ _ h => h) ?hd26 ?hw26 (by assumption) ?_
          case hi26 => (simp only [List.getElem?_toArray, List.getElem?_cons_zero, List.getElem?_cons_succ]; exact rfl)
          case hd26 => rfl
          case hw26 => rfl
          try simp only [Act.put, List.setIfInBounds_toArray, List.set_cons_zero, List.set_cons_succ]
          refine take_no (i := 13) (oi := ?o27) (d := (some 45)) ?hi27 (by kernel_rfl) (by kernel_rfl) (by kernel_rfl) (fun _ _ _ h => h) ?hd27 ?hw27 (by assumption) ?_
          case hi27 => (simp only [List.getElem?_toArray, List.getElem?_cons_zero, List.getElem?_cons_succ]; exact rfl)
          case hd27 => rfl
          case hw27 => rfl
          try simp only [Act.put, List.setIfInBounds_toArray, List.set_cons_zero, List.set_cons_succ]
          refine take_no (i := 14) (oi := ?o28) (d := (some 46)) ?hi28 (by kernel_rfl) (by kernel_rfl) (by kernel_rfl) (fun _ _ _ h => h) ?hd28 ?hw28 (by assumption) ?_
          case hi28 => (simp only [List.getElem?_toArray, List.getElem?_cons_zero, List.getElem?_cons_succ]; exact rfl)
          case hd28 => rfl
          case hw28 => rfl
          try simp only [Act.put, List.setIfInBounds_toArray, List.set_cons_zero, List.set_cons_succ]
          refine take_no (i := 15) (oi := ?o29) (d := (some 47)) ?hi29 (by kernel_rfl) (by kernel_rfl) (by kernel_rfl) (fun _ _ _ h => h) ?hd29 ?hw29 (by assumption) ?_
          case hi29 => (simp only [List.getElem?_toArray, List.getElem?_cons_zero, List.getElem?_cons_succ]; exact rfl)
          case hd29 => rfl
          case hw29 => rfl
          try simp only [Act.put, List.setIfInBounds_toArray, List.set_cons_zero, List.set_cons_succ]
          refine take_yes (i := 16) (oi := ?o30) (d := (some 48)) (v := ?v30) ?hi30 (by kernel_rfl) (by kernel_rfl) (by kernel_rfl) (fun _ _ _ h => h) ?hd30 ?hw30 ?hy30 (by assumption) ?_
          case hi30 => (simp only [List.getElem?_toArray, List.getElem?_cons_zero, List.getElem?_cons_succ]; exact rfl)
          case hd30 => rfl
          case hw30 => rfl
          case hy30 => (intro w hSw; (try dsimp only at hSw); go_simp; try with_reducible rfl)
          try simp only [Act.put, List.setIfInBounds_toArray, List.set_cons_zero, List.set_cons_succ]
          refine take_yes (i := 17) (oi := ?o31) (d := (some 6)) (v := ?v31) ?hi31 (by kernel_rfl) (by kernel_rfl) (by kernel_rfl) (fun _ _ _ h => h) ?hd31 ?hw31 ?hy31 (by assumption) ?_
          case hi31 => (simp only [List.getElem?_toArray, List.getElem?_cons_zero, List.getElem?_cons_succ]; exact rfl)
          case hd31 => rfl
          case hw31 => rfl
          case hy31 => (intro w hSw; (try dsimp only at hSw); go_simp; try with_reducible rfl)
          try simp only [Act.put, List.setIfInBounds_toArray, List.set_cons_zero, List.set_cons_succ]
          refine wpAnyH_done (by kernel_rfl) ?_ _
          go_wp2_with fail
          go_ret
          exact ⟨by rw [h1, h2]; rfl, ext_trans HB2.out (hb6')⟩
      case false =>
          go_still_tail 8, (by kernel_rfl)
          change wpList _ _ _ _ _ w2.drew
          obtain ⟨w3, hw3⟩ : ∃ w3, w2.drew = w3 := ⟨_, rfl⟩
          have hb3 : Below w2.heap.size w2 w3 := by rw [← hw3]; exact ext_drew (Below.refl _ _)
          rw [hw3]
          clear hw3
          go_wp2_with fail
          refine (HL1.out false h1 _).mono ?_
          rintro e w4 ⟨rfl, hb4⟩
          have hb4' := ext_trans hb3 hb4
          obtain ⟨k0, k1, k2, k3, k4, k5, k6, _⟩ := HCS2.out _ hb4'
          go_wp2_with fail
          refine wp_region_held_drew (S := (fun w' => w'.cell? ⟨p, 0, none⟩ = some (.func (.func 79) #[] #[]) ∧ w'.cell? ⟨q7, 0, none⟩ = some (.int .i64 a1) ∧ w'.cell? ⟨q7, 1, none⟩ = some (.int .u32 a2) ∧ w'.cell? ⟨q7, 2, none⟩ = some (.int .i64 a3) ∧ w'.cell? ⟨q8, 0, none⟩ = some (.int .i64 b1) ∧ w'.cell? ⟨q8, 1, none⟩ = some (.int .u32 b2) ∧ w'.cell? ⟨q8, 2, none⟩ = some (.int .i64 b3) ∧ Below w2.heap.size w2 w')) (by kernel_rfl) (by exact HCS2.out _ (ext_drew hb4')) (fun hHeld => ?_)
          refine take_yes (i := 0) (oi := ?o32) (d := (some 32)) (v := ?v32) ?hi32 (by kernel_rfl) (by kernel_rfl) (by kernel_rfl) (fun _ _ _ h => h) ?hd32 ?hw32 ?hy32 (by assumption) ?_
          case hi32 => (simp only [List.getElem?_toArray, List.getElem?_cons_zero]; exact rfl)
          case hd32 => rfl
          case hw32 => rfl
          case hy32 => (intro w hSw; (try dsimp only at hSw); go_simp; try with_reducible rfl)
          try simp only [Act.put, List.setIfInBounds_toArray, List.set_cons_zero, List.set_cons_succ]
          refine take_yes (i := 1) (oi := ?o33) (d := (some 33)) (v := ?v33) ?hi33 (by kernel_rfl) (by kernel_rfl) (by kernel_rfl) (fun _ _ _ h => h) ?hd33 ?hw33 ?hy33 (by assumption) ?_
          case hi33 => (simp only [List.getElem?_toArray, List.getElem?_cons_zero, List.getElem?_cons_succ]; exact rfl)
          case hd33 => rfl
          case hw33 => rfl
          case hy33 => (intro w hSw; (try dsimp only at hSw); go_simp; try with_reducible rfl)
          try simp only [Act.put, List.setIfInBounds_toArray, List.set_cons_zero, List.set_cons_succ]
          refine take_yes (i := 2) (oi := ?o34) (d := (some 34)) (v := ?v34) ?hi34 (by kernel_rfl) (by kernel_rfl) (by kernel_rfl) (fun _ _ _ h => h) ?hd34 ?hw34 ?hy34 (by assumption) ?_
          case hi34 => (simp only [List.getElem?_toArray, List.getElem?_cons_zero, List.getElem?_cons_succ]; exact rfl)
          case hd34 => rfl
          case hw34 => rfl
          case hy34 => (intro w hSw; (try dsimp only at hSw); go_simp; try with_reducible rfl)
          try simp only [Act.put, List.setIfInBounds_toArray, List.set_cons_zero, List.set_cons_succ]
          refine take_yes (i := 3) (oi := ?o35) (d := (some 35)) (v := ?v35) ?hi35 (by kernel_rfl) (by kernel_rfl) (by kernel_rfl) (fun _ _ _ h => h) ?hd35 ?hw35 ?hy35 (by assumption) ?_
          case hi35 => (simp only [List.getElem?_toArray, List.getElem?_cons_zero, List.getElem?_cons_succ]; exact rfl)
          case hd35 => rfl
          case hw35 => rfl
          case hy35 => (intro w hSw; (try dsimp only at hSw); go_simp; try with_reducible rfl)
          try simp only [Act.put, List.setIfInBounds_toArray, List.set_cons_zero, List.set_cons_succ]
          refine take_yes (i := 4) (oi := ?o36) (d := (some 36)) (v := ?v36) ?hi36 (by kernel_rfl) (by kernel_rfl) (by kernel_rfl) (fun _ _ _ h => h) ?hd36 ?hw36 ?hy36 (by assumption) ?_
          case hi36 => (simp only [List.getElem?_toArray, List.getElem?_cons_zero, List.getElem?_cons_succ]; exact rfl)
          case hd36 => rfl
          case hw36 => rfl
          case hy36 => (intro w hSw; (try dsimp only at hSw); go_simp; try with_reducible rfl)
          try simp only [Act.put, List.setIfInBounds_toArray, List.set_cons_zero, List.set_cons_succ]
          refine take_yes (i := 5) (oi := ?o37) (d := (some 37)) (v := ?v37) ?hi37 (by kernel_rfl) (by kernel_rfl) (by kernel_rfl) (fun _ _ _ h => h) ?hd37 ?hw37 ?hy37 (by assumption) ?_
          case hi37 => (simp only [List.getElem?_toArray, List.getElem?_cons_zero, List.getElem?_cons_succ]; exact rfl)
          case hd37 => rfl
          case hw37 => rfl
          case hy37 => (intro w hSw; (try dsimp only at hSw); go_simp; try with_reducible rfl)
          try simp only [Act.put, List.setIfInBounds_toArray, List.set_cons_zero, List.set_cons_succ]
          refine take_yes (i := 6) (oi := ?o38) (d := (some 38)) (v := ?v38) ?hi38 (by kernel_rfl) (by kernel_rfl) (by kernel_rfl) (fun _ _ _ h => h) ?hd38 ?hw38 ?hy38 (by assumption) ?_
          case hi38 => (simp only [List.getElem?_toArray, List.getElem?_cons_zero, List.getElem?_cons_succ]; exact rfl)
          case hd38 => rfl
          case hw38 => rfl
          case hy38 => (intro w hSw; (try dsimp only at hSw); go_simp; try with_reducible rfl)
          try simp only [Act.put, List.setIfInBounds_toArray, List.set_cons_zero, List.set_cons_succ]
          refine take_yes (i := 7) (oi := ?o39) (d := (some 39)) (v := ?v39) ?hi39 (by kernel_rfl) (by kernel_rfl) (by kernel_rfl) (fun _ _ _ h => h) ?hd39 ?hw39 ?hy39 (by assumption) ?_
          case hi39 => (simp only [List.getElem?_toArray, List.getElem?_cons_zero, List.getElem?_cons_succ]; exact rfl)
          case hd39 => rfl
          case hw39 => rfl
          case hy39 => (intro w hSw; (try dsimp only at hSw); go_simp; try with_reducible rfl)
          try simp only [Act.put, List.setIfInBounds_toArray, List.set_cons_zero, List.set_cons_succ]
          refine wpAnyH_ready (rs := [8]) (by kernel_rfl) (by simp) ?_
          refine AllReadyH.cons rfl (fun K hK => ?_) AllReadyH.nil
          go_simp
          refine (HL2.out false h2 _).mono ?_
          rintro e w6 ⟨rfl, hb6⟩
          have hb6' := ext_trans hHeld.2.2.2.2.2.2.2 hb6
          go_wp2_with fail
          refine hK.out _ _ (by first | exact HCS2.out _ hb6' | assumption) (fun hHeld8 => ?_)
          clear hK K
          try simp only [Act.put, List.setIfInBounds_toArray, List.set_cons_zero, List.set_cons_succ]
          refine take_yes (i := 9) (oi := ?o40) (d := (some 41)) (v := ?v40) ?hi40 (by kernel_rfl) (by kernel_rfl) (by kernel_rfl) (fun _ _ _ h => h) ?hd40 ?hw40 ?hy40 (by assumption) ?_
          case hi40 => (simp only [List.getElem?_toArray, List.getElem?_cons_zero, List.getElem?_cons_succ]; exact rfl)
          case hd40 => rfl
          case hw40 => rfl
          case hy40 => (intro w hSw; (try dsimp only at hSw); go_simp; try with_reducible rfl)
          try simp only [Act.put, List.setIfInBounds_toArray, List.set_cons_zero, List.set_cons_succ]
          refine take_yes (i := 10) (oi := ?o41) (d := (some 42)) (v := ?v41) ?hi41 (by kernel_rfl) (by kernel_rfl) (by kernel_rfl) (fun _ _ _ h => h) ?hd41 ?hw41 ?hy41 (by assumption) ?_
          case hi41 => (simp only [List.getElem?_toArray, List.getElem?_cons_zero, List.getElem?_cons_succ]; exact rfl)
          case hd41 => rfl
          case hw41 => rfl
          case hy41 => (intro w hSw; (try dsimp only at hSw); go_simp; try with_reducible rfl)
          try simp only [Act.put, List.setIfInBounds_toArray, List.set_cons_zero, List.set_cons_succ]
          refine take_yes (i := 11) (oi := ?o42) (d := (some 43)) (v := ?v42) ?hi42 (by kernel_rfl) (by kernel_rfl) (by kernel_rfl) (fun _ _ _ h => h) ?hd42 ?hw42 ?hy42 (by assumption) ?_
          case hi42 => (simp only [List.getElem?_toArray, List.getElem?_cons_zero, List.getElem?_cons_succ]; exact rfl)
          case hd42 => rfl
          case hw42 => rfl
          case hy42 => (intro w hSw; (try dsimp only at hSw); go_simp; try with_reducible rfl)
          try simp only [Act.put, List.setIfInBounds_toArray, List.set_cons_zero, List.set_cons_succ]
          refine take_yes (i := 12) (oi := ?o43) (d := (some 44)) (v := ?v43) ?hi43 (by kernel_rfl) (by kernel_rfl) (by kernel_rfl) (fun _ _ _ h => h) ?hd43 ?hw43 ?hy43 (by assumption) ?_
          case hi43 => (simp only [List.getElem?_toArray, List.getElem?_cons_zero, List.getElem?_cons_succ]; exact rfl)
          case hd43 => rfl
          case hw43 => rfl
          case hy43 => (intro w hSw; (try dsimp only at hSw); go_simp; try with_reducible rfl)
          try simp only [Act.put, List.setIfInBounds_toArray, List.set_cons_zero, List.set_cons_succ]
          refine take_yes (i := 13) (oi := ?o44) (d := (some 45)) (v := ?v44) ?hi44 (by kernel_rfl) (by kernel_rfl) (by kernel_rfl) (fun _ _ _ h => h) ?hd44 ?hw44 ?hy44 (by assumption) ?_
          case hi44 => (simp only [List.getElem?_toArray, List.getElem?_cons_zero, List.getElem?_cons_succ]; exact rfl)
          case hd44 => rfl
          case hw44 => rfl
          case hy44 => (intro w hSw; (try dsimp only at hSw); go_simp; try with_reducible rfl)
          try simp only [Act.put, List.setIfInBounds_toArray, List.set_cons_zero, List.set_cons_succ]
          refine take_yes (i := 14) (oi := ?o45) (d := (some 46)) (v := ?v45) ?hi45 (by kernel_rfl) (by kernel_rfl) (by kernel_rfl) (fun _ _ _ h => h) ?hd45 ?hw45 ?hy45 (by assumption) ?_
          case hi45 => (simp only [List.getElem?_toArray, List.getElem?_cons_zero, List.getElem?_cons_succ]; exact rfl)
          case hd45 => rfl
          case hw45 => rfl
          case hy45 => (intro w hSw; (try dsimp only at hSw); go_simp; try with_reducible rfl)
          try simp only [Act.put, List.setIfInBounds_toArray, List.set_cons_zero, List.set_cons_succ]
          refine take_yes (i := 15) (oi := ?o46) (d := (some 47)) (v := ?v46) ?hi46 (by kernel_rfl) (by kernel_rfl) (by kernel_rfl) (fun _ _ _ h => h) ?hd46 ?hw46 ?hy46 (by assumption) ?_
          case hi46 => (simp only [List.getElem?_toArray, List.getElem?_cons_zero, List.getElem?_cons_succ]; exact rfl)
          case hd46 => rfl
          case hw46 => rfl
          case hy46 => (intro w hSw; (try dsimp only at hSw); go_simp; try with_reducible rfl)
          try simp only [Act.put, List.setIfInBounds_toArray, List.set_cons_zero, List.set_cons_succ]
          refine take_yes (i := 16) (oi := ?o47) (d := (some 48)) (v := ?v47) ?hi47 (by kernel_rfl) (by kernel_rfl) (by kernel_rfl) (fun _ _ _ h => h) ?hd47 ?hw47 ?hy47 (by assumption) ?_
          case hi47 => (simp only [List.getElem?_toArray, List.getElem?_cons_zero, List.getElem?_cons_succ]; exact rfl)
          case hd47 => rfl
          case hw47 => rfl
          case hy47 => (intro w hSw; (try dsimp only at hSw); go_simp; try with_reducible rfl)
          try simp only [Act.put, List.setIfInBounds_toArray, List.set_cons_zero, List.set_cons_succ]
          refine take_yes (i := 17) (oi := ?o48) (d := (some 6)) (v := ?v48) ?hi48 (by kernel_rfl) (by kernel_rfl) (by kernel_rfl) (fun _ _ _ h => h) ?hd48 ?hw48 ?hy48 (by assumption) ?_
          case hi48 => (simp only [List.getElem?_toArray, List.getElem?_cons_zero, List.getElem?_cons_succ]; exact rfl)
          case hd48 => rfl
          case hw48 => rfl
          case hy48 => (intro w hSw; (try dsimp only at hSw); go_simp; try with_reducible rfl)
          try simp only [Act.put, List.setIfInBounds_toArray, List.set_cons_zero, List.set_cons_succ]
          refine wpAnyH_done (by kernel_rfl) ?_ _
          go_wp2_with fail
          go_ret
          exact ⟨by rw [h1, h2]; rfl, ext_trans HB2.out (hb6')⟩
  · go_simp
    go_wp2_with fail
    refine hK.out _ _ (by first | exact HCS _ (ext_alloc (ext_alloc (ext_drew (Below.refl _ _)) _) _) | exact HCS _ (ext_alloc (ext_drew (Below.refl _ _)) _)) (fun hHeld15 => ?_)
    clear hK K
    try simp only [Act.put, List.setIfInBounds_toArray, List.set_cons_zero, List.set_cons_succ]
    refine wpAnyH_ready (rs := [14]) (by kernel_rfl) (by simp) ?_
    refine AllReadyH.cons rfl (fun K hK => ?_) AllReadyH.nil
    go_simp
    go_wp2_with fail
    refine hK.out _ _ (by first | exact HCS _ (ext_alloc (ext_alloc (ext_drew (Below.refl _ _)) _) _) | exact HCS _ (ext_alloc (ext_drew (Below.refl _ _)) _)) (fun hHeld14 => ?_)
    clear hK K
    try simp only [Act.put, List.setIfInBounds_toArray, List.set_cons_zero, List.set_cons_succ]
    refine wpAnyH_ready (rs := [16]) (by kernel_rfl) (by simp) ?_
    refine AllReadyH.cons rfl (fun K hK => ?_) AllReadyH.nil
    go_simp
    go_wp2_with fail
    refine hK.out _ _ (by first | exact HCS _ (ext_alloc (ext_alloc (ext_drew (Below.refl _ _)) _) _) | exact HCS _ (ext_alloc (ext_drew (Below.refl _ _)) _)) (fun hHeld16 => ?_)
    clear hK K
    try simp only [Act.put, List.setIfInBounds_toArray, List.set_cons_zero, List.set_cons_succ]
    refine wpAnyH_ready (rs := [17]) (by kernel_rfl) (by simp) ?_
    refine AllReadyH.cons rfl (fun K hK => ?_) AllReadyH.nil
    go_simp
    go_wp2_with fail
    refine hK.out _ _ (by first | exact HCS _ (ext_alloc (ext_alloc (ext_drew (Below.refl _ _)) _) _) | exact HCS _ (ext_alloc (ext_drew (Below.refl _ _)) _)) (fun hHeld17 => ?_)
    clear hK K
    try simp only [Act.put, List.setIfInBounds_toArray, List.set_cons_zero, List.set_cons_succ]
    refine wpAnyH_done (by kernel_rfl) ?_ _
    go_wp2_with fail
    have hA1 : Arr (((w.alloc (.cells #[.int .i64 b1, .int .u32 b2, .int .i64 b3] 216)).alloc (.cells #[.int .i64 a1, .int .u32 a2, .int .i64 a3] 216)).drew) w.heap.size 216 #[.int .i64 b1, .int .u32 b2, .int .i64 b3] := (Arr.alloc (Arr.fresh w _ _) _).drew
    have hA2 : Arr (((w.alloc (.cells #[.int .i64 b1, .int .u32 b2, .int .i64 b3] 216)).alloc (.cells #[.int .i64 a1, .int .u32 a2, .int .i64 a3] 216)).drew) (w.heap.size + 1) 216 #[.int .i64 a1, .int .u32 a2, .int .i64 a3] := (Arr.new (by simp)).drew
    have hB2 : Below w.heap.size w (((w.alloc (.cells #[.int .i64 b1, .int .u32 b2, .int .i64 b3] 216)).alloc (.cells #[.int .i64 a1, .int .u32 a2, .int .i64 a3] 216)).drew) := ext_drew (ext_alloc (ext_alloc (Below.refl _ _) _) _)
    obtain ⟨w2, hw2⟩ : ∃ w2, ((w.alloc (.cells #[.int .i64 b1, .int .u32 b2, .int .i64 b3] 216)).alloc (.cells #[.int .i64 a1, .int .u32 a2, .int .i64 a3] 216)).drew = w2 := ⟨_, rfl⟩
    rw [hw2] at hA1 hA2 hB2 ⊢
    clear hw2
    obtain ⟨q8, hq1⟩ : ∃ q, w.heap.size = q := ⟨_, rfl⟩
    obtain ⟨q7, hq2⟩ : ∃ q, w.heap.size + 1 = q := ⟨_, rfl⟩
    have HB2 := Lib.hid hB2
    clear hB2
    rw [hq1] at hA1
    rw [hq2] at hA2
    have hp2 := HB2.out.cell (p := ⟨p, 0, none⟩) hpl
    have HCS2 : ∀ w', Below w2.heap.size w2 w' → (w'.cell? ⟨p, 0, none⟩ = some (.func (.func 79) #[] #[]) ∧ w'.cell? ⟨q7, 0, none⟩ = some (.int .i64 a1) ∧ w'.cell? ⟨q7, 1, none⟩ = some (.int .u32 a2) ∧ w'.cell? ⟨q7, 2, none⟩ = some (.int .i64 a3) ∧ w'.cell? ⟨q8, 0, none⟩ = some (.int .i64 b1) ∧ w'.cell? ⟨q8, 1, none⟩ = some (.int .u32 b2) ∧ w'.cell? ⟨q8, 2, none⟩ = some (.int .i64 b3) ∧ Below w2.heap.size w2 w') := fun w' hb =>
      ⟨(hb.cell (p := ⟨p, 0, none⟩) (Nat.lt_of_lt_of_le hpl HB2.out.size)).trans (hp2.trans HX0.out), (hA2.keep hb).cell 0, (hA2.keep hb).cell 1, (hA2.keep hb).cell 2, (hA1.keep hb).cell 0, (hA1.keep hb).cell 1, (hA1.keep hb).cell 2, hb⟩
    have HCS2 := Lib.hid HCS2
    simp only [hq2]
    simp only [hq1]
    clear hp2 hA1 hA2 hq1 hq2
    have HW := Lib.hid HCS
    clear HCS hHeld17
    obtain ⟨k0, k1, k2, k3, k4, k5, k6, _⟩ := HCS2.out _ (Below.refl _ _)
    cases h1 : lessD ⟨a1, a2, a3⟩ ⟨b1, b2, b3⟩
    case true =>
          go_still_tail 8, (by kernel_rfl)
          change wpList _ _ _ _ _ w2.drew
          obtain ⟨w3, hw3⟩ : ∃ w3, w2.drew = w3 := ⟨_, rfl⟩
          have hb3 : Below w2.heap.size w2 w3 := by rw [← hw3]; exact ext_drew (Below.refl _ _)
          rw [hw3]
          clear hw3
          go_wp2_with fail
          refine (HL1.out true h1 _).mono ?_
          rintro e w4 ⟨rfl, hb4⟩
          have hb4' := ext_trans hb3 hb4
          obtain ⟨k0, k1, k2, k3, k4, k5, k6, _⟩ := HCS2.out _ hb4'
          go_wp2_with fail
          go_ret
          exact ⟨by rw [h1]; rfl, ext_trans HB2.out (hb4')⟩
    case false =>
      cases h2 : lessD ⟨b1, b2, b3⟩ ⟨a1, a2, a3⟩
      case true =>
          go_still_tail 8, (by kernel_rfl)
          change wpList _ _ _ _ _ w2.drew
          obtain ⟨w3, hw3⟩ : ∃ w3, w2.drew = w3 := ⟨_, rfl⟩
          have hb3 : Below w2.heap.size w2 w3 := by rw [← hw3]; exact ext_drew (Below.refl _ _)
          rw [hw3]
          clear hw3
          go_wp2_with fail
          refine (HL1.out false h1 _).mono ?_
          rintro e w4 ⟨rfl, hb4⟩
          have hb4' := ext_trans hb3 hb4
          obtain ⟨k0, k1, k2, k3, k4, k5, k6, _⟩ := HCS2.out _ hb4'
          go_wp2_with fail
          refine wp_region_held_drew (S := (fun w' => w'.cell? ⟨p, 0, none⟩ = some (.func (.func 79) #[] #[]) ∧ w'.cell? ⟨q7, 0, none⟩ = some (.int .i64 a1) ∧ w'.cell? ⟨q7, 1, none⟩ = some (.int .u32 a2) ∧ w'.cell? ⟨q7, 2, none⟩ = some (.int .i64 a3) ∧ w'.cell? ⟨q8, 0, none⟩ = some (.int .i64 b1) ∧ w'.cell? ⟨q8, 1, none⟩ = some (.int .u32 b2) ∧ w'.cell? ⟨q8, 2, none⟩ = some (.int .i64 b3) ∧ Below w2.heap.size w2 w')) (by kernel_rfl) (by exact HCS2.out _ (ext_drew hb4')) (fun hHeld => ?_)
          refine take_yes (i := 0) (oi := ?o49) (d := (some 32)) (v := ?v49) ?hi49 (by kernel_rfl) (by kernel_rfl) (by kernel_rfl) (fun _ _ _ h => h) ?hd49 ?hw49 ?hy49 (by assumption) ?_
          case hi49 => (simp only [List.getElem?_toArray, List.getElem?_cons_zero]; exact rfl)
          case hd49 => rfl
          case hw49 => rfl
          case hy49 => (intro w hSw; (try dsimp only at hSw); go_simp; try with_reducible rfl)
          try simp only [Act.put, List.setIfInBounds_toArray, List.set_cons_zero, List.set_cons_succ]
          refine take_yes (i := 1) (oi := ?o50) (d := (some 33)) (v := ?v50) ?hi50 (by kernel_rfl) (by kernel_rfl) (by kernel_rfl) (fun _ _ _ h => h) ?hd50 ?hw50 ?hy50 (by assumption) ?_
          case hi50 => (simp only [List.getElem?_toArray, List.getElem?_cons_zero, List.getElem?_cons_succ]; exact rfl)
          case hd50 => rfl
          case hw50 => rfl
          case hy50 => (intro w hSw; (try dsimp only at hSw); go_simp; try with_reducible rfl)
          try simp only [Act.put, List.setIfInBounds_toArray, List.set_cons_zero, List.set_cons_succ]
          refine take_yes (i := 2) (oi := ?o51) (d := (some 34)) (v := ?v51) ?hi51 (by kernel_rfl) (by kernel_rfl) (by kernel_rfl) (fun _ _ _ h => h) ?hd51 ?hw51 ?hy51 (by assumption) ?_
          case hi51 => (simp only [List.getElem?_toArray, List.getElem?_cons_zero, List.getElem?_cons_succ]; exact rfl)
          case hd51 => rfl
          case hw51 => rfl
          case hy51 => (intro w hSw; (try dsimp only at hSw); go_simp; try with_reducible rfl)
          try simp only [Act.put, List.setIfInBounds_toArray, List.set_cons_zero, List.set_cons_succ]
          refine take_yes (i := 3) (oi := ?o52) (d := (some 35)) (v := ?v52) ?hi52 (by kernel_rfl) (by kernel_rfl) (by kernel_rfl) (fun _ _ _ h => h) ?hd52 ?hw52 ?hy52 (by assumption) ?_
          case hi52 => (simp only [List.getElem?_toArray, List.getElem?_cons_zero, List.getElem?_cons_succ]; exact rfl)
          case hd52 => rfl
          case hw52 => rfl
          case hy52 => (intro w hSw; (try dsimp only at hSw); go_simp; try with_reducible rfl)
          try simp only [Act.put, List.setIfInBounds_toArray, List.set_cons_zero, List.set_cons_succ]
          refine take_yes (i := 4) (oi := ?o53) (d := (some 36)) (v := ?v53) ?hi53 (by kernel_rfl) (by kernel_rfl) (by kernel_rfl) (fun _ _ _ h => h) ?hd53 ?hw53 ?hy53 (by assumption) ?_
          case hi53 => (simp only [List.getElem?_toArray, List.getElem?_cons_zero, List.getElem?_cons_succ]; exact rfl)
          case hd53 => rfl
          case hw53 => rfl
          case hy53 => (intro w hSw; (try dsimp only at hSw); go_simp; try with_reducible rfl)
          try simp only [Act.put, List.setIfInBounds_toArray, List.set_cons_zero, List.set_cons_succ]
          refine take_yes (i := 5) (oi := ?o54) (d := (some 37)) (v := ?v54) ?hi54 (by kernel_rfl) (by kernel_rfl) (by kernel_rfl) (fun _ _ _ h => h) ?hd54 ?hw54 ?hy54 (by assumption) ?_
          case hi54 => (simp only [List.getElem?_toArray, List.getElem?_cons_zero, List.getElem?_cons_succ]; exact rfl)
          case hd54 => rfl
          case hw54 => rfl
          case hy54 => (intro w hSw; (try dsimp only at hSw); go_simp; try with_reducible rfl)
          try simp only [Act.put, List.setIfInBounds_toArray, List.set_cons_zero, List.set_cons_succ]
          refine take_yes (i := 6) (oi := ?o55) (d := (some 38)) (v := ?v55) ?hi55 (by kernel_rfl) (by kernel_rfl) (by kernel_rfl) (fun _ _ _ h => h) ?hd55 ?hw55 ?hy55 (by assumption) ?_
          case hi55 => (simp only [List.getElem?_toArray, List.getElem?_cons_zero, List.getElem?_cons_succ]; exact rfl)
          case hd55 => rfl
          case hw55 => rfl
          case hy55 => (intro w hSw; (try dsimp only at hSw); go_simp; try with_reducible rfl)
          try simp only [Act.put, List.setIfInBounds_toArray, List.set_cons_zero, List.set_cons_succ]
          refine take_yes (i := 7) (oi := ?o56) (d := (some 39)) (v := ?v56) ?hi56 (by kernel_rfl) (by kernel_rfl) (by kernel_rfl) (fun _ _ _ h => h) ?hd56 ?hw56 ?hy56 (by assumption) ?_
          case hi56 => (simp only [List.getElem?_toArray, List.getElem?_cons_zero, List.getElem?_cons_succ]; exact rfl)
          case hd56 => rfl
          case hw56 => rfl
          case hy56 => (intro w hSw; (try dsimp only at hSw); go_simp; try with_reducible rfl)
          try simp only [Act.put, List.setIfInBounds_toArray, List.set_cons_zero, List.set_cons_succ]
          refine wpAnyH_ready (rs := [8]) (by kernel_rfl) (by simp) ?_
          refine AllReadyH.cons rfl (fun K hK => ?_) AllReadyH.nil
          go_simp
          refine (HL2.out true h2 _).mono ?_
          rintro e w6 ⟨rfl, hb6⟩
          have hb6' := ext_trans hHeld.2.2.2.2.2.2.2 hb6
          go_wp2_with fail
          refine hK.out _ _ (by first | exact HCS2.out _ hb6' | assumption) (fun hHeld8 => ?_)
          clear hK K
          try simp only [Act.put, List.setIfInBounds_toArray, List.set_cons_zero, List.set_cons_succ]
          refine take_yes (i := 9) (oi := ?o57) (d := (some 41)) (v := ?v57) ?hi57 (by kernel_rfl) (by kernel_rfl) (by kernel_rfl) (fun _ _ _ h => h) ?hd57 ?hw57 ?hy57 (by assumption) ?_
          case hi57 => (simp only [List.getElem?_toArray, List.getElem?_cons_zero, List.getElem?_cons_succ]; exact rfl)
          case hd57 => rfl
          case hw57 => rfl
          case hy57 => (intro w hSw; (try dsimp only at hSw); go_simp; try with_reducible rfl)
          try simp only [Act.put, List.setIfInBounds_toArray, List.set_cons_zero, List.set_cons_succ]
          refine take_yes (i := 10) (oi := ?o58) (d := (some 42)) (v := ?v58) ?hi58 (by kernel_rfl) (by kernel_rfl) (by kernel_rfl) (fun _ _ _ h => h) ?hd58 ?hw58 ?hy58 (by assumption) ?_
          case hi58 => (simp only [List.getElem?_toArray, List.getElem?_cons_zero, List.getElem?_cons_succ]; exact rfl)
          case hd58 => rfl
          case hw58 => rfl
          case hy58 => (intro w hSw; (try dsimp only at hSw); go_simp; try with_reducible rfl)
          try simp only [Act.put, List.setIfInBounds_toArray, List.set_cons_zero, List.set_cons_succ]
          refine take_no (i := 11) (oi := ?o59) (d := (some 43)) ?hi59 (by kernel_rfl) (by kernel_rfl) (by kernel_rfl) (fun _ _ _ h => h) ?hd59 ?hw59 (by assumption) ?_
          case hi59 => (simp only [List.getElem?_toArray, List.getElem?_cons_zero, List.getElem?_cons_succ]; exact rfl)
          case hd59 => rfl
          case hw59 => rfl
          try simp only [Act.put, List.setIfInBounds_toArray, List.set_cons_zero, List.set_cons_succ]
          refine take_no (i := 12) (oi := ?o60) (d := (some 44)) ?hi60 (by kernel_rfl) (by kernel_rfl) (by kernel_rfl) (fun _ _ _ h => h) ?hd60 ?hw60 (by assumption) ?_
          case hi60 => (simp only [List.getElem?_toArray, List.getElem?_cons_zero, List.getElem?_cons_succ]; exact rfl)
          case hd60 => rfl
          case hw60 => rfl
          try simp only [Act.put, List.setIfInBounds_toArray, List.set_cons_zero, List.set_cons_succ]
          refine take_no (i := 13) (oi := ?o61) (d := (some 45)) ?hi61 (by kernel_rfl) (by kernel_rfl) (by kernel_rfl) (fun _ _ _ h => h) ?hd61 ?hw61 (by assumption) ?_
          case hi61 => (simp only [List.getElem?_toArray, List.getElem?_cons_zero, List.getElem?_cons_succ]; exact rfl)
          case hd61 => rfl
          case hw61 => rfl
          try simp only [Act.put, List.setIfInBounds_toArray, List.set_cons_zero, List.set_cons_succ]
          refine take_no (i := 14) (oi := ?o62) (d := (some 46)) ?hi62 (by kernel_rfl) (by kernel_rfl) (by kernel_rfl) (fun _ _ _ h => h) ?hd62 ?hw62 (by assumption) ?_
          case hi62 => (simp only [List.getElem?_toArray, List.getElem?_cons_zero, List.getElem?_cons_succ]; exact rfl)
          case hd62 => rfl
          case hw62 => rfl
          try simp only [Act.put, List.setIfInBounds_toArray, List.set_cons_zero, List.set_cons_succ]
          refine take_no (i := 15) (oi := ?o63) (d := (some 47)) ?hi63 (by kernel_rfl) (by kernel_rfl) (by kernel_rfl) (fun _ _ _ h => h) ?hd63 ?hw63 (by assumption) ?_
          case hi63 => (simp only [List.getElem?_toArray, List.getElem?_cons_zero, List.getElem?_cons_succ]; exact rfl)
          case hd63 => rfl
          case hw63 => rfl
          try simp only [Act.put, List.setIfInBounds_toArray, List.set_cons_zero, List.set_cons_succ]
          refine take_yes (i := 16) (oi := ?o64) (d := (some 48)) (v := ?v64) ?hi64 (by kernel_rfl) (by kernel_rfl) (by kernel_rfl) (fun _ _ _ h => h) ?hd64 ?hw64 ?hy64 (by assumption) ?_
          case hi64 => (simp only [List.getElem?_toArray, List.getElem?_cons_zero, List.getElem?_cons_succ]; exact rfl)
          case hd64 => rfl
          case hw64 => rfl
          case hy64 => (intro w hSw; (try dsimp only at hSw); go_simp; try with_reducible rfl)
          try simp only [Act.put, List.setIfInBounds_toArray, List.set_cons_zero, List.set_cons_succ]
          refine take_yes (i := 17) (oi := ?o65) (d := (some 6)) (v := ?v65) ?hi65 (by kernel_rfl) (by kernel_rfl) (by kernel_rfl) (fun _ _ _ h => h) ?hd65 ?hw65 ?hy65 (by assumption) ?_
          case hi65 => (simp only [List.getElem?_toArray, List.getElem?_cons_zero, List.getElem?_cons_succ]; exact rfl)
          case hd65 => rfl
          case hw65 => rfl
          case hy65 => (intro w hSw; (try dsimp only at hSw); go_simp; try with_reducible rfl)
          try simp only [Act.put, List.setIfInBounds_toArray, List.set_cons_zero, List.set_cons_succ]
          refine wpAnyH_done (by kernel_rfl) ?_ _
          go_wp2_with fail
          go_ret
          exact ⟨by rw [h1, h2]; rfl, ext_trans HB2.out (hb6')⟩
      case false =>
          go_still_tail 8, (by kernel_rfl)
          change wpList _ _ _ _ _ w2.drew
          obtain ⟨w3, hw3⟩ : ∃ w3, w2.drew = w3 := ⟨_, rfl⟩
          have hb3 : Below w2.heap.size w2 w3 := by rw [← hw3]; exact ext_drew (Below.refl _ _)
          rw [hw3]
          clear hw3
          go_wp2_with fail
          refine (HL1.out false h1 _).mono ?_
          rintro e w4 ⟨rfl, hb4⟩
          have hb4' := ext_trans hb3 hb4
          obtain ⟨k0, k1, k2, k3, k4, k5, k6, _⟩ := HCS2.out _ hb4'
          go_wp2_with fail
          refine wp_region_held_drew (S := (fun w' => w'.cell? ⟨p, 0, none⟩ = some (.func (.func 79) #[] #[]) ∧ w'.cell? ⟨q7, 0, none⟩ = some (.int .i64 a1) ∧ w'.cell? ⟨q7, 1, none⟩ = some (.int .u32 a2) ∧ w'.cell? ⟨q7, 2, none⟩ = some (.int .i64 a3) ∧ w'.cell? ⟨q8, 0, none⟩ = some (.int .i64 b1) ∧ w'.cell? ⟨q8, 1, none⟩ = some (.int .u32 b2) ∧ w'.cell? ⟨q8, 2, none⟩ = some (.int .i64 b3) ∧ Below w2.heap.size w2 w')) (by kernel_rfl) (by exact HCS2.out _ (ext_drew hb4')) (fun hHeld => ?_)
          refine take_yes (i := 0) (oi := ?o66) (d := (some 32)) (v := ?v66) ?hi66 (by kernel_rfl) (by kernel_rfl) (by kernel_rfl) (fun _ _ _ h => h) ?hd66 ?hw66 ?hy66 (by assumption) ?_
          case hi66 => (simp only [List.getElem?_toArray, List.getElem?_cons_zero]; exact rfl)
          case hd66 => rfl
          case hw66 => rfl
          case hy66 => (intro w hSw; (try dsimp only at hSw); go_simp; try with_reducible rfl)
          try simp only [Act.put, List.setIfInBounds_toArray, List.set_cons_zero, List.set_cons_succ]
          refine take_yes (i := 1) (oi := ?o67) (d := (some 33)) (v := ?v67) ?hi67 (by kernel_rfl) (by kernel_rfl) (by kernel_rfl) (fun _ _ _ h => h) ?hd67 ?hw67 ?hy67 (by assumption) ?_
          case hi67 => (simp only [List.getElem?_toArray, List.getElem?_cons_zero, List.getElem?_cons_succ]; exact rfl)
          case hd67 => rfl
          case hw67 => rfl
          case hy67 => (intro w hSw; (try dsimp only at hSw); go_simp; try with_reducible rfl)
          try simp only [Act.put, List.setIfInBounds_toArray, List.set_cons_zero, List.set_cons_succ]
          refine take_yes (i := 2) (oi := ?o68) (d := (some 34)) (v := ?v68) ?hi68 (by kernel_rfl) (by kernel_rfl) (by kernel_rfl) (fun _ _ _ h => h) ?hd68 ?hw68 ?hy68 (by assumption) ?_
          case hi68 => (simp only [List.getElem?_toArray, List.getElem?_cons_zero, List.getElem?_cons_succ]; exact rfl)
          case hd68 => rfl
          case hw68 => rfl
          case hy68 => (intro w hSw; (try dsimp only at hSw); go_simp; try with_reducible rfl)
          try simp only [Act.put, List.setIfInBounds_toArray, List.set_cons_zero, List.set_cons_succ]
          refine take_yes (i := 3) (oi := ?o69) (d := (some 35)) (v := ?v69) ?hi69 (by kernel_rfl) (by kernel_rfl) (by kernel_rfl) (fun _ _ _ h => h) ?hd69 ?hw69 ?hy69 (by assumption) ?_
          case hi69 => (simp only [List.getElem?_toArray, List.getElem?_cons_zero, List.getElem?_cons_succ]; exact rfl)
          case hd69 => rfl
          case hw69 => rfl
          case hy69 => (intro w hSw; (try dsimp only at hSw); go_simp; try with_reducible rfl)
          try simp only [Act.put, List.setIfInBounds_toArray, List.set_cons_zero, List.set_cons_succ]
          refine take_yes (i := 4) (oi := ?o70) (d := (some 36)) (v := ?v70) ?hi70 (by kernel_rfl) (by kernel_rfl) (by kernel_rfl) (fun _ _ _ h => h) ?hd70 ?hw70 ?hy70 (by assumption) ?_
          case hi70 => (simp only [List.getElem?_toArray, List.getElem?_cons_zero, List.getElem?_cons_succ]; exact rfl)
          case hd70 => rfl
          case hw70 => rfl
          case hy70 => (intro w hSw; (try dsimp only at hSw); go_simp; try with_reducible rfl)
          try simp only [Act.put, List.setIfInBounds_toArray, List.set_cons_zero, List.set_cons_succ]
          refine take_yes (i := 5) (oi := ?o71) (d := (some 37)) (v := ?v71) ?hi71 (by kernel_rfl) (by kernel_rfl) (by kernel_rfl) (fun _ _ _ h => h) ?hd71 ?hw71 ?hy71 (by assumption) ?_
          case hi71 => (simp only [List.getElem?_toArray, List.getElem?_cons_zero, List.getElem?_cons_succ]; exact rfl)
          case hd71 => rfl
          case hw71 => rfl
          case hy71 => (intro w hSw; (try dsimp only at hSw); go_simp; try with_reducible rfl)
          try simp only [Act.put, List.setIfInBounds_toArray, List.set_cons_zero, List.set_cons_succ]
          refine take_yes (i := 6) (oi := ?o72) (d := (some 38)) (v := ?v72) ?hi72 (by kernel_rfl) (by kernel_rfl) (by kernel_rfl) (fun _ _ _ h => h) ?hd72 ?hw72 ?hy72 (by assumption) ?_
          case hi72 => (simp only [List.getElem?_toArray, List.getElem?_cons_zero, List.getElem?_cons_succ]; exact rfl)
          case hd72 => rfl
          case hw72 => rfl
          case hy72 => (intro w hSw; (try dsimp only at hSw); go_simp; try with_reducible rfl)
          try simp only [Act.put, List.setIfInBounds_toArray, List.set_cons_zero, List.set_cons_succ]
          refine take_yes (i := 7) (oi := ?o73) (d := (some 39)) (v := ?v73) ?hi73 (by kernel_rfl) (by kernel_rfl) (by kernel_rfl) (fun _ _ _ h => h) ?hd73 ?hw73 ?hy73 (by assumption) ?_
          case hi73 => (simp only [List.getElem?_toArray, List.getElem?_cons_zero, List.getElem?_cons_succ]; exact rfl)
          case hd73 => rfl
          case hw73 => rfl
          case hy73 => (intro w hSw; (try dsimp only at hSw); go_simp; try with_reducible rfl)
          try simp only [Act.put, List.setIfInBounds_toArray, List.set_cons_zero, List.set_cons_succ]
          refine wpAnyH_ready (rs := [8]) (by kernel_rfl) (by simp) ?_
          refine AllReadyH.cons rfl (fun K hK => ?_) AllReadyH.nil
          go_simp
          refine (HL2.out false h2 _).mono ?_
          rintro e w6 ⟨rfl, hb6⟩
          have hb6' := ext_trans hHeld.2.2.2.2.2.2.2 hb6
          go_wp2_with fail
          refine hK.out _ _ (by first | exact HCS2.out _ hb6' | assumption) (fun hHeld8 => ?_)
          clear hK K
          try simp only [Act.put, List.setIfInBounds_toArray, List.set_cons_zero, List.set_cons_succ]
          refine take_yes (i := 9) (oi := ?o74) (d := (some 41)) (v := ?v74) ?hi74 (by kernel_rfl) (by kernel_rfl) (by kernel_rfl) (fun _ _ _ h => h) ?hd74 ?hw74 ?hy74 (by assumption) ?_
          case hi74 => (simp only [List.getElem?_toArray, List.getElem?_cons_zero, List.getElem?_cons_succ]; exact rfl)
          case hd74 => rfl
          case hw74 => rfl
          case hy74 => (intro w hSw; (try dsimp only at hSw); go_simp; try with_reducible rfl)
          try simp only [Act.put, List.setIfInBounds_toArray, List.set_cons_zero, List.set_cons_succ]
          refine take_yes (i := 10) (oi := ?o75) (d := (some 42)) (v := ?v75) ?hi75 (by kernel_rfl) (by kernel_rfl) (by kernel_rfl) (fun _ _ _ h => h) ?hd75 ?hw75 ?hy75 (by assumption) ?_
          case hi75 => (simp only [List.getElem?_toArray, List.getElem?_cons_zero, List.getElem?_cons_succ]; exact rfl)
          case hd75 => rfl
          case hw75 => rfl
          case hy75 => (intro w hSw; (try dsimp only at hSw); go_simp; try with_reducible rfl)
          try simp only [Act.put, List.setIfInBounds_toArray, List.set_cons_zero, List.set_cons_succ]
          refine take_yes (i := 11) (oi := ?o76) (d := (some 43)) (v := ?v76) ?hi76 (by kernel_rfl) (by kernel_rfl) (by kernel_rfl) (fun _ _ _ h => h) ?hd76 ?hw76 ?hy76 (by assumption) ?_
          case hi76 => (simp only [List.getElem?_toArray, List.getElem?_cons_zero, List.getElem?_cons_succ]; exact rfl)
          case hd76 => rfl
          case hw76 => rfl
          case hy76 => (intro w hSw; (try dsimp only at hSw); go_simp; try with_reducible rfl)
          try simp only [Act.put, List.setIfInBounds_toArray, List.set_cons_zero, List.set_cons_succ]
          refine take_yes (i := 12) (oi := ?o77) (d := (some 44)) (v := ?v77) ?hi77 (by kernel_rfl) (by kernel_rfl) (by kernel_rfl) (fun _ _ _ h => h) ?hd77 ?hw77 ?hy77 (by assumption) ?_
          case hi77 => (simp only [List.getElem?_toArray, List.getElem?_cons_zero, List.getElem?_cons_succ]; exact rfl)
          case hd77 => rfl
          case hw77 => rfl
          case hy77 => (intro w hSw; (try dsimp only at hSw); go_simp; try with_reducible rfl)
          try simp only [Act.put, List.setIfInBounds_toArray, List.set_cons_zero, List.set_cons_succ]
          refine take_yes (i := 13) (oi := ?o78) (d := (some 45)) (v := ?v78) ?hi78 (by kernel_rfl) (by kernel_rfl) (by kernel_rfl) (fun _ _ _ h => h) ?hd78 ?hw78 ?hy78 (by assumption) ?_
          case hi78 => (simp only [List.getElem?_toArray, List.getElem?_cons_zero, List.getElem?_cons_succ]; exact rfl)
          case hd78 => rfl
          case hw78 => rfl
          case hy78 => (intro w hSw; (try dsimp only at hSw); go_simp; try with_reducible rfl)
          try simp only [Act.put, List.setIfInBounds_toArray, List.set_cons_zero, List.set_cons_succ]
          refine take_yes (i := 14) (oi := ?o79) (d := (some 46)) (v := ?v79) ?hi79 (by kernel_rfl) (by kernel_rfl) (by kernel_rfl) (fun _ _ _ h => h) ?hd79 ?hw79 ?hy79 (by assumption) ?_
          case hi79 => (simp only [List.getElem?_toArray, List.getElem?_cons_zero, List.getElem?_cons_succ]; exact rfl)
          case hd79 => rfl
          case hw79 => rfl
          case hy79 => (intro w hSw; (try dsimp only at hSw); go_simp; try with_reducible rfl)
          try simp only [Act.put, List.setIfInBounds_toArray, List.set_cons_zero, List.set_cons_succ]
          refine take_yes (i := 15) (oi := ?o80) (d := (some 47)) (v := ?v80) ?hi80 (by kernel_rfl) (by kernel_rfl) (by kernel_rfl) (fun _ _ _ h => h) ?hd80 ?hw80 ?hy80 (by assumption) ?_
          case hi80 => (simp only [List.getElem?_toArray, List.getElem?_cons_zero, List.getElem?_cons_succ]; exact rfl)
          case hd80 => rfl
          case hw80 => rfl
          case hy80 => (intro w hSw; (try dsimp only at hSw); go_simp; try with_reducible rfl)
          try simp only [Act.put, List.setIfInBounds_toArray, List.set_cons_zero, List.set_cons_succ]
          refine take_yes (i := 16) (oi := ?o81) (d := (some 48)) (v := ?v81) ?hi81 (by kernel_rfl) (by kernel_rfl) (by kernel_rfl) (fun _ _ _ h => h) ?hd81 ?hw81 ?hy81 (by assumption) ?_
          case hi81 => (simp only [List.getElem?_toArray, List.getElem?_cons_zero, List.getElem?_cons_succ]; exact rfl)
          case hd81 => rfl
          case hw81 => rfl
          case hy81 => (intro w hSw; (try dsimp only at hSw); go_simp; try with_reducible rfl)
          try simp only [Act.put, List.setIfInBounds_toArray, List.set_cons_zero, List.set_cons_succ]
          refine take_yes (i := 17) (oi := ?o82) (d := (some 6)) (v := ?v82) ?hi82 (by kernel_rfl) (by kernel_rfl) (by kernel_rfl) (fun _ _ _ h => h) ?hd82 ?hw82 ?hy82 (by assumption) ?_
          case hi82 => (simp only [List.getElem?_toArray, List.getElem?_cons_zero, List.getElem?_cons_succ]; exact rfl)
          case hd82 => rfl
          case hw82 => rfl
          case hy82 => (intro w hSw; (try dsimp only at hSw); go_simp; try with_reducible rfl)
          try simp only [Act.put, List.setIfInBounds_toArray, List.set_cons_zero, List.set_cons_succ]
          refine wpAnyH_done (by kernel_rfl) ?_ _
          go_wp2_with fail
          go_ret
          exact ⟨by rw [h1, h2]; rfl, ext_trans HB2.out (hb6')⟩

end Go.Proofs.YtpoijhjjbmaedaaGreatDoor.Hp
end
