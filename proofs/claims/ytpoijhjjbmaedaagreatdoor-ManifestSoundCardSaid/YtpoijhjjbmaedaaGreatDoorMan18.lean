/- The kit's lent lists of lines and of bookings, as they were. -/
import Derived.Test.YtpoijhjjbmaedaaGreatDoorMan17
set_option linter.unusedVariables false
set_option linter.unusedSimpArgs false
namespace Go.Proofs.YtpoijhjjbmaedaaGreatDoor.Man
open Go.RowKit

theorem rowC_left {l m : List Ln} {i : Nat} (h : i < l.length) : rowC (l ++ m) i = lineL (l.getD i d0) := by
  unfold rowC; rw [List.getD_eq_getElem?_getD, List.getElem?_append_left h, ← List.getD_eq_getElem?_getD]
theorem rowC_mark {l : List Ln} {i : Nat} (h1 : l.length ≤ i) (h2 : i < l.length + 12) : rowC (l ++ lnMarks 12) i = lineL (mkLn 1 (i - l.length)) := by
  unfold rowC
  rw [List.getD_eq_getElem?_getD, List.getElem?_append_right h1]
  unfold lnMarks
  rw [List.getElem?_map, List.getElem?_range (by omega)]; rfl
-- gangwaykit.KeptLines, a lent list that stayed
set_option maxRecDepth 100000 in
set_option maxHeartbeats 2000000 in
theorem KeptLines_in (S : Nat → Prop) (l : List Ln) (g cap : Nat) (A : Option Addr) (c : Nat) (w : World) (hR : RowIn S w 74 3 (.slice (some ⟨g, 0, none⟩) (l.length + 12) cap) (l.length + 12) (rowC (l ++ lnMarks 12))) (hI : Lines w A l) (hlen : l.length * 40 ≤ 140737488351232) :
    Calls Tryz.prog 22 #[.slice (some ⟨g, 0, none⟩) l.length cap, .slice A l.length c] w fun e w' => e = .returned (.bool true) ∧ Below w.heap.size w w' := by
  have hcap := own_cap hR
  have hgl : g < w.heap.size := (own_lt hR.own rfl).1
  obtain ⟨L, hL⟩ : ∃ L, l.length = L := ⟨_, rfl⟩
  have HR := Lib.hid hR; have HI := Lib.hid hI; have HLL := Lib.hid hL
  have HGL := Lib.hid hgl
  rw [hL] at hcap hlen ⊢
  have hcap2 : (L : Int) + 12 ≤ (cap : Int) := by omega
  clear hR hI hL hgl hcap
  go_enter Tryz.func22, Tryz.ntmps22
  go_wp2_with fail
  go_loopw [6] (fun i wr => ∃ k : Nat, k ≤ L + 12 ∧ i = .int .i64 k ∧ Below w.heap.size w wr) (fun i _ => (L + 12 - intOf i).toNat)
  case atStart => exact ⟨0, by omega, rfl, Below.refl _ _⟩
  case round =>
    obtain ⟨k, hk, rfl, hb⟩ := hrel
    have h0 : (0 : Int) ≤ (k : Int) := by omega
    have HB := Lib.hid hb
    have hgl : g < wr.heap.size := Nat.lt_of_lt_of_le HGL.out hb.size
    clear hb
    by_cases h : k < L
    · have hne : l ≠ [] := by intro e; have := HLL.out; subst e; simp at this; omega
      obtain ⟨g2, off2, hA, hgl2, hr2⟩ := (HI.out.keep HB.out) hne
      subst hA
      have q2 := hr2 k (by rw [HLL.out]; exact h)
      have q := (HR.out.keep HB.out).range (rowC_len _) (i := k) (by rw [HLL.out]; omega)
      rw [rowC_left (by rw [HLL.out]; exact h)] at q
      obtain ⟨x, hx⟩ : ∃ x, l.getD k d0 = x := ⟨_, rfl⟩
      have hx2 : l.getD k ⟨⟨#[]⟩, ⟨#[]⟩, false⟩ = x := hx
      rw [hx] at q
      rw [hx2] at q2
      obtain ⟨xa, xb, xc⟩ := x
      have y0 : wr.cell? ⟨g, k * 3, none⟩ = some (.string xa) := q 0 _ rfl
      have y1 : wr.cell? ⟨g, k * 3 + 1, none⟩ = some (.string xb) := q 1 _ rfl
      have y2 : wr.cell? ⟨g, k * 3 + 2, none⟩ = some (.bool xc) := q 2 _ rfl
      have z0 : wr.cell? ⟨g2, off2 + k * 3, none⟩ = some (.string xa) := q2 0 _ rfl
      have z1 : wr.cell? ⟨g2, off2 + k * 3 + 1, none⟩ = some (.string xb) := q2 1 _ rfl
      have z2 : wr.cell? ⟨g2, off2 + k * 3 + 2, none⟩ = some (.bool xc) := q2 2 _ rfl
      have h9 : (k : Int) < (L : Int) := by omega
      have h11 : ¬ L ≤ k := by omega
      clear q q2 hr2 hx hx2 hne hgl hgl2
      go_wp2_with fail
      refine wp_region_quiet_lit (by kernel_rfl) (by kernel_rfl) ?_
      repeat (first | go_big_quiet_step ((fail)) | quiet_step ((fail)))
      refine wpQuiet_nil ?_
      intro _ hw'
      obtain ⟨nq, hw''⟩ := hw'
      subst hw''
      go_wp2_with fail
      go_roundw
      case rel => exact ⟨k + 1, by omega, by go_num, by first | exact ext_drew HB.out | exact ext_drewN HB.out _ | exact HB.out⟩
      case measure => simp [intOf]; omega
    · by_cases h2 : k < L + 12
      · have q := (HR.out.keep HB.out).range (rowC_len _) (i := k) (by rw [HLL.out]; omega)
        rw [rowC_mark (by rw [HLL.out]; omega) (by rw [HLL.out]; omega)] at q
        have hmk : ∀ W : World, Calls Tryz.prog 54 #[.int .i64 1, .int .i64 ((k : Int) - (L : Int))] W fun e w' => e = .returned (.agg #[.string (mkT 1 (k - l.length)), .string ⟨#[]⟩, .bool false]) ∧ Below W.heap.size W w' := fun W => by
          have := MarkLine 1 (k - l.length) (by omega) (by have := HLL.out; omega) W
          rw [show (((k - l.length : Nat)) : Int) = (k : Int) - (L : Int) by have := HLL.out; omega] at this
          exact this
        have h9 : (L : Int) ≤ (k : Int) := by omega
        have h11 : L ≤ k := by omega
        have h10 : (k : Int) < (L : Int) + 12 := by omega
        have v1 : IntKind.i64.wrap ((k : Int) - (L : Int)) = (k : Int) - (L : Int) := IntWalk.i64_in _ (by omega)
        have w0 : wr.cell? ⟨g, k * 3, none⟩ = some (.string (mkT 1 (k - l.length))) := q 0 _ rfl
        have w1 : wr.cell? ⟨g, k * 3 + 1, none⟩ = some (.string ⟨#[]⟩) := q 1 _ rfl
        have w2 : wr.cell? ⟨g, k * 3 + 2, none⟩ = some (.bool false) := q 2 _ rfl
        obtain ⟨X, hX⟩ : ∃ X, mkT 1 (k - l.length) = X := ⟨_, rfl⟩
        rw [hX] at w0 hmk
        have HMK := Lib.hid hmk
        have v0 := w0; have v1' := w1; have v2 := w2
        clear hmk hX q w0 w1 w2
        go_wp2_with fail
        refine wp_region_held_drew (S := (fun w' => w'.cell? ⟨g, k * 3, none⟩ = some (.string X) ∧ w'.cell? ⟨g, k * 3 + 1, none⟩ = some (.string ⟨#[]⟩) ∧ w'.cell? ⟨g, k * 3 + 2, none⟩ = some (.bool false) ∧ Below w.heap.size w w')) (by kernel_rfl) (by exact ⟨v0, v1', v2, ext_drew HB.out⟩) (fun hHeld => ?_)
        refine take_yes (i := 0) (oi := ?o1) (d := (some 23)) (v := ?v1) ?hi1 (by kernel_rfl) (by kernel_rfl) (by kernel_rfl) (fun _ _ _ h => h) ?hd1 ?hw1 ?hy1 (by assumption) ?_
        case hi1 => (simp only [List.getElem?_toArray, List.getElem?_cons_zero]; exact rfl)
        case hd1 => rfl
        case hw1 => rfl
        case hy1 => (intro w hSw; (try dsimp only at hSw); go_simp; try with_reducible rfl)
        try simp only [Act.put, List.setIfInBounds_toArray, List.set_cons_zero, List.set_cons_succ]
        refine take_yes (i := 1) (oi := ?o2) (d := (some 24)) (v := ?v2) ?hi2 (by kernel_rfl) (by kernel_rfl) (by kernel_rfl) (fun _ _ _ h => h) ?hd2 ?hw2 ?hy2 (by assumption) ?_
        case hi2 => (simp only [List.getElem?_toArray, List.getElem?_cons_zero, List.getElem?_cons_succ]; exact rfl)
        case hd2 => rfl
        case hw2 => rfl
        case hy2 => (intro w hSw; (try dsimp only at hSw); go_simp; try with_reducible rfl)
        try simp only [Act.put, List.setIfInBounds_toArray, List.set_cons_zero, List.set_cons_succ]
        refine take_yes (i := 2) (oi := ?o3) (d := (some 25)) (v := ?v3) ?hi3 (by kernel_rfl) (by kernel_rfl) (by kernel_rfl) (fun _ _ _ h => h) ?hd3 ?hw3 ?hy3 (by assumption) ?_
        case hi3 => (simp only [List.getElem?_toArray, List.getElem?_cons_zero, List.getElem?_cons_succ]; exact rfl)
        case hd3 => rfl
        case hw3 => rfl
        case hy3 => (intro w hSw; (try dsimp only at hSw); go_simp; try with_reducible rfl)
        try simp only [Act.put, List.setIfInBounds_toArray, List.set_cons_zero, List.set_cons_succ]
        refine take_yes (i := 3) (oi := ?o4) (d := (some 26)) (v := ?v4) ?hi4 (by kernel_rfl) (by kernel_rfl) (by kernel_rfl) (fun _ _ _ h => h) ?hd4 ?hw4 ?hy4 (by assumption) ?_
        case hi4 => (simp only [List.getElem?_toArray, List.getElem?_cons_zero, List.getElem?_cons_succ]; exact rfl)
        case hd4 => rfl
        case hw4 => rfl
        case hy4 => (intro w hSw; (try dsimp only at hSw); go_simp; try with_reducible rfl)
        try simp only [Act.put, List.setIfInBounds_toArray, List.set_cons_zero, List.set_cons_succ]
        refine take_yes (i := 4) (oi := ?o5) (d := (some 27)) (v := ?v5) ?hi5 (by kernel_rfl) (by kernel_rfl) (by kernel_rfl) (fun _ _ _ h => h) ?hd5 ?hw5 ?hy5 (by assumption) ?_
        case hi5 => (simp only [List.getElem?_toArray, List.getElem?_cons_zero, List.getElem?_cons_succ]; exact rfl)
        case hd5 => rfl
        case hw5 => rfl
        case hy5 => (intro w hSw; (try dsimp only at hSw); go_simp; try with_reducible rfl)
        try simp only [Act.put, List.setIfInBounds_toArray, List.set_cons_zero, List.set_cons_succ]
        refine take_no (i := 5) (oi := ?o6) (d := (some 28)) ?hi6 (by kernel_rfl) (by kernel_rfl) (by kernel_rfl) (fun _ _ _ h => h) ?hd6 ?hw6 (by assumption) ?_
        case hi6 => (simp only [List.getElem?_toArray, List.getElem?_cons_zero, List.getElem?_cons_succ]; exact rfl)
        case hd6 => rfl
        case hw6 => rfl
        try simp only [Act.put, List.setIfInBounds_toArray, List.set_cons_zero, List.set_cons_succ]
        refine take_no (i := 6) (oi := ?o7) (d := (some 29)) ?hi7 (by kernel_rfl) (by kernel_rfl) (by kernel_rfl) (fun _ _ _ h => h) ?hd7 ?hw7 (by assumption) ?_
        case hi7 => (simp only [List.getElem?_toArray, List.getElem?_cons_zero, List.getElem?_cons_succ]; exact rfl)
        case hd7 => rfl
        case hw7 => rfl
        try simp only [Act.put, List.setIfInBounds_toArray, List.set_cons_zero, List.set_cons_succ]
        refine take_no (i := 7) (oi := ?o8) (d := (some 30)) ?hi8 (by kernel_rfl) (by kernel_rfl) (by kernel_rfl) (fun _ _ _ h => h) ?hd8 ?hw8 (by assumption) ?_
        case hi8 => (simp only [List.getElem?_toArray, List.getElem?_cons_zero, List.getElem?_cons_succ]; exact rfl)
        case hd8 => rfl
        case hw8 => rfl
        try simp only [Act.put, List.setIfInBounds_toArray, List.set_cons_zero, List.set_cons_succ]
        refine take_no (i := 8) (oi := ?o9) (d := (some 31)) ?hi9 (by kernel_rfl) (by kernel_rfl) (by kernel_rfl) (fun _ _ _ h => h) ?hd9 ?hw9 (by assumption) ?_
        case hi9 => (simp only [List.getElem?_toArray, List.getElem?_cons_zero, List.getElem?_cons_succ]; exact rfl)
        case hd9 => rfl
        case hw9 => rfl
        try simp only [Act.put, List.setIfInBounds_toArray, List.set_cons_zero, List.set_cons_succ]
        refine take_no (i := 9) (oi := ?o10) (d := (some 32)) ?hi10 (by kernel_rfl) (by kernel_rfl) (by kernel_rfl) (fun _ _ _ h => h) ?hd10 ?hw10 (by assumption) ?_
        case hi10 => (simp only [List.getElem?_toArray, List.getElem?_cons_zero, List.getElem?_cons_succ]; exact rfl)
        case hd10 => rfl
        case hw10 => rfl
        try simp only [Act.put, List.setIfInBounds_toArray, List.set_cons_zero, List.set_cons_succ]
        refine take_no (i := 10) (oi := ?o11) (d := (some 33)) ?hi11 (by kernel_rfl) (by kernel_rfl) (by kernel_rfl) (fun _ _ _ h => h) ?hd11 ?hw11 (by assumption) ?_
        case hi11 => (simp only [List.getElem?_toArray, List.getElem?_cons_zero, List.getElem?_cons_succ]; exact rfl)
        case hd11 => rfl
        case hw11 => rfl
        try simp only [Act.put, List.setIfInBounds_toArray, List.set_cons_zero, List.set_cons_succ]
        refine take_no (i := 11) (oi := ?o12) (d := (some 34)) ?hi12 (by kernel_rfl) (by kernel_rfl) (by kernel_rfl) (fun _ _ _ h => h) ?hd12 ?hw12 (by assumption) ?_
        case hi12 => (simp only [List.getElem?_toArray, List.getElem?_cons_zero, List.getElem?_cons_succ]; exact rfl)
        case hd12 => rfl
        case hw12 => rfl
        try simp only [Act.put, List.setIfInBounds_toArray, List.set_cons_zero, List.set_cons_succ]
        refine take_no (i := 12) (oi := ?o13) (d := (some 35)) ?hi13 (by kernel_rfl) (by kernel_rfl) (by kernel_rfl) (fun _ _ _ h => h) ?hd13 ?hw13 (by assumption) ?_
        case hi13 => (simp only [List.getElem?_toArray, List.getElem?_cons_zero, List.getElem?_cons_succ]; exact rfl)
        case hd13 => rfl
        case hw13 => rfl
        try simp only [Act.put, List.setIfInBounds_toArray, List.set_cons_zero, List.set_cons_succ]
        refine take_no (i := 13) (oi := ?o14) (d := (some 36)) ?hi14 (by kernel_rfl) (by kernel_rfl) (by kernel_rfl) (fun _ _ _ h => h) ?hd14 ?hw14 (by assumption) ?_
        case hi14 => (simp only [List.getElem?_toArray, List.getElem?_cons_zero, List.getElem?_cons_succ]; exact rfl)
        case hd14 => rfl
        case hw14 => rfl
        try simp only [Act.put, List.setIfInBounds_toArray, List.set_cons_zero, List.set_cons_succ]
        refine take_no (i := 14) (oi := ?o15) (d := (some 37)) ?hi15 (by kernel_rfl) (by kernel_rfl) (by kernel_rfl) (fun _ _ _ h => h) ?hd15 ?hw15 (by assumption) ?_
        case hi15 => (simp only [List.getElem?_toArray, List.getElem?_cons_zero, List.getElem?_cons_succ]; exact rfl)
        case hd15 => rfl
        case hw15 => rfl
        try simp only [Act.put, List.setIfInBounds_toArray, List.set_cons_zero, List.set_cons_succ]
        refine take_yes (i := 15) (oi := ?o16) (d := (some 38)) (v := ?v16) ?hi16 (by kernel_rfl) (by kernel_rfl) (by kernel_rfl) (fun _ _ _ h => h) ?hd16 ?hw16 ?hy16 (by assumption) ?_
        case hi16 => (simp only [List.getElem?_toArray, List.getElem?_cons_zero, List.getElem?_cons_succ]; exact rfl)
        case hd16 => rfl
        case hw16 => rfl
        case hy16 => (intro w hSw; (try dsimp only at hSw); go_simp; try with_reducible rfl)
        try simp only [Act.put, List.setIfInBounds_toArray, List.set_cons_zero, List.set_cons_succ]
        refine take_yes (i := 16) (oi := ?o17) (d := (some 39)) (v := ?v17) ?hi17 (by kernel_rfl) (by kernel_rfl) (by kernel_rfl) (fun _ _ _ h => h) ?hd17 ?hw17 ?hy17 (by assumption) ?_
        case hi17 => (simp only [List.getElem?_toArray, List.getElem?_cons_zero, List.getElem?_cons_succ]; exact rfl)
        case hd17 => rfl
        case hw17 => rfl
        case hy17 => (intro w hSw; (try dsimp only at hSw); go_simp; try with_reducible rfl)
        try simp only [Act.put, List.setIfInBounds_toArray, List.set_cons_zero, List.set_cons_succ]
        refine take_yes (i := 17) (oi := ?o18) (d := (some 40)) (v := ?v18) ?hi18 (by kernel_rfl) (by kernel_rfl) (by kernel_rfl) (fun _ _ _ h => h) ?hd18 ?hw18 ?hy18 (by assumption) ?_
        case hi18 => (simp only [List.getElem?_toArray, List.getElem?_cons_zero, List.getElem?_cons_succ]; exact rfl)
        case hd18 => rfl
        case hw18 => rfl
        case hy18 => (intro w hSw; (try dsimp only at hSw); go_simp; try with_reducible rfl)
        try simp only [Act.put, List.setIfInBounds_toArray, List.set_cons_zero, List.set_cons_succ]
        refine take_yes (i := 18) (oi := ?o19) (d := (some 41)) (v := ?v19) ?hi19 (by kernel_rfl) (by kernel_rfl) (by kernel_rfl) (fun _ _ _ h => h) ?hd19 ?hw19 ?hy19 (by assumption) ?_
        case hi19 => (simp only [List.getElem?_toArray, List.getElem?_cons_zero, List.getElem?_cons_succ]; exact rfl)
        case hd19 => rfl
        case hw19 => rfl
        case hy19 => (intro w hSw; (try dsimp only at hSw); go_simp; try with_reducible rfl)
        try simp only [Act.put, List.setIfInBounds_toArray, List.set_cons_zero, List.set_cons_succ]
        refine take_yes (i := 19) (oi := ?o20) (d := (some 42)) (v := ?v20) ?hi20 (by kernel_rfl) (by kernel_rfl) (by kernel_rfl) (fun _ _ _ h => h) ?hd20 ?hw20 ?hy20 (by assumption) ?_
        case hi20 => (simp only [List.getElem?_toArray, List.getElem?_cons_zero, List.getElem?_cons_succ]; exact rfl)
        case hd20 => rfl
        case hw20 => rfl
        case hy20 => (intro w hSw; (try dsimp only at hSw); go_simp; try with_reducible rfl)
        try simp only [Act.put, List.setIfInBounds_toArray, List.set_cons_zero, List.set_cons_succ]
        refine take_yes (i := 20) (oi := ?o21) (d := (some 43)) (v := ?v21) ?hi21 (by kernel_rfl) (by kernel_rfl) (by kernel_rfl) (fun _ _ _ h => h) ?hd21 ?hw21 ?hy21 (by assumption) ?_
        case hi21 => (simp only [List.getElem?_toArray, List.getElem?_cons_zero, List.getElem?_cons_succ]; exact rfl)
        case hd21 => rfl
        case hw21 => rfl
        case hy21 => (intro w hSw; (try dsimp only at hSw); go_simp; try with_reducible rfl)
        try simp only [Act.put, List.setIfInBounds_toArray, List.set_cons_zero, List.set_cons_succ]
        refine take_yes (i := 21) (oi := ?o22) (d := (some 44)) (v := ?v22) ?hi22 (by kernel_rfl) (by kernel_rfl) (by kernel_rfl) (fun _ _ _ h => h) ?hd22 ?hw22 ?hy22 (by assumption) ?_
        case hi22 => (simp only [List.getElem?_toArray, List.getElem?_cons_zero, List.getElem?_cons_succ]; exact rfl)
        case hd22 => rfl
        case hw22 => rfl
        case hy22 => (intro w hSw; (try dsimp only at hSw); go_simp; try with_reducible rfl)
        try simp only [Act.put, List.setIfInBounds_toArray, List.set_cons_zero, List.set_cons_succ]
        refine take_yes (i := 22) (oi := ?o23) (d := (some 45)) (v := ?v23) ?hi23 (by kernel_rfl) (by kernel_rfl) (by kernel_rfl) (fun _ _ _ h => h) ?hd23 ?hw23 ?hy23 (by assumption) ?_
        case hi23 => (simp only [List.getElem?_toArray, List.getElem?_cons_zero, List.getElem?_cons_succ]; exact rfl)
        case hd23 => rfl
        case hw23 => rfl
        case hy23 => (intro w hSw; (try dsimp only at hSw); go_simp; try with_reducible rfl)
        try simp only [Act.put, List.setIfInBounds_toArray, List.set_cons_zero, List.set_cons_succ]
        refine take_yes (i := 23) (oi := ?o24) (d := (some 46)) (v := ?v24) ?hi24 (by kernel_rfl) (by kernel_rfl) (by kernel_rfl) (fun _ _ _ h => h) ?hd24 ?hw24 ?hy24 (by assumption) ?_
        case hi24 => (simp only [List.getElem?_toArray, List.getElem?_cons_zero, List.getElem?_cons_succ]; exact rfl)
        case hd24 => rfl
        case hw24 => rfl
        case hy24 => (intro w hSw; (try dsimp only at hSw); go_simp; try with_reducible rfl)
        try simp only [Act.put, List.setIfInBounds_toArray, List.set_cons_zero, List.set_cons_succ]
        refine take_yes (i := 24) (oi := ?o25) (d := (some 47)) (v := ?v25) ?hi25 (by kernel_rfl) (by kernel_rfl) (by kernel_rfl) (fun _ _ _ h => h) ?hd25 ?hw25 ?hy25 (by assumption) ?_
        case hi25 => (simp only [List.getElem?_toArray, List.getElem?_cons_zero, List.getElem?_cons_succ]; exact rfl)
        case hd25 => rfl
        case hw25 => rfl
        case hy25 => (intro w hSw; (try dsimp only at hSw); go_simp; try with_reducible rfl)
        try simp only [Act.put, List.setIfInBounds_toArray, List.set_cons_zero, List.set_cons_succ]
        refine take_yes (i := 25) (oi := ?o26) (d := (some 48)) (v := ?v26) ?hi26 (by kernel_rfl) (by kernel_rfl) (by kernel_rfl) (fun _ _ _ h => h) ?hd26 ?hw26 ?hy26 (by assumption) ?_
        case hi26 => (simp only [List.getElem?_toArray, List.getElem?_cons_zero, List.getElem?_cons_succ]; exact rfl)
        case hd26 => rfl
        case hw26 => rfl
        case hy26 => (intro w hSw; (try dsimp only at hSw); go_simp; try with_reducible rfl)
        try simp only [Act.put, List.setIfInBounds_toArray, List.set_cons_zero, List.set_cons_succ]
        refine take_yes (i := 26) (oi := ?o27) (d := (some 49)) (v := ?v27) ?hi27 (by kernel_rfl) (by kernel_rfl) (by kernel_rfl) (fun _ _ _ h => h) ?hd27 ?hw27 ?hy27 (by assumption) ?_
        case hi27 => (simp only [List.getElem?_toArray, List.getElem?_cons_zero, List.getElem?_cons_succ]; exact rfl)
        case hd27 => rfl
        case hw27 => rfl
        case hy27 => (intro w hSw; (try dsimp only at hSw); go_simp; try with_reducible rfl)
        try simp only [Act.put, List.setIfInBounds_toArray, List.set_cons_zero, List.set_cons_succ]
        refine take_yes (i := 27) (oi := ?o28) (d := (some 50)) (v := ?v28) ?hi28 (by kernel_rfl) (by kernel_rfl) (by kernel_rfl) (fun _ _ _ h => h) ?hd28 ?hw28 ?hy28 (by assumption) ?_
        case hi28 => (simp only [List.getElem?_toArray, List.getElem?_cons_zero, List.getElem?_cons_succ]; exact rfl)
        case hd28 => rfl
        case hw28 => rfl
        case hy28 => (intro w hSw; (try dsimp only at hSw); go_simp; try with_reducible rfl)
        try simp only [Act.put, List.setIfInBounds_toArray, List.set_cons_zero, List.set_cons_succ]
        refine take_yes (i := 28) (oi := ?o29) (d := (some 51)) (v := ?v29) ?hi29 (by kernel_rfl) (by kernel_rfl) (by kernel_rfl) (fun _ _ _ h => h) ?hd29 ?hw29 ?hy29 (by assumption) ?_
        case hi29 => (simp only [List.getElem?_toArray, List.getElem?_cons_zero, List.getElem?_cons_succ]; exact rfl)
        case hd29 => rfl
        case hw29 => rfl
        case hy29 => (intro w hSw; (try dsimp only at hSw); go_simp; try with_reducible rfl)
        try simp only [Act.put, List.setIfInBounds_toArray, List.set_cons_zero, List.set_cons_succ]
        refine take_yes (i := 29) (oi := ?o30) (d := (some 52)) (v := ?v30) ?hi30 (by kernel_rfl) (by kernel_rfl) (by kernel_rfl) (fun _ _ _ h => h) ?hd30 ?hw30 ?hy30 (by assumption) ?_
        case hi30 => (simp only [List.getElem?_toArray, List.getElem?_cons_zero, List.getElem?_cons_succ]; exact rfl)
        case hd30 => rfl
        case hw30 => rfl
        case hy30 => (intro w hSw; (try dsimp only at hSw); go_simp; try with_reducible rfl)
        try simp only [Act.put, List.setIfInBounds_toArray, List.set_cons_zero, List.set_cons_succ]
        refine wpAnyH_ready (rs := [30]) (by kernel_rfl) (by simp) ?_
        refine AllReadyH.cons rfl (fun K hK => ?_) AllReadyH.nil
        go_simp
        (go_at_call 54; refine (HMK.out _).mono ?_; rintro e w3 ⟨rfl, hb3⟩)
        go_wp2_with fail
        refine hK.out _ _ (by exact ⟨(hb3.cell (p := ⟨g, k * 3, none⟩) hgl).trans v0, (hb3.cell (p := ⟨g, k * 3 + 1, none⟩) hgl).trans v1', (hb3.cell (p := ⟨g, k * 3 + 2, none⟩) hgl).trans v2, ext_trans (ext_drew HB.out) hb3⟩) (fun hHeld30 => ?_)
        clear hK K
        try simp only [Act.put, List.setIfInBounds_toArray, List.set_cons_zero, List.set_cons_succ]
        refine take_yes (i := 31) (oi := ?o31) (d := (some 54)) (v := ?v31) ?hi31 (by kernel_rfl) (by kernel_rfl) (by kernel_rfl) (fun _ _ _ h => h) ?hd31 ?hw31 ?hy31 (by assumption) ?_
        case hi31 => (simp only [List.getElem?_toArray, List.getElem?_cons_zero, List.getElem?_cons_succ]; exact rfl)
        case hd31 => rfl
        case hw31 => rfl
        case hy31 => (intro w hSw; (try dsimp only at hSw); go_simp; try with_reducible rfl)
        try simp only [Act.put, List.setIfInBounds_toArray, List.set_cons_zero, List.set_cons_succ]
        refine take_yes (i := 32) (oi := ?o32) (d := (some 55)) (v := ?v32) ?hi32 (by kernel_rfl) (by kernel_rfl) (by kernel_rfl) (fun _ _ _ h => h) ?hd32 ?hw32 ?hy32 (by assumption) ?_
        case hi32 => (simp only [List.getElem?_toArray, List.getElem?_cons_zero, List.getElem?_cons_succ]; exact rfl)
        case hd32 => rfl
        case hw32 => rfl
        case hy32 => (intro w hSw; (try dsimp only at hSw); go_simp; try with_reducible rfl)
        try simp only [Act.put, List.setIfInBounds_toArray, List.set_cons_zero, List.set_cons_succ]
        refine take_yes (i := 33) (oi := ?o33) (d := (some 56)) (v := ?v33) ?hi33 (by kernel_rfl) (by kernel_rfl) (by kernel_rfl) (fun _ _ _ h => h) ?hd33 ?hw33 ?hy33 (by assumption) ?_
        case hi33 => (simp only [List.getElem?_toArray, List.getElem?_cons_zero, List.getElem?_cons_succ]; exact rfl)
        case hd33 => rfl
        case hw33 => rfl
        case hy33 => (intro w hSw; (try dsimp only at hSw); go_simp; try with_reducible rfl)
        try simp only [Act.put, List.setIfInBounds_toArray, List.set_cons_zero, List.set_cons_succ]
        refine take_yes (i := 34) (oi := ?o34) (d := (some 57)) (v := ?v34) ?hi34 (by kernel_rfl) (by kernel_rfl) (by kernel_rfl) (fun _ _ _ h => h) ?hd34 ?hw34 ?hy34 (by assumption) ?_
        case hi34 => (simp only [List.getElem?_toArray, List.getElem?_cons_zero, List.getElem?_cons_succ]; exact rfl)
        case hd34 => rfl
        case hw34 => rfl
        case hy34 => (intro w hSw; (try dsimp only at hSw); go_simp; try with_reducible rfl)
        try simp only [Act.put, List.setIfInBounds_toArray, List.set_cons_zero, List.set_cons_succ]
        refine wpAnyH_done (by kernel_rfl) ?_ _
        go_wp2_with fail
        go_roundw
        case rel => exact ⟨k + 1, by omega, by go_num, ext_trans (ext_drew HB.out) hb3⟩
        case measure => simp [intOf]; omega
      · obtain rfl : k = L + 12 := by omega
        go_wp2_with fail
        go_ret
        exact ⟨rfl, by first | exact ext_drew HB.out | exact ext_drewN HB.out _ | exact HB.out⟩

theorem rowR_left {l m : List Bk.Raw} {i : Nat} (h : i < l.length) : rowR (l ++ m) i = Bk.rawL (l.getD i r0) := by
  unfold rowR; rw [List.getD_eq_getElem?_getD, List.getElem?_append_left h, ← List.getD_eq_getElem?_getD]
theorem rowR_mark {l : List Bk.Raw} {i : Nat} (h1 : l.length ≤ i) (h2 : i < l.length + 12) : rowR (l ++ rwMarks 12) i = Bk.rawL (mkRaw 1 (i - l.length)) := by
  unfold rowR
  rw [List.getD_eq_getElem?_getD, List.getElem?_append_right h1]
  unfold rwMarks
  rw [List.getElem?_map, List.getElem?_range (by omega)]; rfl
-- gangwaykit.KeptBookings, a lent list that stayed
set_option maxRecDepth 100000 in
set_option maxHeartbeats 2000000 in
theorem KeptBookings_in (S : Nat → Prop) (l : List Bk.Raw) (g cap : Nat) (A : Option Addr) (c : Nat) (w : World) (hR : RowIn S w 78 3 (.slice (some ⟨g, 0, none⟩) (l.length + 12) cap) (l.length + 12) (rowR (l ++ rwMarks 12))) (hI : Bk.Raws w A l) (hlen : l.length * 24 ≤ 140737488351232) :
    Calls Tryz.prog 28 #[.slice (some ⟨g, 0, none⟩) l.length cap, .slice A l.length c] w fun e w' => e = .returned (.bool true) ∧ Below w.heap.size w w' := by
  have hcap := own_cap hR
  have hgl : g < w.heap.size := (own_lt hR.own rfl).1
  obtain ⟨L, hL⟩ : ∃ L, l.length = L := ⟨_, rfl⟩
  have HR := Lib.hid hR; have HI := Lib.hid hI; have HLL := Lib.hid hL
  have HGL := Lib.hid hgl
  rw [hL] at hcap hlen ⊢
  have hcap2 : (L : Int) + 12 ≤ (cap : Int) := by omega
  clear hR hI hL hgl hcap
  go_enter Tryz.func28, Tryz.ntmps28
  go_wp2_with fail
  go_loopw [6] (fun i wr => ∃ k : Nat, k ≤ L + 12 ∧ i = .int .i64 k ∧ Below w.heap.size w wr) (fun i _ => (L + 12 - intOf i).toNat)
  case atStart => exact ⟨0, by omega, rfl, Below.refl _ _⟩
  case round =>
    obtain ⟨k, hk, rfl, hb⟩ := hrel
    have h0 : (0 : Int) ≤ (k : Int) := by omega
    have HB := Lib.hid hb
    have hgl : g < wr.heap.size := Nat.lt_of_lt_of_le HGL.out hb.size
    clear hb
    by_cases h : k < L
    · have hne : l ≠ [] := by intro e; have := HLL.out; subst e; simp at this; omega
      obtain ⟨g2, off2, hA, hgl2, hr2⟩ := (HI.out.keep HB.out) hne
      subst hA
      have q2 := hr2 k (by rw [HLL.out]; exact h)
      have q := (HR.out.keep HB.out).range (rowR_len _) (i := k) (by rw [HLL.out]; omega)
      rw [rowR_left (by rw [HLL.out]; exact h)] at q
      obtain ⟨x, hx⟩ : ∃ x, l.getD k r0 = x := ⟨_, rfl⟩
      have hx2 : l.getD k ⟨0, 0, 0⟩ = x := hx
      rw [hx] at q
      rw [hx2] at q2
      obtain ⟨xa, xb, xc⟩ := x
      have y0 : wr.cell? ⟨g, k * 3, none⟩ = some (.int .u32 xa) := q 0 _ rfl
      have y1 : wr.cell? ⟨g, k * 3 + 1, none⟩ = some (.int .i64 xb) := q 1 _ rfl
      have y2 : wr.cell? ⟨g, k * 3 + 2, none⟩ = some (.int .i64 xc) := q 2 _ rfl
      have z0 : wr.cell? ⟨g2, off2 + k * 3, none⟩ = some (.int .u32 xa) := q2 0 _ rfl
      have z1 : wr.cell? ⟨g2, off2 + k * 3 + 1, none⟩ = some (.int .i64 xb) := q2 1 _ rfl
      have z2 : wr.cell? ⟨g2, off2 + k * 3 + 2, none⟩ = some (.int .i64 xc) := q2 2 _ rfl
      have h9 : (k : Int) < (L : Int) := by omega
      have h11 : ¬ L ≤ k := by omega
      clear q q2 hr2 hx hx2 hne hgl hgl2
      go_wp2_with fail
      refine wp_region_quiet_lit (by kernel_rfl) (by kernel_rfl) ?_
      repeat (first | go_big_quiet_step ((fail)) | quiet_step ((fail)))
      refine wpQuiet_nil ?_
      intro _ hw'
      obtain ⟨nq, hw''⟩ := hw'
      subst hw''
      go_wp2_with fail
      go_roundw
      case rel => exact ⟨k + 1, by omega, by go_num, by first | exact ext_drew HB.out | exact ext_drewN HB.out _ | exact HB.out⟩
      case measure => simp [intOf]; omega
    · by_cases h2 : k < L + 12
      · have q := (HR.out.keep HB.out).range (rowR_len _) (i := k) (by rw [HLL.out]; omega)
        rw [rowR_mark (by rw [HLL.out]; omega) (by rw [HLL.out]; omega)] at q
        have hmk : ∀ W : World, Calls Tryz.prog 61 #[.int .i64 1, .int .i64 ((k : Int) - (L : Int))] W fun e w' => e = .returned (.agg #[.int .u32 0, .int .i64 0, .int .i64 (mkV 1 (k - l.length))]) ∧ Below W.heap.size W w' := fun W => by
          have := MarkBooking 1 (k - l.length) (by omega) (by have := HLL.out; omega) W
          rw [show (((k - l.length : Nat)) : Int) = (k : Int) - (L : Int) by have := HLL.out; omega] at this
          exact this
        have h9 : (L : Int) ≤ (k : Int) := by omega
        have h11 : L ≤ k := by omega
        have h10 : (k : Int) < (L : Int) + 12 := by omega
        have v1 : IntKind.i64.wrap ((k : Int) - (L : Int)) = (k : Int) - (L : Int) := IntWalk.i64_in _ (by omega)
        have w0 : wr.cell? ⟨g, k * 3, none⟩ = some (.int .u32 0) := q 0 _ rfl
        have w1 : wr.cell? ⟨g, k * 3 + 1, none⟩ = some (.int .i64 0) := q 1 _ rfl
        have w2 : wr.cell? ⟨g, k * 3 + 2, none⟩ = some (.int .i64 (mkV 1 (k - l.length))) := q 2 _ rfl
        obtain ⟨X, hX⟩ : ∃ X, mkV 1 (k - l.length) = X := ⟨_, rfl⟩
        rw [hX] at w2 hmk
        have HMK := Lib.hid hmk
        have v0 := w0; have v1' := w1; have v2 := w2
        clear hmk hX q w0 w1 w2
        go_wp2_with fail
        refine wp_region_held_drew (S := (fun w' => w'.cell? ⟨g, k * 3, none⟩ = some (.int .u32 0) ∧ w'.cell? ⟨g, k * 3 + 1, none⟩ = some (.int .i64 0) ∧ w'.cell? ⟨g, k * 3 + 2, none⟩ = some (.int .i64 X) ∧ Below w.heap.size w w')) (by kernel_rfl) (by exact ⟨v0, v1', v2, ext_drew HB.out⟩) (fun hHeld => ?_)
        refine take_yes (i := 0) (oi := ?o35) (d := (some 23)) (v := ?v35) ?hi35 (by kernel_rfl) (by kernel_rfl) (by kernel_rfl) (fun _ _ _ h => h) ?hd35 ?hw35 ?hy35 (by assumption) ?_
        case hi35 => (simp only [List.getElem?_toArray, List.getElem?_cons_zero]; exact rfl)
        case hd35 => rfl
        case hw35 => rfl
        case hy35 => (intro w hSw; (try dsimp only at hSw); go_simp; try with_reducible rfl)
        try simp only [Act.put, List.setIfInBounds_toArray, List.set_cons_zero, List.set_cons_succ]
        refine take_yes (i := 1) (oi := ?o36) (d := (some 24)) (v := ?v36) ?hi36 (by kernel_rfl) (by kernel_rfl) (by kernel_rfl) (fun _ _ _ h => h) ?hd36 ?hw36 ?hy36 (by assumption) ?_
        case hi36 => (simp only [List.getElem?_toArray, List.getElem?_cons_zero, List.getElem?_cons_succ]; exact rfl)
        case hd36 => rfl
        case hw36 => rfl
        case hy36 => (intro w hSw; (try dsimp only at hSw); go_simp; try with_reducible rfl)
        try simp only [Act.put, List.setIfInBounds_toArray, List.set_cons_zero, List.set_cons_succ]
        refine take_yes (i := 2) (oi := ?o37) (d := (some 25)) (v := ?v37) ?hi37 (by kernel_rfl) (by kernel_rfl) (by kernel_rfl) (fun _ _ _ h => h) ?hd37 ?hw37 ?hy37 (by assumption) ?_
        case hi37 => (simp only [List.getElem?_toArray, List.getElem?_cons_zero, List.getElem?_cons_succ]; exact rfl)
        case hd37 => rfl
        case hw37 => rfl
        case hy37 => (intro w hSw; (try dsimp only at hSw); go_simp; try with_reducible rfl)
        try simp only [Act.put, List.setIfInBounds_toArray, List.set_cons_zero, List.set_cons_succ]
        refine take_yes (i := 3) (oi := ?o38) (d := (some 26)) (v := ?v38) ?hi38 (by kernel_rfl) (by kernel_rfl) (by kernel_rfl) (fun _ _ _ h => h) ?hd38 ?hw38 ?hy38 (by assumption) ?_
        case hi38 => (simp only [List.getElem?_toArray, List.getElem?_cons_zero, List.getElem?_cons_succ]; exact rfl)
        case hd38 => rfl
        case hw38 => rfl
        case hy38 => (intro w hSw; (try dsimp only at hSw); go_simp; try with_reducible rfl)
        try simp only [Act.put, List.setIfInBounds_toArray, List.set_cons_zero, List.set_cons_succ]
        refine take_yes (i := 4) (oi := ?o39) (d := (some 27)) (v := ?v39) ?hi39 (by kernel_rfl) (by kernel_rfl) (by kernel_rfl) (fun _ _ _ h => h) ?hd39 ?hw39 ?hy39 (by assumption) ?_
        case hi39 => (simp only [List.getElem?_toArray, List.getElem?_cons_zero, List.getElem?_cons_succ]; exact rfl)
        case hd39 => rfl
        case hw39 => rfl
        case hy39 => (intro w hSw; (try dsimp only at hSw); go_simp; try with_reducible rfl)
        try simp only [Act.put, List.setIfInBounds_toArray, List.set_cons_zero, List.set_cons_succ]
        refine take_no (i := 5) (oi := ?o40) (d := (some 28)) ?hi40 (by kernel_rfl) (by kernel_rfl) (by kernel_rfl) (fun _ _ _ h => h) ?hd40 ?hw40 (by assumption) ?_
        case hi40 => (simp only [List.getElem?_toArray, List.getElem?_cons_zero, List.getElem?_cons_succ]; exact rfl)
        case hd40 => rfl
        case hw40 => rfl
        try simp only [Act.put, List.setIfInBounds_toArray, List.set_cons_zero, List.set_cons_succ]
        refine take_no (i := 6) (oi := ?o41) (d := (some 29)) ?hi41 (by kernel_rfl) (by kernel_rfl) (by kernel_rfl) (fun _ _ _ h => h) ?hd41 ?hw41 (by assumption) ?_
        case hi41 => (simp only [List.getElem?_toArray, List.getElem?_cons_zero, List.getElem?_cons_succ]; exact rfl)
        case hd41 => rfl
        case hw41 => rfl
        try simp only [Act.put, List.setIfInBounds_toArray, List.set_cons_zero, List.set_cons_succ]
        refine take_no (i := 7) (oi := ?o42) (d := (some 30)) ?hi42 (by kernel_rfl) (by kernel_rfl) (by kernel_rfl) (fun _ _ _ h => h) ?hd42 ?hw42 (by assumption) ?_
        case hi42 => (simp only [List.getElem?_toArray, List.getElem?_cons_zero, List.getElem?_cons_succ]; exact rfl)
        case hd42 => rfl
        case hw42 => rfl
        try simp only [Act.put, List.setIfInBounds_toArray, List.set_cons_zero, List.set_cons_succ]
        refine take_no (i := 8) (oi := ?o43) (d := (some 31)) ?hi43 (by kernel_rfl) (by kernel_rfl) (by kernel_rfl) (fun _ _ _ h => h) ?hd43 ?hw43 (by assumption) ?_
        case hi43 => (simp only [List.getElem?_toArray, List.getElem?_cons_zero, List.getElem?_cons_succ]; exact rfl)
        case hd43 => rfl
        case hw43 => rfl
        try simp only [Act.put, List.setIfInBounds_toArray, List.set_cons_zero, List.set_cons_succ]
        refine take_no (i := 9) (oi := ?o44) (d := (some 32)) ?hi44 (by kernel_rfl) (by kernel_rfl) (by kernel_rfl) (fun _ _ _ h => h) ?hd44 ?hw44 (by assumption) ?_
        case hi44 => (simp only [List.getElem?_toArray, List.getElem?_cons_zero, List.getElem?_cons_succ]; exact rfl)
        case hd44 => rfl
        case hw44 => rfl
        try simp only [Act.put, List.setIfInBounds_toArray, List.set_cons_zero, List.set_cons_succ]
        refine take_no (i := 10) (oi := ?o45) (d := (some 33)) ?hi45 (by kernel_rfl) (by kernel_rfl) (by kernel_rfl) (fun _ _ _ h => h) ?hd45 ?hw45 (by assumption) ?_
        case hi45 => (simp only [List.getElem?_toArray, List.getElem?_cons_zero, List.getElem?_cons_succ]; exact rfl)
        case hd45 => rfl
        case hw45 => rfl
        try simp only [Act.put, List.setIfInBounds_toArray, List.set_cons_zero, List.set_cons_succ]
        refine take_no (i := 11) (oi := ?o46) (d := (some 34)) ?hi46 (by kernel_rfl) (by kernel_rfl) (by kernel_rfl) (fun _ _ _ h => h) ?hd46 ?hw46 (by assumption) ?_
        case hi46 => (simp only [List.getElem?_toArray, List.getElem?_cons_zero, List.getElem?_cons_succ]; exact rfl)
        case hd46 => rfl
        case hw46 => rfl
        try simp only [Act.put, List.setIfInBounds_toArray, List.set_cons_zero, List.set_cons_succ]
        refine take_no (i := 12) (oi := ?o47) (d := (some 35)) ?hi47 (by kernel_rfl) (by kernel_rfl) (by kernel_rfl) (fun _ _ _ h => h) ?hd47 ?hw47 (by assumption) ?_
        case hi47 => (simp only [List.getElem?_toArray, List.getElem?_cons_zero, List.getElem?_cons_succ]; exact rfl)
        case hd47 => rfl
        case hw47 => rfl
        try simp only [Act.put, List.setIfInBounds_toArray, List.set_cons_zero, List.set_cons_succ]
        refine take_no (i := 13) (oi := ?o48) (d := (some 36)) ?hi48 (by kernel_rfl) (by kernel_rfl) (by kernel_rfl) (fun _ _ _ h => h) ?hd48 ?hw48 (by assumption) ?_
        case hi48 => (simp only [List.getElem?_toArray, List.getElem?_cons_zero, List.getElem?_cons_succ]; exact rfl)
        case hd48 => rfl
        case hw48 => rfl
        try simp only [Act.put, List.setIfInBounds_toArray, List.set_cons_zero, List.set_cons_succ]
        refine take_no (i := 14) (oi := ?o49) (d := (some 37)) ?hi49 (by kernel_rfl) (by kernel_rfl) (by kernel_rfl) (fun _ _ _ h => h) ?hd49 ?hw49 (by assumption) ?_
        case hi49 => (simp only [List.getElem?_toArray, List.getElem?_cons_zero, List.getElem?_cons_succ]; exact rfl)
        case hd49 => rfl
        case hw49 => rfl
        try simp only [Act.put, List.setIfInBounds_toArray, List.set_cons_zero, List.set_cons_succ]
        refine take_yes (i := 15) (oi := ?o50) (d := (some 38)) (v := ?v50) ?hi50 (by kernel_rfl) (by kernel_rfl) (by kernel_rfl) (fun _ _ _ h => h) ?hd50 ?hw50 ?hy50 (by assumption) ?_
        case hi50 => (simp only [List.getElem?_toArray, List.getElem?_cons_zero, List.getElem?_cons_succ]; exact rfl)
        case hd50 => rfl
        case hw50 => rfl
        case hy50 => (intro w hSw; (try dsimp only at hSw); go_simp; try with_reducible rfl)
        try simp only [Act.put, List.setIfInBounds_toArray, List.set_cons_zero, List.set_cons_succ]
        refine take_yes (i := 16) (oi := ?o51) (d := (some 39)) (v := ?v51) ?hi51 (by kernel_rfl) (by kernel_rfl) (by kernel_rfl) (fun _ _ _ h => h) ?hd51 ?hw51 ?hy51 (by assumption) ?_
        case hi51 => (simp only [List.getElem?_toArray, List.getElem?_cons_zero, List.getElem?_cons_succ]; exact rfl)
        case hd51 => rfl
        case hw51 => rfl
        case hy51 => (intro w hSw; (try dsimp only at hSw); go_simp; try with_reducible rfl)
        try simp only [Act.put, List.setIfInBounds_toArray, List.set_cons_zero, List.set_cons_succ]
        refine take_yes (i := 17) (oi := ?o52) (d := (some 40)) (v := ?v52) ?hi52 (by kernel_rfl) (by kernel_rfl) (by kernel_rfl) (fun _ _ _ h => h) ?hd52 ?hw52 ?hy52 (by assumption) ?_
        case hi52 => (simp only [List.getElem?_toArray, List.getElem?_cons_zero, List.getElem?_cons_succ]; exact rfl)
        case hd52 => rfl
        case hw52 => rfl
        case hy52 => (intro w hSw; (try dsimp only at hSw); go_simp; try with_reducible rfl)
        try simp only [Act.put, List.setIfInBounds_toArray, List.set_cons_zero, List.set_cons_succ]
        refine take_yes (i := 18) (oi := ?o53) (d := (some 41)) (v := ?v53) ?hi53 (by kernel_rfl) (by kernel_rfl) (by kernel_rfl) (fun _ _ _ h => h) ?hd53 ?hw53 ?hy53 (by assumption) ?_
        case hi53 => (simp only [List.getElem?_toArray, List.getElem?_cons_zero, List.getElem?_cons_succ]; exact rfl)
        case hd53 => rfl
        case hw53 => rfl
        case hy53 => (intro w hSw; (try dsimp only at hSw); go_simp; try with_reducible rfl)
        try simp only [Act.put, List.setIfInBounds_toArray, List.set_cons_zero, List.set_cons_succ]
        refine take_yes (i := 19) (oi := ?o54) (d := (some 42)) (v := ?v54) ?hi54 (by kernel_rfl) (by kernel_rfl) (by kernel_rfl) (fun _ _ _ h => h) ?hd54 ?hw54 ?hy54 (by assumption) ?_
        case hi54 => (simp only [List.getElem?_toArray, List.getElem?_cons_zero, List.getElem?_cons_succ]; exact rfl)
        case hd54 => rfl
        case hw54 => rfl
        case hy54 => (intro w hSw; (try dsimp only at hSw); go_simp; try with_reducible rfl)
        try simp only [Act.put, List.setIfInBounds_toArray, List.set_cons_zero, List.set_cons_succ]
        refine take_yes (i := 20) (oi := ?o55) (d := (some 43)) (v := ?v55) ?hi55 (by kernel_rfl) (by kernel_rfl) (by kernel_rfl) (fun _ _ _ h => h) ?hd55 ?hw55 ?hy55 (by assumption) ?_
        case hi55 => (simp only [List.getElem?_toArray, List.getElem?_cons_zero, List.getElem?_cons_succ]; exact rfl)
        case hd55 => rfl
        case hw55 => rfl
        case hy55 => (intro w hSw; (try dsimp only at hSw); go_simp; try with_reducible rfl)
        try simp only [Act.put, List.setIfInBounds_toArray, List.set_cons_zero, List.set_cons_succ]
        refine take_yes (i := 21) (oi := ?o56) (d := (some 44)) (v := ?v56) ?hi56 (by kernel_rfl) (by kernel_rfl) (by kernel_rfl) (fun _ _ _ h => h) ?hd56 ?hw56 ?hy56 (by assumption) ?_
        case hi56 => (simp only [List.getElem?_toArray, List.getElem?_cons_zero, List.getElem?_cons_succ]; exact rfl)
        case hd56 => rfl
        case hw56 => rfl
        case hy56 => (intro w hSw; (try dsimp only at hSw); go_simp; try with_reducible rfl)
        try simp only [Act.put, List.setIfInBounds_toArray, List.set_cons_zero, List.set_cons_succ]
        refine take_yes (i := 22) (oi := ?o57) (d := (some 45)) (v := ?v57) ?hi57 (by kernel_rfl) (by kernel_rfl) (by kernel_rfl) (fun _ _ _ h => h) ?hd57 ?hw57 ?hy57 (by assumption) ?_
        case hi57 => (simp only [List.getElem?_toArray, List.getElem?_cons_zero, List.getElem?_cons_succ]; exact rfl)
        case hd57 => rfl
        case hw57 => rfl
        case hy57 => (intro w hSw; (try dsimp only at hSw); go_simp; try with_reducible rfl)
        try simp only [Act.put, List.setIfInBounds_toArray, List.set_cons_zero, List.set_cons_succ]
        refine take_yes (i := 23) (oi := ?o58) (d := (some 46)) (v := ?v58) ?hi58 (by kernel_rfl) (by kernel_rfl) (by kernel_rfl) (fun _ _ _ h => h) ?hd58 ?hw58 ?hy58 (by assumption) ?_
        case hi58 => (simp only [List.getElem?_toArray, List.getElem?_cons_zero, List.getElem?_cons_succ]; exact rfl)
        case hd58 => rfl
        case hw58 => rfl
        case hy58 => (intro w hSw; (try dsimp only at hSw); go_simp; try with_reducible rfl)
        try simp only [Act.put, List.setIfInBounds_toArray, List.set_cons_zero, List.set_cons_succ]
        refine take_yes (i := 24) (oi := ?o59) (d := (some 47)) (v := ?v59) ?hi59 (by kernel_rfl) (by kernel_rfl) (by kernel_rfl) (fun _ _ _ h => h) ?hd59 ?hw59 ?hy59 (by assumption) ?_
        case hi59 => (simp only [List.getElem?_toArray, List.getElem?_cons_zero, List.getElem?_cons_succ]; exact rfl)
        case hd59 => rfl
        case hw59 => rfl
        case hy59 => (intro w hSw; (try dsimp only at hSw); go_simp; try with_reducible rfl)
        try simp only [Act.put, List.setIfInBounds_toArray, List.set_cons_zero, List.set_cons_succ]
        refine take_yes (i := 25) (oi := ?o60) (d := (some 48)) (v := ?v60) ?hi60 (by kernel_rfl) (by kernel_rfl) (by kernel_rfl) (fun _ _ _ h => h) ?hd60 ?hw60 ?hy60 (by assumption) ?_
        case hi60 => (simp only [List.getElem?_toArray, List.getElem?_cons_zero, List.getElem?_cons_succ]; exact rfl)
        case hd60 => rfl
        case hw60 => rfl
        case hy60 => (intro w hSw; (try dsimp only at hSw); go_simp; try with_reducible rfl)
        try simp only [Act.put, List.setIfInBounds_toArray, List.set_cons_zero, List.set_cons_succ]
        refine take_yes (i := 26) (oi := ?o61) (d := (some 49)) (v := ?v61) ?hi61 (by kernel_rfl) (by kernel_rfl) (by kernel_rfl) (fun _ _ _ h => h) ?hd61 ?hw61 ?hy61 (by assumption) ?_
        case hi61 => (simp only [List.getElem?_toArray, List.getElem?_cons_zero, List.getElem?_cons_succ]; exact rfl)
        case hd61 => rfl
        case hw61 => rfl
        case hy61 => (intro w hSw; (try dsimp only at hSw); go_simp; try with_reducible rfl)
        try simp only [Act.put, List.setIfInBounds_toArray, List.set_cons_zero, List.set_cons_succ]
        refine take_yes (i := 27) (oi := ?o62) (d := (some 50)) (v := ?v62) ?hi62 (by kernel_rfl) (by kernel_rfl) (by kernel_rfl) (fun _ _ _ h => h) ?hd62 ?hw62 ?hy62 (by assumption) ?_
        case hi62 => (simp only [List.getElem?_toArray, List.getElem?_cons_zero, List.getElem?_cons_succ]; exact rfl)
        case hd62 => rfl
        case hw62 => rfl
        case hy62 => (intro w hSw; (try dsimp only at hSw); go_simp; try with_reducible rfl)
        try simp only [Act.put, List.setIfInBounds_toArray, List.set_cons_zero, List.set_cons_succ]
        refine take_yes (i := 28) (oi := ?o63) (d := (some 51)) (v := ?v63) ?hi63 (by kernel_rfl) (by kernel_rfl) (by kernel_rfl) (fun _ _ _ h => h) ?hd63 ?hw63 ?hy63 (by assumption) ?_
        case hi63 => (simp only [List.getElem?_toArray, List.getElem?_cons_zero, List.getElem?_cons_succ]; exact rfl)
        case hd63 => rfl
        case hw63 => rfl
        case hy63 => (intro w hSw; (try dsimp only at hSw); go_simp; try with_reducible rfl)
        try simp only [Act.put, List.setIfInBounds_toArray, List.set_cons_zero, List.set_cons_succ]
        refine take_yes (i := 29) (oi := ?o64) (d := (some 52)) (v := ?v64) ?hi64 (by kernel_rfl) (by kernel_rfl) (by kernel_rfl) (fun _ _ _ h => h) ?hd64 ?hw64 ?hy64 (by assumption) ?_
        case hi64 => (simp only [List.getElem?_toArray, List.getElem?_cons_zero, List.getElem?_cons_succ]; exact rfl)
        case hd64 => rfl
        case hw64 => rfl
        case hy64 => (intro w hSw; (try dsimp only at hSw); go_simp; try with_reducible rfl)
        try simp only [Act.put, List.setIfInBounds_toArray, List.set_cons_zero, List.set_cons_succ]
        refine wpAnyH_ready (rs := [30]) (by kernel_rfl) (by simp) ?_
        refine AllReadyH.cons rfl (fun K hK => ?_) AllReadyH.nil
        go_simp
        (go_at_call 61; refine (HMK.out _).mono ?_; rintro e w3 ⟨rfl, hb3⟩)
        go_wp2_with fail
        refine hK.out _ _ (by exact ⟨(hb3.cell (p := ⟨g, k * 3, none⟩) hgl).trans v0, (hb3.cell (p := ⟨g, k * 3 + 1, none⟩) hgl).trans v1', (hb3.cell (p := ⟨g, k * 3 + 2, none⟩) hgl).trans v2, ext_trans (ext_drew HB.out) hb3⟩) (fun hHeld30 => ?_)
        clear hK K
        try simp only [Act.put, List.setIfInBounds_toArray, List.set_cons_zero, List.set_cons_succ]
        refine take_yes (i := 31) (oi := ?o65) (d := (some 54)) (v := ?v65) ?hi65 (by kernel_rfl) (by kernel_rfl) (by kernel_rfl) (fun _ _ _ h => h) ?hd65 ?hw65 ?hy65 (by assumption) ?_
        case hi65 => (simp only [List.getElem?_toArray, List.getElem?_cons_zero, List.getElem?_cons_succ]; exact rfl)
        case hd65 => rfl
        case hw65 => rfl
        case hy65 => (intro w hSw; (try dsimp only at hSw); go_simp; try with_reducible rfl)
        try simp only [Act.put, List.setIfInBounds_toArray, List.set_cons_zero, List.set_cons_succ]
        refine take_yes (i := 32) (oi := ?o66) (d := (some 55)) (v := ?v66) ?hi66 (by kernel_rfl) (by kernel_rfl) (by kernel_rfl) (fun _ _ _ h => h) ?hd66 ?hw66 ?hy66 (by assumption) ?_
        case hi66 => (simp only [List.getElem?_toArray, List.getElem?_cons_zero, List.getElem?_cons_succ]; exact rfl)
        case hd66 => rfl
        case hw66 => rfl
        case hy66 => (intro w hSw; (try dsimp only at hSw); go_simp; try with_reducible rfl)
        try simp only [Act.put, List.setIfInBounds_toArray, List.set_cons_zero, List.set_cons_succ]
        refine take_yes (i := 33) (oi := ?o67) (d := (some 56)) (v := ?v67) ?hi67 (by kernel_rfl) (by kernel_rfl) (by kernel_rfl) (fun _ _ _ h => h) ?hd67 ?hw67 ?hy67 (by assumption) ?_
        case hi67 => (simp only [List.getElem?_toArray, List.getElem?_cons_zero, List.getElem?_cons_succ]; exact rfl)
        case hd67 => rfl
        case hw67 => rfl
        case hy67 => (intro w hSw; (try dsimp only at hSw); go_simp; try with_reducible rfl)
        try simp only [Act.put, List.setIfInBounds_toArray, List.set_cons_zero, List.set_cons_succ]
        refine take_yes (i := 34) (oi := ?o68) (d := (some 57)) (v := ?v68) ?hi68 (by kernel_rfl) (by kernel_rfl) (by kernel_rfl) (fun _ _ _ h => h) ?hd68 ?hw68 ?hy68 (by assumption) ?_
        case hi68 => (simp only [List.getElem?_toArray, List.getElem?_cons_zero, List.getElem?_cons_succ]; exact rfl)
        case hd68 => rfl
        case hw68 => rfl
        case hy68 => (intro w hSw; (try dsimp only at hSw); go_simp; try with_reducible rfl)
        try simp only [Act.put, List.setIfInBounds_toArray, List.set_cons_zero, List.set_cons_succ]
        refine wpAnyH_done (by kernel_rfl) ?_ _
        go_wp2_with fail
        go_roundw
        case rel => exact ⟨k + 1, by omega, by go_num, ext_trans (ext_drew HB.out) hb3⟩
        case measure => simp [intOf]; omega
      · obtain rfl : k = L + 12 := by omega
        go_wp2_with fail
        go_ret
        exact ⟨rfl, by first | exact ext_drew HB.out | exact ext_drewN HB.out _ | exact HB.out⟩

end Go.Proofs.YtpoijhjjbmaedaaGreatDoor.Man
