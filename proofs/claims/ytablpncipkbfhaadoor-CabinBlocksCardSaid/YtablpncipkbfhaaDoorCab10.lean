/- The contracts of the cabin's reference, fourth part: Window, Beside. -/
import Derived.Test.YtablpncipkbfhaaDoorCab5
import Derived.Test.YtablpncipkbfhaaDoorCab8
import Derived.Test.YtablpncipkbfhaaDoorKit4
namespace Go.Proofs.YtablpncipkbfhaaDoor.Cab
open Go.RowKit

/-- the cabin's own block, as it was made -/
abbrev Own (w : World) (r wd : Int) (S : Value) (W : World) : Prop :=
  W.cell? ⟨w.heap.size, 0, none⟩ = some (.int .i64 r) ∧ W.cell? ⟨w.heap.size, 1, none⟩ = some (.int .i64 wd) ∧ W.cell? ⟨w.heap.size, 2, none⟩ = some S ∧ Below w.heap.size w W ∧ w.heap.size < W.heap.size
theorem Own.of {w W : World} {r wd : Int} {S : Value} (hb : Below (w.alloc (.cells #[.int .i64 r, .int .i64 wd, S] 24)).heap.size (w.alloc (.cells #[.int .i64 r, .int .i64 wd, S] 24)) W) : Own w r wd S W := by
  have hA := (Arr.fresh w 24 #[.int .i64 r, .int .i64 wd, S]).keep hb
  exact ⟨hA.cell 0, hA.cell 1, hA.cell 2, ext_trans (ext_alloc (Below.refl _ w) _) hb, hA.lt⟩
theorem Own.keep {w W w1 : World} {r wd : Int} {S : Value} (h : Own w r wd S W) (hb : Below W.heap.size W w1) : Own w r wd S w1 :=
  ⟨(hb.cell (p := ⟨w.heap.size, 0, none⟩) h.2.2.2.2).trans h.1, (hb.cell (p := ⟨w.heap.size, 1, none⟩) h.2.2.2.2).trans h.2.1, (hb.cell (p := ⟨w.heap.size, 2, none⟩) h.2.2.2.2).trans h.2.2.1, ext_trans h.2.2.2.1 hb, Nat.lt_of_lt_of_le h.2.2.2.2 hb.size⟩
theorem Own.below {w W : World} {r wd : Int} {S : Value} (h : Own w r wd S W) : Below w.heap.size w W := h.2.2.2.1
theorem rAisleS (r wd : Int) (zs : List Int) (A : Option Addr) (c : Nat) (a : Int) (y : Bool) (hy : lieAt zs a = y) {w : World} (hI : Ints w A zs) (hlen : zs.length ≤ 20000000000000) (W : World) (hS : Own w r wd (.slice A zs.length c) W) :
    Calls Tryd.prog 42 #[.agg #[.int .i64 r, .int .i64 wd, .slice A zs.length c], .int .i64 a] W fun e w' => e = .returned (.bool y) ∧ Below W.heap.size W w' := by
  subst hy; exact rAisle r wd zs A c a W (hI.keep hS.2.2.2.1) hlen

-- gangwayref14.Window
set_option maxRecDepth 100000 in
set_option maxHeartbeats 1000000 in
theorem rWindow_yes (r wd : Int) (zs : List Int) (A : Option Addr) (c : Nat) (s : Int) (x y z : Bool) (w : World) (hI : Ints w A zs) (hlen : zs.length ≤ 20000000000000) (hok : okC r wd zs = true) (hs0 : 0 ≤ s) (hs1 : s < r * wd) (hx : (s % wd == 0 || s % wd == wd - 1) = x) (hy : lieAt zs (s % wd) = y) (hz : lieAt zs (s % wd + 1) = z) :
    Calls Tryd.prog 22 #[.agg #[.int .i64 r, .int .i64 wd, .slice A zs.length c], .int .i64 s] w fun e w' => e = .returned (.tuple #[.bool x, .bool (y || z), .int .i64 0]) ∧ Below w.heap.size w w' := by
  have HI := Lib.hid (hI.keep (ext_alloc (Below.refl _ w) (.cells #[.int .i64 r, .int .i64 wd, .slice A zs.length c] 24)))
  have HI0 := Lib.hid hI
  have HOK := Lib.hid hok
  obtain ⟨⟨o1, o2, o3, o4⟩, _⟩ := okC_yes hok
  have q2 : r * wd ≤ 64 * 16 := Int.mul_le_mul (by omega) (by omega) (by omega) (by omega)
  clear hI hok
  have q6 := Int.emod_lt_of_pos s (show 0 < wd by omega)
  have q5 := Int.emod_nonneg s (show wd ≠ 0 by omega)
  obtain ⟨col, hcol⟩ : ∃ col : Nat, s % wd = (col : Int) := ⟨(s % wd).toNat, by omega⟩
  rw [hcol] at hx hy hz q5 q6
  have HC := Lib.hid hcol
  have HY := Lib.hid hy
  have HZ := Lib.hid hz
  clear hcol hy hz
  have v1 : IntKind.i64.wrap (wd - 1) = wd - 1 := IntWalk.i64_in _ (by omega)
  have v2 : IntKind.i64.wrap ((col : Int) + 1) = (col : Int) + 1 := IntWalk.i64_in _ (by omega)
  have w0 : ¬ wd = 0 := by omega
  go_enter Tryd.func22, Tryd.ntmps22
  go_wp2_with fail
  refine (rWrong_yes r wd zs A c s _ HI.out hlen HOK.out hs0 hs1).mono ?_
  rintro e w1 ⟨rfl, hb⟩
  have hS := Own.of hb
  have x0 : w1.cell? ⟨w.heap.size, 0, none⟩ = some (.int .i64 r) := hS.1
  have x1 : w1.cell? ⟨w.heap.size, 1, none⟩ = some (.int .i64 wd) := hS.2.1
  have x2 : w1.cell? ⟨w.heap.size, 2, none⟩ = some (.slice A zs.length c) := hS.2.2.1
  clear hb
  go_wp2_with fail
  have hcc : col = 0 ∨ (0 : Int) < (col : Int) := by omega
  rcases hcc with rfl | g1
  · rw [show s % wd = 0 from HC.out]
    have hx2 : x = true := by rw [← hx]; simp
    subst hx2
    cases y with
    | true =>
      refine wp_region_held_drew (S := (fun w' => w'.cell? ⟨w.heap.size, 0, none⟩ = some (.int .i64 r) ∧ w'.cell? ⟨w.heap.size, 1, none⟩ = some (.int .i64 wd) ∧ w'.cell? ⟨w.heap.size, 2, none⟩ = some (.slice A zs.length c) ∧ Below w.heap.size w w' ∧ w.heap.size < w'.heap.size)) (by kernel_rfl) (by exact Own.keep hS (ext_drew (Below.refl _ _))) (fun hHeld => ?_)
      refine take_yes (i := 0) (oi := ?o1) (d := (some 19)) (v := ?v1) ?hi1 (by kernel_rfl) (by kernel_rfl) (by kernel_rfl) (fun _ _ _ h => h) ?hd1 ?hw1 ?hy1 (by assumption) ?_
      case hi1 => (simp only [List.getElem?_toArray, List.getElem?_cons_zero]; exact rfl)
      case hd1 => rfl
      case hw1 => rfl
      case hy1 => (intro w hSw; (try dsimp only at hSw); go_simp; try with_reducible rfl)
      try simp only [Act.put, List.setIfInBounds_toArray, List.set_cons_zero, List.set_cons_succ]
      refine take_yes (i := 1) (oi := ?o2) (d := (some 20)) (v := ?v2) ?hi2 (by kernel_rfl) (by kernel_rfl) (by kernel_rfl) (fun _ _ _ h => h) ?hd2 ?hw2 ?hy2 (by assumption) ?_
      case hi2 => (simp only [List.getElem?_toArray, List.getElem?_cons_zero, List.getElem?_cons_succ]; exact rfl)
      case hd2 => rfl
      case hw2 => rfl
      case hy2 => (intro w hSw; (try dsimp only at hSw); go_simp; try with_reducible rfl)
      try simp only [Act.put, List.setIfInBounds_toArray, List.set_cons_zero, List.set_cons_succ]
      refine take_yes (i := 2) (oi := ?o3) (d := (some 21)) (v := ?v3) ?hi3 (by kernel_rfl) (by kernel_rfl) (by kernel_rfl) (fun _ _ _ h => h) ?hd3 ?hw3 ?hy3 (by assumption) ?_
      case hi3 => (simp only [List.getElem?_toArray, List.getElem?_cons_zero, List.getElem?_cons_succ]; exact rfl)
      case hd3 => rfl
      case hw3 => rfl
      case hy3 => (intro w hSw; (try dsimp only at hSw); go_simp; try with_reducible rfl)
      try simp only [Act.put, List.setIfInBounds_toArray, List.set_cons_zero, List.set_cons_succ]
      refine take_no (i := 3) (oi := ?o4) (d := (some 22)) ?hi4 (by kernel_rfl) (by kernel_rfl) (by kernel_rfl) (fun _ _ _ h => h) ?hd4 ?hw4 (by assumption) ?_
      case hi4 => (simp only [List.getElem?_toArray, List.getElem?_cons_zero, List.getElem?_cons_succ]; exact rfl)
      case hd4 => rfl
      case hw4 => rfl
      try simp only [Act.put, List.setIfInBounds_toArray, List.set_cons_zero, List.set_cons_succ]
      refine take_no (i := 4) (oi := ?o5) (d := (some 23)) ?hi5 (by kernel_rfl) (by kernel_rfl) (by kernel_rfl) (fun _ _ _ h => h) ?hd5 ?hw5 (by assumption) ?_
      case hi5 => (simp only [List.getElem?_toArray, List.getElem?_cons_zero, List.getElem?_cons_succ]; exact rfl)
      case hd5 => rfl
      case hw5 => rfl
      try simp only [Act.put, List.setIfInBounds_toArray, List.set_cons_zero, List.set_cons_succ]
      refine take_no (i := 5) (oi := ?o6) (d := (some 24)) ?hi6 (by kernel_rfl) (by kernel_rfl) (by kernel_rfl) (fun _ _ _ h => h) ?hd6 ?hw6 (by assumption) ?_
      case hi6 => (simp only [List.getElem?_toArray, List.getElem?_cons_zero, List.getElem?_cons_succ]; exact rfl)
      case hd6 => rfl
      case hw6 => rfl
      try simp only [Act.put, List.setIfInBounds_toArray, List.set_cons_zero, List.set_cons_succ]
      refine take_no (i := 6) (oi := ?o7) (d := (some 25)) ?hi7 (by kernel_rfl) (by kernel_rfl) (by kernel_rfl) (fun _ _ _ h => h) ?hd7 ?hw7 (by assumption) ?_
      case hi7 => (simp only [List.getElem?_toArray, List.getElem?_cons_zero, List.getElem?_cons_succ]; exact rfl)
      case hd7 => rfl
      case hw7 => rfl
      try simp only [Act.put, List.setIfInBounds_toArray, List.set_cons_zero, List.set_cons_succ]
      refine take_no (i := 7) (oi := ?o8) (d := (some 26)) ?hi8 (by kernel_rfl) (by kernel_rfl) (by kernel_rfl) (fun _ _ _ h => h) ?hd8 ?hw8 (by assumption) ?_
      case hi8 => (simp only [List.getElem?_toArray, List.getElem?_cons_zero, List.getElem?_cons_succ]; exact rfl)
      case hd8 => rfl
      case hw8 => rfl
      try simp only [Act.put, List.setIfInBounds_toArray, List.set_cons_zero, List.set_cons_succ]
      refine take_yes (i := 8) (oi := ?o9) (d := (some 27)) (v := ?v9) ?hi9 (by kernel_rfl) (by kernel_rfl) (by kernel_rfl) (fun _ _ _ h => h) ?hd9 ?hw9 ?hy9 (by assumption) ?_
      case hi9 => (simp only [List.getElem?_toArray, List.getElem?_cons_zero, List.getElem?_cons_succ]; exact rfl)
      case hd9 => rfl
      case hw9 => rfl
      case hy9 => (intro w hSw; (try dsimp only at hSw); go_simp; try with_reducible rfl)
      try simp only [Act.put, List.setIfInBounds_toArray, List.set_cons_zero, List.set_cons_succ]
      refine take_yes (i := 9) (oi := ?o10) (d := (some 28)) (v := ?v10) ?hi10 (by kernel_rfl) (by kernel_rfl) (by kernel_rfl) (fun _ _ _ h => h) ?hd10 ?hw10 ?hy10 (by assumption) ?_
      case hi10 => (simp only [List.getElem?_toArray, List.getElem?_cons_zero, List.getElem?_cons_succ]; exact rfl)
      case hd10 => rfl
      case hw10 => rfl
      case hy10 => (intro w hSw; (try dsimp only at hSw); go_simp; try with_reducible rfl)
      try simp only [Act.put, List.setIfInBounds_toArray, List.set_cons_zero, List.set_cons_succ]
      refine take_yes (i := 10) (oi := ?o11) (d := (some 29)) (v := ?v11) ?hi11 (by kernel_rfl) (by kernel_rfl) (by kernel_rfl) (fun _ _ _ h => h) ?hd11 ?hw11 ?hy11 (by assumption) ?_
      case hi11 => (simp only [List.getElem?_toArray, List.getElem?_cons_zero, List.getElem?_cons_succ]; exact rfl)
      case hd11 => rfl
      case hw11 => rfl
      case hy11 => (intro w hSw; (try dsimp only at hSw); go_simp; try with_reducible rfl)
      try simp only [Act.put, List.setIfInBounds_toArray, List.set_cons_zero, List.set_cons_succ]
      refine wpAnyH_ready (rs := [11]) (by kernel_rfl) (by simp) ?_
      refine AllReadyH.cons rfl (fun K hK => ?_) AllReadyH.nil
      go_simp
      (go_at_call 42; refine (rAisleS r wd zs A c _ _ HY.out HI0.out hlen _ (by assumption)).mono ?_; rintro e w3 ⟨rfl, hb3⟩)
      go_wp2_with fail
      refine hK.out _ _ (by exact Own.keep (by assumption) (by assumption)) (fun hHeld11 => ?_)
      clear hK K
      try simp only [Act.put, List.setIfInBounds_toArray, List.set_cons_zero, List.set_cons_succ]
      refine take_yes (i := 12) (oi := ?o12) (d := (some 31)) (v := ?v12) ?hi12 (by kernel_rfl) (by kernel_rfl) (by kernel_rfl) (fun _ _ _ h => h) ?hd12 ?hw12 ?hy12 (by assumption) ?_
      case hi12 => (simp only [List.getElem?_toArray, List.getElem?_cons_zero, List.getElem?_cons_succ]; exact rfl)
      case hd12 => rfl
      case hw12 => rfl
      case hy12 => (intro w hSw; (try dsimp only at hSw); go_simp; try with_reducible rfl)
      try simp only [Act.put, List.setIfInBounds_toArray, List.set_cons_zero, List.set_cons_succ]
      refine take_no (i := 13) (oi := ?o13) (d := (some 32)) ?hi13 (by kernel_rfl) (by kernel_rfl) (by kernel_rfl) (fun _ _ _ h => h) ?hd13 ?hw13 (by assumption) ?_
      case hi13 => (simp only [List.getElem?_toArray, List.getElem?_cons_zero, List.getElem?_cons_succ]; exact rfl)
      case hd13 => rfl
      case hw13 => rfl
      try simp only [Act.put, List.setIfInBounds_toArray, List.set_cons_zero, List.set_cons_succ]
      refine take_no (i := 14) (oi := ?o14) (d := (some 33)) ?hi14 (by kernel_rfl) (by kernel_rfl) (by kernel_rfl) (fun _ _ _ h => h) ?hd14 ?hw14 (by assumption) ?_
      case hi14 => (simp only [List.getElem?_toArray, List.getElem?_cons_zero, List.getElem?_cons_succ]; exact rfl)
      case hd14 => rfl
      case hw14 => rfl
      try simp only [Act.put, List.setIfInBounds_toArray, List.set_cons_zero, List.set_cons_succ]
      refine take_no (i := 15) (oi := ?o15) (d := (some 34)) ?hi15 (by kernel_rfl) (by kernel_rfl) (by kernel_rfl) (fun _ _ _ h => h) ?hd15 ?hw15 (by assumption) ?_
      case hi15 => (simp only [List.getElem?_toArray, List.getElem?_cons_zero, List.getElem?_cons_succ]; exact rfl)
      case hd15 => rfl
      case hw15 => rfl
      try simp only [Act.put, List.setIfInBounds_toArray, List.set_cons_zero, List.set_cons_succ]
      refine take_no (i := 16) (oi := ?o16) (d := (some 35)) ?hi16 (by kernel_rfl) (by kernel_rfl) (by kernel_rfl) (fun _ _ _ h => h) ?hd16 ?hw16 (by assumption) ?_
      case hi16 => (simp only [List.getElem?_toArray, List.getElem?_cons_zero, List.getElem?_cons_succ]; exact rfl)
      case hd16 => rfl
      case hw16 => rfl
      try simp only [Act.put, List.setIfInBounds_toArray, List.set_cons_zero, List.set_cons_succ]
      refine take_yes (i := 17) (oi := ?o17) (d := (some 36)) (v := ?v17) ?hi17 (by kernel_rfl) (by kernel_rfl) (by kernel_rfl) (fun _ _ _ h => h) ?hd17 ?hw17 ?hy17 (by assumption) ?_
      case hi17 => (simp only [List.getElem?_toArray, List.getElem?_cons_zero, List.getElem?_cons_succ]; exact rfl)
      case hd17 => rfl
      case hw17 => rfl
      case hy17 => (intro w hSw; (try dsimp only at hSw); go_simp; try with_reducible rfl)
      try simp only [Act.put, List.setIfInBounds_toArray, List.set_cons_zero, List.set_cons_succ]
      refine take_yes (i := 18) (oi := ?o18) (d := (some 4)) (v := ?v18) ?hi18 (by kernel_rfl) (by kernel_rfl) (by kernel_rfl) (fun _ _ _ h => h) ?hd18 ?hw18 ?hy18 (by assumption) ?_
      case hi18 => (simp only [List.getElem?_toArray, List.getElem?_cons_zero, List.getElem?_cons_succ]; exact rfl)
      case hd18 => rfl
      case hw18 => rfl
      case hy18 => (intro w hSw; (try dsimp only at hSw); go_simp; try with_reducible rfl)
      try simp only [Act.put, List.setIfInBounds_toArray, List.set_cons_zero, List.set_cons_succ]
      refine take_yes (i := 19) (oi := ?o19) (d := (some 5)) (v := ?v19) ?hi19 (by kernel_rfl) (by kernel_rfl) (by kernel_rfl) (fun _ _ _ h => h) ?hd19 ?hw19 ?hy19 (by assumption) ?_
      case hi19 => (simp only [List.getElem?_toArray, List.getElem?_cons_zero, List.getElem?_cons_succ]; exact rfl)
      case hd19 => rfl
      case hw19 => rfl
      case hy19 => (intro w hSw; (try dsimp only at hSw); go_simp; try with_reducible rfl)
      try simp only [Act.put, List.setIfInBounds_toArray, List.set_cons_zero, List.set_cons_succ]
      refine take_yes (i := 20) (oi := ?o20) (d := (some 6)) (v := ?v20) ?hi20 (by kernel_rfl) (by kernel_rfl) (by kernel_rfl) (fun _ _ _ h => h) ?hd20 ?hw20 ?hy20 (by assumption) ?_
      case hi20 => (simp only [List.getElem?_toArray, List.getElem?_cons_zero, List.getElem?_cons_succ]; exact rfl)
      case hd20 => rfl
      case hw20 => rfl
      case hy20 => (intro w hSw; (try dsimp only at hSw); go_simp; try with_reducible rfl)
      try simp only [Act.put, List.setIfInBounds_toArray, List.set_cons_zero, List.set_cons_succ]
      refine wpAnyH_done (by kernel_rfl) ?_ _
      go_wp2_with fail
      go_ret3
      exact ⟨rfl, Own.below (by assumption)⟩
    | false =>
      refine wp_region_held_drew (S := (fun w' => w'.cell? ⟨w.heap.size, 0, none⟩ = some (.int .i64 r) ∧ w'.cell? ⟨w.heap.size, 1, none⟩ = some (.int .i64 wd) ∧ w'.cell? ⟨w.heap.size, 2, none⟩ = some (.slice A zs.length c) ∧ Below w.heap.size w w' ∧ w.heap.size < w'.heap.size)) (by kernel_rfl) (by exact Own.keep hS (ext_drew (Below.refl _ _))) (fun hHeld => ?_)
      refine take_yes (i := 0) (oi := ?o21) (d := (some 19)) (v := ?v21) ?hi21 (by kernel_rfl) (by kernel_rfl) (by kernel_rfl) (fun _ _ _ h => h) ?hd21 ?hw21 ?hy21 (by assumption) ?_
      case hi21 => (simp only [List.getElem?_toArray, List.getElem?_cons_zero]; exact rfl)
      case hd21 => rfl
      case hw21 => rfl
      case hy21 => (intro w hSw; (try dsimp only at hSw); go_simp; try with_reducible rfl)
      try simp only [Act.put, List.setIfInBounds_toArray, List.set_cons_zero, List.set_cons_succ]
      refine take_yes (i := 1) (oi := ?o22) (d := (some 20)) (v := ?v22) ?hi22 (by kernel_rfl) (by kernel_rfl) (by kernel_rfl) (fun _ _ _ h => h) ?hd22 ?hw22 ?hy22 (by assumption) ?_
      case hi22 => (simp only [List.getElem?_toArray, List.getElem?_cons_zero, List.getElem?_cons_succ]; exact rfl)
      case hd22 => rfl
      case hw22 => rfl
      case hy22 => (intro w hSw; (try dsimp only at hSw); go_simp; try with_reducible rfl)
      try simp only [Act.put, List.setIfInBounds_toArray, List.set_cons_zero, List.set_cons_succ]
      refine take_yes (i := 2) (oi := ?o23) (d := (some 21)) (v := ?v23) ?hi23 (by kernel_rfl) (by kernel_rfl) (by kernel_rfl) (fun _ _ _ h => h) ?hd23 ?hw23 ?hy23 (by assumption) ?_
      case hi23 => (simp only [List.getElem?_toArray, List.getElem?_cons_zero, List.getElem?_cons_succ]; exact rfl)
      case hd23 => rfl
      case hw23 => rfl
      case hy23 => (intro w hSw; (try dsimp only at hSw); go_simp; try with_reducible rfl)
      try simp only [Act.put, List.setIfInBounds_toArray, List.set_cons_zero, List.set_cons_succ]
      refine take_no (i := 3) (oi := ?o24) (d := (some 22)) ?hi24 (by kernel_rfl) (by kernel_rfl) (by kernel_rfl) (fun _ _ _ h => h) ?hd24 ?hw24 (by assumption) ?_
      case hi24 => (simp only [List.getElem?_toArray, List.getElem?_cons_zero, List.getElem?_cons_succ]; exact rfl)
      case hd24 => rfl
      case hw24 => rfl
      try simp only [Act.put, List.setIfInBounds_toArray, List.set_cons_zero, List.set_cons_succ]
      refine take_no (i := 4) (oi := ?o25) (d := (some 23)) ?hi25 (by kernel_rfl) (by kernel_rfl) (by kernel_rfl) (fun _ _ _ h => h) ?hd25 ?hw25 (by assumption) ?_
      case hi25 => (simp only [List.getElem?_toArray, List.getElem?_cons_zero, List.getElem?_cons_succ]; exact rfl)
      case hd25 => rfl
      case hw25 => rfl
      try simp only [Act.put, List.setIfInBounds_toArray, List.set_cons_zero, List.set_cons_succ]
      refine take_no (i := 5) (oi := ?o26) (d := (some 24)) ?hi26 (by kernel_rfl) (by kernel_rfl) (by kernel_rfl) (fun _ _ _ h => h) ?hd26 ?hw26 (by assumption) ?_
      case hi26 => (simp only [List.getElem?_toArray, List.getElem?_cons_zero, List.getElem?_cons_succ]; exact rfl)
      case hd26 => rfl
      case hw26 => rfl
      try simp only [Act.put, List.setIfInBounds_toArray, List.set_cons_zero, List.set_cons_succ]
      refine take_no (i := 6) (oi := ?o27) (d := (some 25)) ?hi27 (by kernel_rfl) (by kernel_rfl) (by kernel_rfl) (fun _ _ _ h => h) ?hd27 ?hw27 (by assumption) ?_
      case hi27 => (simp only [List.getElem?_toArray, List.getElem?_cons_zero, List.getElem?_cons_succ]; exact rfl)
      case hd27 => rfl
      case hw27 => rfl
      try simp only [Act.put, List.setIfInBounds_toArray, List.set_cons_zero, List.set_cons_succ]
      refine take_no (i := 7) (oi := ?o28) (d := (some 26)) ?hi28 (by kernel_rfl) (by kernel_rfl) (by kernel_rfl) (fun _ _ _ h => h) ?hd28 ?hw28 (by assumption) ?_
      case hi28 => (simp only [List.getElem?_toArray, List.getElem?_cons_zero, List.getElem?_cons_succ]; exact rfl)
      case hd28 => rfl
      case hw28 => rfl
      try simp only [Act.put, List.setIfInBounds_toArray, List.set_cons_zero, List.set_cons_succ]
      refine take_yes (i := 8) (oi := ?o29) (d := (some 27)) (v := ?v29) ?hi29 (by kernel_rfl) (by kernel_rfl) (by kernel_rfl) (fun _ _ _ h => h) ?hd29 ?hw29 ?hy29 (by assumption) ?_
      case hi29 => (simp only [List.getElem?_toArray, List.getElem?_cons_zero, List.getElem?_cons_succ]; exact rfl)
      case hd29 => rfl
      case hw29 => rfl
      case hy29 => (intro w hSw; (try dsimp only at hSw); go_simp; try with_reducible rfl)
      try simp only [Act.put, List.setIfInBounds_toArray, List.set_cons_zero, List.set_cons_succ]
      refine take_yes (i := 9) (oi := ?o30) (d := (some 28)) (v := ?v30) ?hi30 (by kernel_rfl) (by kernel_rfl) (by kernel_rfl) (fun _ _ _ h => h) ?hd30 ?hw30 ?hy30 (by assumption) ?_
      case hi30 => (simp only [List.getElem?_toArray, List.getElem?_cons_zero, List.getElem?_cons_succ]; exact rfl)
      case hd30 => rfl
      case hw30 => rfl
      case hy30 => (intro w hSw; (try dsimp only at hSw); go_simp; try with_reducible rfl)
      try simp only [Act.put, List.setIfInBounds_toArray, List.set_cons_zero, List.set_cons_succ]
      refine take_yes (i := 10) (oi := ?o31) (d := (some 29)) (v := ?v31) ?hi31 (by kernel_rfl) (by kernel_rfl) (by kernel_rfl) (fun _ _ _ h => h) ?hd31 ?hw31 ?hy31 (by assumption) ?_
      case hi31 => (simp only [List.getElem?_toArray, List.getElem?_cons_zero, List.getElem?_cons_succ]; exact rfl)
      case hd31 => rfl
      case hw31 => rfl
      case hy31 => (intro w hSw; (try dsimp only at hSw); go_simp; try with_reducible rfl)
      try simp only [Act.put, List.setIfInBounds_toArray, List.set_cons_zero, List.set_cons_succ]
      refine wpAnyH_ready (rs := [11]) (by kernel_rfl) (by simp) ?_
      refine AllReadyH.cons rfl (fun K hK => ?_) AllReadyH.nil
      go_simp
      (go_at_call 42; refine (rAisleS r wd zs A c _ _ HY.out HI0.out hlen _ (by assumption)).mono ?_; rintro e w3 ⟨rfl, hb3⟩)
      go_wp2_with fail
      refine hK.out _ _ (by exact Own.keep (by assumption) (by assumption)) (fun hHeld11 => ?_)
      clear hK K
      try simp only [Act.put, List.setIfInBounds_toArray, List.set_cons_zero, List.set_cons_succ]
      refine take_yes (i := 12) (oi := ?o32) (d := (some 31)) (v := ?v32) ?hi32 (by kernel_rfl) (by kernel_rfl) (by kernel_rfl) (fun _ _ _ h => h) ?hd32 ?hw32 ?hy32 (by assumption) ?_
      case hi32 => (simp only [List.getElem?_toArray, List.getElem?_cons_zero, List.getElem?_cons_succ]; exact rfl)
      case hd32 => rfl
      case hw32 => rfl
      case hy32 => (intro w hSw; (try dsimp only at hSw); go_simp; try with_reducible rfl)
      try simp only [Act.put, List.setIfInBounds_toArray, List.set_cons_zero, List.set_cons_succ]
      refine take_yes (i := 13) (oi := ?o33) (d := (some 32)) (v := ?v33) ?hi33 (by kernel_rfl) (by kernel_rfl) (by kernel_rfl) (fun _ _ _ h => h) ?hd33 ?hw33 ?hy33 (by assumption) ?_
      case hi33 => (simp only [List.getElem?_toArray, List.getElem?_cons_zero, List.getElem?_cons_succ]; exact rfl)
      case hd33 => rfl
      case hw33 => rfl
      case hy33 => (intro w hSw; (try dsimp only at hSw); go_simp; try with_reducible rfl)
      try simp only [Act.put, List.setIfInBounds_toArray, List.set_cons_zero, List.set_cons_succ]
      refine take_yes (i := 14) (oi := ?o34) (d := (some 33)) (v := ?v34) ?hi34 (by kernel_rfl) (by kernel_rfl) (by kernel_rfl) (fun _ _ _ h => h) ?hd34 ?hw34 ?hy34 (by assumption) ?_
      case hi34 => (simp only [List.getElem?_toArray, List.getElem?_cons_zero, List.getElem?_cons_succ]; exact rfl)
      case hd34 => rfl
      case hw34 => rfl
      case hy34 => (intro w hSw; (try dsimp only at hSw); go_simp; try with_reducible rfl)
      try simp only [Act.put, List.setIfInBounds_toArray, List.set_cons_zero, List.set_cons_succ]
      refine take_yes (i := 15) (oi := ?o35) (d := (some 34)) (v := ?v35) ?hi35 (by kernel_rfl) (by kernel_rfl) (by kernel_rfl) (fun _ _ _ h => h) ?hd35 ?hw35 ?hy35 (by assumption) ?_
      case hi35 => (simp only [List.getElem?_toArray, List.getElem?_cons_zero, List.getElem?_cons_succ]; exact rfl)
      case hd35 => rfl
      case hw35 => rfl
      case hy35 => (intro w hSw; (try dsimp only at hSw); go_simp; try with_reducible rfl)
      try simp only [Act.put, List.setIfInBounds_toArray, List.set_cons_zero, List.set_cons_succ]
      refine wpAnyH_ready (rs := [16]) (by kernel_rfl) (by simp) ?_
      refine AllReadyH.cons rfl (fun K hK => ?_) AllReadyH.nil
      go_simp
      (go_at_call 42; refine (rAisleS r wd zs A c _ _ HZ.out HI0.out hlen _ (by assumption)).mono ?_; rintro e w3 ⟨rfl, hb3⟩)
      go_wp2_with fail
      refine hK.out _ _ (by exact Own.keep (by assumption) (by assumption)) (fun hHeld16 => ?_)
      clear hK K
      try simp only [Act.put, List.setIfInBounds_toArray, List.set_cons_zero, List.set_cons_succ]
      refine take_yes (i := 17) (oi := ?o36) (d := (some 36)) (v := ?v36) ?hi36 (by kernel_rfl) (by kernel_rfl) (by kernel_rfl) (fun _ _ _ h => h) ?hd36 ?hw36 ?hy36 (by assumption) ?_
      case hi36 => (simp only [List.getElem?_toArray, List.getElem?_cons_zero, List.getElem?_cons_succ]; exact rfl)
      case hd36 => rfl
      case hw36 => rfl
      case hy36 => (intro w hSw; (try dsimp only at hSw); go_simp; try with_reducible rfl)
      try simp only [Act.put, List.setIfInBounds_toArray, List.set_cons_zero, List.set_cons_succ]
      refine take_yes (i := 18) (oi := ?o37) (d := (some 4)) (v := ?v37) ?hi37 (by kernel_rfl) (by kernel_rfl) (by kernel_rfl) (fun _ _ _ h => h) ?hd37 ?hw37 ?hy37 (by assumption) ?_
      case hi37 => (simp only [List.getElem?_toArray, List.getElem?_cons_zero, List.getElem?_cons_succ]; exact rfl)
      case hd37 => rfl
      case hw37 => rfl
      case hy37 => (intro w hSw; (try dsimp only at hSw); go_simp; try with_reducible rfl)
      try simp only [Act.put, List.setIfInBounds_toArray, List.set_cons_zero, List.set_cons_succ]
      refine take_yes (i := 19) (oi := ?o38) (d := (some 5)) (v := ?v38) ?hi38 (by kernel_rfl) (by kernel_rfl) (by kernel_rfl) (fun _ _ _ h => h) ?hd38 ?hw38 ?hy38 (by assumption) ?_
      case hi38 => (simp only [List.getElem?_toArray, List.getElem?_cons_zero, List.getElem?_cons_succ]; exact rfl)
      case hd38 => rfl
      case hw38 => rfl
      case hy38 => (intro w hSw; (try dsimp only at hSw); go_simp; try with_reducible rfl)
      try simp only [Act.put, List.setIfInBounds_toArray, List.set_cons_zero, List.set_cons_succ]
      refine take_yes (i := 20) (oi := ?o39) (d := (some 6)) (v := ?v39) ?hi39 (by kernel_rfl) (by kernel_rfl) (by kernel_rfl) (fun _ _ _ h => h) ?hd39 ?hw39 ?hy39 (by assumption) ?_
      case hi39 => (simp only [List.getElem?_toArray, List.getElem?_cons_zero, List.getElem?_cons_succ]; exact rfl)
      case hd39 => rfl
      case hw39 => rfl
      case hy39 => (intro w hSw; (try dsimp only at hSw); go_simp; try with_reducible rfl)
      try simp only [Act.put, List.setIfInBounds_toArray, List.set_cons_zero, List.set_cons_succ]
      refine wpAnyH_done (by kernel_rfl) ?_ _
      go_wp2_with fail
      go_ret3
      exact ⟨rfl, Own.below (by assumption)⟩
  · rw [HC.out]
    have g0 : ¬ col = 0 := by omega
    have g00 : ((col : Int) == 0) = false := beq_eq_false_iff_ne.2 (by omega)
    have hcd : (col : Int) = wd - 1 ∨ (col : Int) < wd - 1 := by omega
    rcases hcd with g2 | g2
    · have e2 : ((col : Int) == wd - 1) = true := by rw [beq_iff_eq]; exact g2
      have hx2 : x = true := by rw [← hx, e2, Bool.or_true]
      subst hx2
      clear hx g2
      cases y with
      | true =>
        refine wp_region_held_drew (S := (fun w' => w'.cell? ⟨w.heap.size, 0, none⟩ = some (.int .i64 r) ∧ w'.cell? ⟨w.heap.size, 1, none⟩ = some (.int .i64 wd) ∧ w'.cell? ⟨w.heap.size, 2, none⟩ = some (.slice A zs.length c) ∧ Below w.heap.size w w' ∧ w.heap.size < w'.heap.size)) (by kernel_rfl) (by exact Own.keep hS (ext_drew (Below.refl _ _))) (fun hHeld => ?_)
        refine take_yes (i := 0) (oi := ?o40) (d := (some 19)) (v := ?v40) ?hi40 (by kernel_rfl) (by kernel_rfl) (by kernel_rfl) (fun _ _ _ h => h) ?hd40 ?hw40 ?hy40 (by assumption) ?_
        case hi40 => (simp only [List.getElem?_toArray, List.getElem?_cons_zero]; exact rfl)
        case hd40 => rfl
        case hw40 => rfl
        case hy40 => (intro w hSw; (try dsimp only at hSw); go_simp; try with_reducible rfl)
        try simp only [Act.put, List.setIfInBounds_toArray, List.set_cons_zero, List.set_cons_succ]
        refine take_yes (i := 1) (oi := ?o41) (d := (some 20)) (v := ?v41) ?hi41 (by kernel_rfl) (by kernel_rfl) (by kernel_rfl) (fun _ _ _ h => h) ?hd41 ?hw41 ?hy41 (by assumption) ?_
        case hi41 => (simp only [List.getElem?_toArray, List.getElem?_cons_zero, List.getElem?_cons_succ]; exact rfl)
        case hd41 => rfl
        case hw41 => rfl
        case hy41 => (intro w hSw; (try dsimp only at hSw); go_simp; try with_reducible rfl)
        try simp only [Act.put, List.setIfInBounds_toArray, List.set_cons_zero, List.set_cons_succ]
        refine take_yes (i := 2) (oi := ?o42) (d := (some 21)) (v := ?v42) ?hi42 (by kernel_rfl) (by kernel_rfl) (by kernel_rfl) (fun _ _ _ h => h) ?hd42 ?hw42 ?hy42 (by assumption) ?_
        case hi42 => (simp only [List.getElem?_toArray, List.getElem?_cons_zero, List.getElem?_cons_succ]; exact rfl)
        case hd42 => rfl
        case hw42 => rfl
        case hy42 => (intro w hSw; (try dsimp only at hSw); go_simp; try with_reducible rfl)
        try simp only [Act.put, List.setIfInBounds_toArray, List.set_cons_zero, List.set_cons_succ]
        refine take_yes (i := 3) (oi := ?o43) (d := (some 22)) (v := ?v43) ?hi43 (by kernel_rfl) (by kernel_rfl) (by kernel_rfl) (fun _ _ _ h => h) ?hd43 ?hw43 ?hy43 (by assumption) ?_
        case hi43 => (simp only [List.getElem?_toArray, List.getElem?_cons_zero, List.getElem?_cons_succ]; exact rfl)
        case hd43 => rfl
        case hw43 => rfl
        case hy43 => (intro w hSw; (try dsimp only at hSw); go_simp; try with_reducible rfl)
        try simp only [Act.put, List.setIfInBounds_toArray, List.set_cons_zero, List.set_cons_succ]
        refine take_yes (i := 4) (oi := ?o44) (d := (some 23)) (v := ?v44) ?hi44 (by kernel_rfl) (by kernel_rfl) (by kernel_rfl) (fun _ _ _ h => h) ?hd44 ?hw44 ?hy44 (by assumption) ?_
        case hi44 => (simp only [List.getElem?_toArray, List.getElem?_cons_zero, List.getElem?_cons_succ]; exact rfl)
        case hd44 => rfl
        case hw44 => rfl
        case hy44 => (intro w hSw; (try dsimp only at hSw); go_simp; try with_reducible rfl)
        try simp only [Act.put, List.setIfInBounds_toArray, List.set_cons_zero, List.set_cons_succ]
        refine take_yes (i := 5) (oi := ?o45) (d := (some 24)) (v := ?v45) ?hi45 (by kernel_rfl) (by kernel_rfl) (by kernel_rfl) (fun _ _ _ h => h) ?hd45 ?hw45 ?hy45 (by assumption) ?_
        case hi45 => (simp only [List.getElem?_toArray, List.getElem?_cons_zero, List.getElem?_cons_succ]; exact rfl)
        case hd45 => rfl
        case hw45 => rfl
        case hy45 => (intro w hSw; (try dsimp only at hSw); go_simp; try with_reducible rfl)
        try simp only [Act.put, List.setIfInBounds_toArray, List.set_cons_zero, List.set_cons_succ]
        refine take_yes (i := 6) (oi := ?o46) (d := (some 25)) (v := ?v46) ?hi46 (by kernel_rfl) (by kernel_rfl) (by kernel_rfl) (fun _ _ _ h => h) ?hd46 ?hw46 ?hy46 (by assumption) ?_
        case hi46 => (simp only [List.getElem?_toArray, List.getElem?_cons_zero, List.getElem?_cons_succ]; exact rfl)
        case hd46 => rfl
        case hw46 => rfl
        case hy46 => (intro w hSw; (try dsimp only at hSw); go_simp; try with_reducible rfl)
        try simp only [Act.put, List.setIfInBounds_toArray, List.set_cons_zero, List.set_cons_succ]
        refine take_yes (i := 7) (oi := ?o47) (d := (some 26)) (v := ?v47) ?hi47 (by kernel_rfl) (by kernel_rfl) (by kernel_rfl) (fun _ _ _ h => h) ?hd47 ?hw47 ?hy47 (by assumption) ?_
        case hi47 => (simp only [List.getElem?_toArray, List.getElem?_cons_zero, List.getElem?_cons_succ]; exact rfl)
        case hd47 => rfl
        case hw47 => rfl
        case hy47 => (intro w hSw; (try dsimp only at hSw); go_simp; try with_reducible rfl)
        try simp only [Act.put, List.setIfInBounds_toArray, List.set_cons_zero, List.set_cons_succ]
        refine take_yes (i := 8) (oi := ?o48) (d := (some 27)) (v := ?v48) ?hi48 (by kernel_rfl) (by kernel_rfl) (by kernel_rfl) (fun _ _ _ h => h) ?hd48 ?hw48 ?hy48 (by assumption) ?_
        case hi48 => (simp only [List.getElem?_toArray, List.getElem?_cons_zero, List.getElem?_cons_succ]; exact rfl)
        case hd48 => rfl
        case hw48 => rfl
        case hy48 => (intro w hSw; (try dsimp only at hSw); go_simp; try with_reducible rfl)
        try simp only [Act.put, List.setIfInBounds_toArray, List.set_cons_zero, List.set_cons_succ]
        refine take_yes (i := 9) (oi := ?o49) (d := (some 28)) (v := ?v49) ?hi49 (by kernel_rfl) (by kernel_rfl) (by kernel_rfl) (fun _ _ _ h => h) ?hd49 ?hw49 ?hy49 (by assumption) ?_
        case hi49 => (simp only [List.getElem?_toArray, List.getElem?_cons_zero, List.getElem?_cons_succ]; exact rfl)
        case hd49 => rfl
        case hw49 => rfl
        case hy49 => (intro w hSw; (try dsimp only at hSw); go_simp; try with_reducible rfl)
        try simp only [Act.put, List.setIfInBounds_toArray, List.set_cons_zero, List.set_cons_succ]
        refine take_yes (i := 10) (oi := ?o50) (d := (some 29)) (v := ?v50) ?hi50 (by kernel_rfl) (by kernel_rfl) (by kernel_rfl) (fun _ _ _ h => h) ?hd50 ?hw50 ?hy50 (by assumption) ?_
        case hi50 => (simp only [List.getElem?_toArray, List.getElem?_cons_zero, List.getElem?_cons_succ]; exact rfl)
        case hd50 => rfl
        case hw50 => rfl
        case hy50 => (intro w hSw; (try dsimp only at hSw); go_simp; try with_reducible rfl)
        try simp only [Act.put, List.setIfInBounds_toArray, List.set_cons_zero, List.set_cons_succ]
        refine wpAnyH_ready (rs := [11]) (by kernel_rfl) (by simp) ?_
        refine AllReadyH.cons rfl (fun K hK => ?_) AllReadyH.nil
        go_simp
        (go_at_call 42; refine (rAisleS r wd zs A c _ _ HY.out HI0.out hlen _ (by assumption)).mono ?_; rintro e w3 ⟨rfl, hb3⟩)
        go_wp2_with fail
        refine hK.out _ _ (by exact Own.keep (by assumption) (by assumption)) (fun hHeld11 => ?_)
        clear hK K
        try simp only [Act.put, List.setIfInBounds_toArray, List.set_cons_zero, List.set_cons_succ]
        refine take_yes (i := 12) (oi := ?o51) (d := (some 31)) (v := ?v51) ?hi51 (by kernel_rfl) (by kernel_rfl) (by kernel_rfl) (fun _ _ _ h => h) ?hd51 ?hw51 ?hy51 (by assumption) ?_
        case hi51 => (simp only [List.getElem?_toArray, List.getElem?_cons_zero, List.getElem?_cons_succ]; exact rfl)
        case hd51 => rfl
        case hw51 => rfl
        case hy51 => (intro w hSw; (try dsimp only at hSw); go_simp; try with_reducible rfl)
        try simp only [Act.put, List.setIfInBounds_toArray, List.set_cons_zero, List.set_cons_succ]
        refine take_no (i := 13) (oi := ?o52) (d := (some 32)) ?hi52 (by kernel_rfl) (by kernel_rfl) (by kernel_rfl) (fun _ _ _ h => h) ?hd52 ?hw52 (by assumption) ?_
        case hi52 => (simp only [List.getElem?_toArray, List.getElem?_cons_zero, List.getElem?_cons_succ]; exact rfl)
        case hd52 => rfl
        case hw52 => rfl
        try simp only [Act.put, List.setIfInBounds_toArray, List.set_cons_zero, List.set_cons_succ]
        refine take_no (i := 14) (oi := ?o53) (d := (some 33)) ?hi53 (by kernel_rfl) (by kernel_rfl) (by kernel_rfl) (fun _ _ _ h => h) ?hd53 ?hw53 (by assumption) ?_
        case hi53 => (simp only [List.getElem?_toArray, List.getElem?_cons_zero, List.getElem?_cons_succ]; exact rfl)
        case hd53 => rfl
        case hw53 => rfl
        try simp only [Act.put, List.setIfInBounds_toArray, List.set_cons_zero, List.set_cons_succ]
        refine take_no (i := 15) (oi := ?o54) (d := (some 34)) ?hi54 (by kernel_rfl) (by kernel_rfl) (by kernel_rfl) (fun _ _ _ h => h) ?hd54 ?hw54 (by assumption) ?_
        case hi54 => (simp only [List.getElem?_toArray, List.getElem?_cons_zero, List.getElem?_cons_succ]; exact rfl)
        case hd54 => rfl
        case hw54 => rfl
        try simp only [Act.put, List.setIfInBounds_toArray, List.set_cons_zero, List.set_cons_succ]
        refine take_no (i := 16) (oi := ?o55) (d := (some 35)) ?hi55 (by kernel_rfl) (by kernel_rfl) (by kernel_rfl) (fun _ _ _ h => h) ?hd55 ?hw55 (by assumption) ?_
        case hi55 => (simp only [List.getElem?_toArray, List.getElem?_cons_zero, List.getElem?_cons_succ]; exact rfl)
        case hd55 => rfl
        case hw55 => rfl
        try simp only [Act.put, List.setIfInBounds_toArray, List.set_cons_zero, List.set_cons_succ]
        refine take_yes (i := 17) (oi := ?o56) (d := (some 36)) (v := ?v56) ?hi56 (by kernel_rfl) (by kernel_rfl) (by kernel_rfl) (fun _ _ _ h => h) ?hd56 ?hw56 ?hy56 (by assumption) ?_
        case hi56 => (simp only [List.getElem?_toArray, List.getElem?_cons_zero, List.getElem?_cons_succ]; exact rfl)
        case hd56 => rfl
        case hw56 => rfl
        case hy56 => (intro w hSw; (try dsimp only at hSw); go_simp; try with_reducible rfl)
        try simp only [Act.put, List.setIfInBounds_toArray, List.set_cons_zero, List.set_cons_succ]
        refine take_yes (i := 18) (oi := ?o57) (d := (some 4)) (v := ?v57) ?hi57 (by kernel_rfl) (by kernel_rfl) (by kernel_rfl) (fun _ _ _ h => h) ?hd57 ?hw57 ?hy57 (by assumption) ?_
        case hi57 => (simp only [List.getElem?_toArray, List.getElem?_cons_zero, List.getElem?_cons_succ]; exact rfl)
        case hd57 => rfl
        case hw57 => rfl
        case hy57 => (intro w hSw; (try dsimp only at hSw); go_simp; try with_reducible rfl)
        try simp only [Act.put, List.setIfInBounds_toArray, List.set_cons_zero, List.set_cons_succ]
        refine take_yes (i := 19) (oi := ?o58) (d := (some 5)) (v := ?v58) ?hi58 (by kernel_rfl) (by kernel_rfl) (by kernel_rfl) (fun _ _ _ h => h) ?hd58 ?hw58 ?hy58 (by assumption) ?_
        case hi58 => (simp only [List.getElem?_toArray, List.getElem?_cons_zero, List.getElem?_cons_succ]; exact rfl)
        case hd58 => rfl
        case hw58 => rfl
        case hy58 => (intro w hSw; (try dsimp only at hSw); go_simp; try with_reducible rfl)
        try simp only [Act.put, List.setIfInBounds_toArray, List.set_cons_zero, List.set_cons_succ]
        refine take_yes (i := 20) (oi := ?o59) (d := (some 6)) (v := ?v59) ?hi59 (by kernel_rfl) (by kernel_rfl) (by kernel_rfl) (fun _ _ _ h => h) ?hd59 ?hw59 ?hy59 (by assumption) ?_
        case hi59 => (simp only [List.getElem?_toArray, List.getElem?_cons_zero, List.getElem?_cons_succ]; exact rfl)
        case hd59 => rfl
        case hw59 => rfl
        case hy59 => (intro w hSw; (try dsimp only at hSw); go_simp; try with_reducible rfl)
        try simp only [Act.put, List.setIfInBounds_toArray, List.set_cons_zero, List.set_cons_succ]
        refine wpAnyH_done (by kernel_rfl) ?_ _
        go_wp2_with fail
        go_ret3
        exact ⟨by first | rfl | simp, Own.below (by assumption)⟩
      | false =>
        refine wp_region_held_drew (S := (fun w' => w'.cell? ⟨w.heap.size, 0, none⟩ = some (.int .i64 r) ∧ w'.cell? ⟨w.heap.size, 1, none⟩ = some (.int .i64 wd) ∧ w'.cell? ⟨w.heap.size, 2, none⟩ = some (.slice A zs.length c) ∧ Below w.heap.size w w' ∧ w.heap.size < w'.heap.size)) (by kernel_rfl) (by exact Own.keep hS (ext_drew (Below.refl _ _))) (fun hHeld => ?_)
        refine take_yes (i := 0) (oi := ?o60) (d := (some 19)) (v := ?v60) ?hi60 (by kernel_rfl) (by kernel_rfl) (by kernel_rfl) (fun _ _ _ h => h) ?hd60 ?hw60 ?hy60 (by assumption) ?_
        case hi60 => (simp only [List.getElem?_toArray, List.getElem?_cons_zero]; exact rfl)
        case hd60 => rfl
        case hw60 => rfl
        case hy60 => (intro w hSw; (try dsimp only at hSw); go_simp; try with_reducible rfl)
        try simp only [Act.put, List.setIfInBounds_toArray, List.set_cons_zero, List.set_cons_succ]
        refine take_yes (i := 1) (oi := ?o61) (d := (some 20)) (v := ?v61) ?hi61 (by kernel_rfl) (by kernel_rfl) (by kernel_rfl) (fun _ _ _ h => h) ?hd61 ?hw61 ?hy61 (by assumption) ?_
        case hi61 => (simp only [List.getElem?_toArray, List.getElem?_cons_zero, List.getElem?_cons_succ]; exact rfl)
        case hd61 => rfl
        case hw61 => rfl
        case hy61 => (intro w hSw; (try dsimp only at hSw); go_simp; try with_reducible rfl)
        try simp only [Act.put, List.setIfInBounds_toArray, List.set_cons_zero, List.set_cons_succ]
        refine take_yes (i := 2) (oi := ?o62) (d := (some 21)) (v := ?v62) ?hi62 (by kernel_rfl) (by kernel_rfl) (by kernel_rfl) (fun _ _ _ h => h) ?hd62 ?hw62 ?hy62 (by assumption) ?_
        case hi62 => (simp only [List.getElem?_toArray, List.getElem?_cons_zero, List.getElem?_cons_succ]; exact rfl)
        case hd62 => rfl
        case hw62 => rfl
        case hy62 => (intro w hSw; (try dsimp only at hSw); go_simp; try with_reducible rfl)
        try simp only [Act.put, List.setIfInBounds_toArray, List.set_cons_zero, List.set_cons_succ]
        refine take_yes (i := 3) (oi := ?o63) (d := (some 22)) (v := ?v63) ?hi63 (by kernel_rfl) (by kernel_rfl) (by kernel_rfl) (fun _ _ _ h => h) ?hd63 ?hw63 ?hy63 (by assumption) ?_
        case hi63 => (simp only [List.getElem?_toArray, List.getElem?_cons_zero, List.getElem?_cons_succ]; exact rfl)
        case hd63 => rfl
        case hw63 => rfl
        case hy63 => (intro w hSw; (try dsimp only at hSw); go_simp; try with_reducible rfl)
        try simp only [Act.put, List.setIfInBounds_toArray, List.set_cons_zero, List.set_cons_succ]
        refine take_yes (i := 4) (oi := ?o64) (d := (some 23)) (v := ?v64) ?hi64 (by kernel_rfl) (by kernel_rfl) (by kernel_rfl) (fun _ _ _ h => h) ?hd64 ?hw64 ?hy64 (by assumption) ?_
        case hi64 => (simp only [List.getElem?_toArray, List.getElem?_cons_zero, List.getElem?_cons_succ]; exact rfl)
        case hd64 => rfl
        case hw64 => rfl
        case hy64 => (intro w hSw; (try dsimp only at hSw); go_simp; try with_reducible rfl)
        try simp only [Act.put, List.setIfInBounds_toArray, List.set_cons_zero, List.set_cons_succ]
        refine take_yes (i := 5) (oi := ?o65) (d := (some 24)) (v := ?v65) ?hi65 (by kernel_rfl) (by kernel_rfl) (by kernel_rfl) (fun _ _ _ h => h) ?hd65 ?hw65 ?hy65 (by assumption) ?_
        case hi65 => (simp only [List.getElem?_toArray, List.getElem?_cons_zero, List.getElem?_cons_succ]; exact rfl)
        case hd65 => rfl
        case hw65 => rfl
        case hy65 => (intro w hSw; (try dsimp only at hSw); go_simp; try with_reducible rfl)
        try simp only [Act.put, List.setIfInBounds_toArray, List.set_cons_zero, List.set_cons_succ]
        refine take_yes (i := 6) (oi := ?o66) (d := (some 25)) (v := ?v66) ?hi66 (by kernel_rfl) (by kernel_rfl) (by kernel_rfl) (fun _ _ _ h => h) ?hd66 ?hw66 ?hy66 (by assumption) ?_
        case hi66 => (simp only [List.getElem?_toArray, List.getElem?_cons_zero, List.getElem?_cons_succ]; exact rfl)
        case hd66 => rfl
        case hw66 => rfl
        case hy66 => (intro w hSw; (try dsimp only at hSw); go_simp; try with_reducible rfl)
        try simp only [Act.put, List.setIfInBounds_toArray, List.set_cons_zero, List.set_cons_succ]
        refine take_yes (i := 7) (oi := ?o67) (d := (some 26)) (v := ?v67) ?hi67 (by kernel_rfl) (by kernel_rfl) (by kernel_rfl) (fun _ _ _ h => h) ?hd67 ?hw67 ?hy67 (by assumption) ?_
        case hi67 => (simp only [List.getElem?_toArray, List.getElem?_cons_zero, List.getElem?_cons_succ]; exact rfl)
        case hd67 => rfl
        case hw67 => rfl
        case hy67 => (intro w hSw; (try dsimp only at hSw); go_simp; try with_reducible rfl)
        try simp only [Act.put, List.setIfInBounds_toArray, List.set_cons_zero, List.set_cons_succ]
        refine take_yes (i := 8) (oi := ?o68) (d := (some 27)) (v := ?v68) ?hi68 (by kernel_rfl) (by kernel_rfl) (by kernel_rfl) (fun _ _ _ h => h) ?hd68 ?hw68 ?hy68 (by assumption) ?_
        case hi68 => (simp only [List.getElem?_toArray, List.getElem?_cons_zero, List.getElem?_cons_succ]; exact rfl)
        case hd68 => rfl
        case hw68 => rfl
        case hy68 => (intro w hSw; (try dsimp only at hSw); go_simp; try with_reducible rfl)
        try simp only [Act.put, List.setIfInBounds_toArray, List.set_cons_zero, List.set_cons_succ]
        refine take_yes (i := 9) (oi := ?o69) (d := (some 28)) (v := ?v69) ?hi69 (by kernel_rfl) (by kernel_rfl) (by kernel_rfl) (fun _ _ _ h => h) ?hd69 ?hw69 ?hy69 (by assumption) ?_
        case hi69 => (simp only [List.getElem?_toArray, List.getElem?_cons_zero, List.getElem?_cons_succ]; exact rfl)
        case hd69 => rfl
        case hw69 => rfl
        case hy69 => (intro w hSw; (try dsimp only at hSw); go_simp; try with_reducible rfl)
        try simp only [Act.put, List.setIfInBounds_toArray, List.set_cons_zero, List.set_cons_succ]
        refine take_yes (i := 10) (oi := ?o70) (d := (some 29)) (v := ?v70) ?hi70 (by kernel_rfl) (by kernel_rfl) (by kernel_rfl) (fun _ _ _ h => h) ?hd70 ?hw70 ?hy70 (by assumption) ?_
        case hi70 => (simp only [List.getElem?_toArray, List.getElem?_cons_zero, List.getElem?_cons_succ]; exact rfl)
        case hd70 => rfl
        case hw70 => rfl
        case hy70 => (intro w hSw; (try dsimp only at hSw); go_simp; try with_reducible rfl)
        try simp only [Act.put, List.setIfInBounds_toArray, List.set_cons_zero, List.set_cons_succ]
        refine wpAnyH_ready (rs := [11]) (by kernel_rfl) (by simp) ?_
        refine AllReadyH.cons rfl (fun K hK => ?_) AllReadyH.nil
        go_simp
        (go_at_call 42; refine (rAisleS r wd zs A c _ _ HY.out HI0.out hlen _ (by assumption)).mono ?_; rintro e w3 ⟨rfl, hb3⟩)
        go_wp2_with fail
        refine hK.out _ _ (by exact Own.keep (by assumption) (by assumption)) (fun hHeld11 => ?_)
        clear hK K
        try simp only [Act.put, List.setIfInBounds_toArray, List.set_cons_zero, List.set_cons_succ]
        refine take_yes (i := 12) (oi := ?o71) (d := (some 31)) (v := ?v71) ?hi71 (by kernel_rfl) (by kernel_rfl) (by kernel_rfl) (fun _ _ _ h => h) ?hd71 ?hw71 ?hy71 (by assumption) ?_
        case hi71 => (simp only [List.getElem?_toArray, List.getElem?_cons_zero, List.getElem?_cons_succ]; exact rfl)
        case hd71 => rfl
        case hw71 => rfl
        case hy71 => (intro w hSw; (try dsimp only at hSw); go_simp; try with_reducible rfl)
        try simp only [Act.put, List.setIfInBounds_toArray, List.set_cons_zero, List.set_cons_succ]
        refine take_yes (i := 13) (oi := ?o72) (d := (some 32)) (v := ?v72) ?hi72 (by kernel_rfl) (by kernel_rfl) (by kernel_rfl) (fun _ _ _ h => h) ?hd72 ?hw72 ?hy72 (by assumption) ?_
        case hi72 => (simp only [List.getElem?_toArray, List.getElem?_cons_zero, List.getElem?_cons_succ]; exact rfl)
        case hd72 => rfl
        case hw72 => rfl
        case hy72 => (intro w hSw; (try dsimp only at hSw); go_simp; try with_reducible rfl)
        try simp only [Act.put, List.setIfInBounds_toArray, List.set_cons_zero, List.set_cons_succ]
        refine take_yes (i := 14) (oi := ?o73) (d := (some 33)) (v := ?v73) ?hi73 (by kernel_rfl) (by kernel_rfl) (by kernel_rfl) (fun _ _ _ h => h) ?hd73 ?hw73 ?hy73 (by assumption) ?_
        case hi73 => (simp only [List.getElem?_toArray, List.getElem?_cons_zero, List.getElem?_cons_succ]; exact rfl)
        case hd73 => rfl
        case hw73 => rfl
        case hy73 => (intro w hSw; (try dsimp only at hSw); go_simp; try with_reducible rfl)
        try simp only [Act.put, List.setIfInBounds_toArray, List.set_cons_zero, List.set_cons_succ]
        refine take_yes (i := 15) (oi := ?o74) (d := (some 34)) (v := ?v74) ?hi74 (by kernel_rfl) (by kernel_rfl) (by kernel_rfl) (fun _ _ _ h => h) ?hd74 ?hw74 ?hy74 (by assumption) ?_
        case hi74 => (simp only [List.getElem?_toArray, List.getElem?_cons_zero, List.getElem?_cons_succ]; exact rfl)
        case hd74 => rfl
        case hw74 => rfl
        case hy74 => (intro w hSw; (try dsimp only at hSw); go_simp; try with_reducible rfl)
        try simp only [Act.put, List.setIfInBounds_toArray, List.set_cons_zero, List.set_cons_succ]
        refine wpAnyH_ready (rs := [16]) (by kernel_rfl) (by simp) ?_
        refine AllReadyH.cons rfl (fun K hK => ?_) AllReadyH.nil
        go_simp
        (go_at_call 42; refine (rAisleS r wd zs A c _ _ HZ.out HI0.out hlen _ (by assumption)).mono ?_; rintro e w3 ⟨rfl, hb3⟩)
        go_wp2_with fail
        refine hK.out _ _ (by exact Own.keep (by assumption) (by assumption)) (fun hHeld16 => ?_)
        clear hK K
        try simp only [Act.put, List.setIfInBounds_toArray, List.set_cons_zero, List.set_cons_succ]
        refine take_yes (i := 17) (oi := ?o75) (d := (some 36)) (v := ?v75) ?hi75 (by kernel_rfl) (by kernel_rfl) (by kernel_rfl) (fun _ _ _ h => h) ?hd75 ?hw75 ?hy75 (by assumption) ?_
        case hi75 => (simp only [List.getElem?_toArray, List.getElem?_cons_zero, List.getElem?_cons_succ]; exact rfl)
        case hd75 => rfl
        case hw75 => rfl
        case hy75 => (intro w hSw; (try dsimp only at hSw); go_simp; try with_reducible rfl)
        try simp only [Act.put, List.setIfInBounds_toArray, List.set_cons_zero, List.set_cons_succ]
        refine take_yes (i := 18) (oi := ?o76) (d := (some 4)) (v := ?v76) ?hi76 (by kernel_rfl) (by kernel_rfl) (by kernel_rfl) (fun _ _ _ h => h) ?hd76 ?hw76 ?hy76 (by assumption) ?_
        case hi76 => (simp only [List.getElem?_toArray, List.getElem?_cons_zero, List.getElem?_cons_succ]; exact rfl)
        case hd76 => rfl
        case hw76 => rfl
        case hy76 => (intro w hSw; (try dsimp only at hSw); go_simp; try with_reducible rfl)
        try simp only [Act.put, List.setIfInBounds_toArray, List.set_cons_zero, List.set_cons_succ]
        refine take_yes (i := 19) (oi := ?o77) (d := (some 5)) (v := ?v77) ?hi77 (by kernel_rfl) (by kernel_rfl) (by kernel_rfl) (fun _ _ _ h => h) ?hd77 ?hw77 ?hy77 (by assumption) ?_
        case hi77 => (simp only [List.getElem?_toArray, List.getElem?_cons_zero, List.getElem?_cons_succ]; exact rfl)
        case hd77 => rfl
        case hw77 => rfl
        case hy77 => (intro w hSw; (try dsimp only at hSw); go_simp; try with_reducible rfl)
        try simp only [Act.put, List.setIfInBounds_toArray, List.set_cons_zero, List.set_cons_succ]
        refine take_yes (i := 20) (oi := ?o78) (d := (some 6)) (v := ?v78) ?hi78 (by kernel_rfl) (by kernel_rfl) (by kernel_rfl) (fun _ _ _ h => h) ?hd78 ?hw78 ?hy78 (by assumption) ?_
        case hi78 => (simp only [List.getElem?_toArray, List.getElem?_cons_zero, List.getElem?_cons_succ]; exact rfl)
        case hd78 => rfl
        case hw78 => rfl
        case hy78 => (intro w hSw; (try dsimp only at hSw); go_simp; try with_reducible rfl)
        try simp only [Act.put, List.setIfInBounds_toArray, List.set_cons_zero, List.set_cons_succ]
        refine wpAnyH_done (by kernel_rfl) ?_ _
        go_wp2_with fail
        go_ret3
        exact ⟨by first | rfl | simp, Own.below (by assumption)⟩
    · have hx2 : x = false := by rw [← hx, Bool.or_eq_false_iff, beq_eq_false_iff_ne, beq_eq_false_iff_ne]; omega
      subst hx2
      clear hx
      cases y with
      | true =>
        refine wp_region_held_drew (S := (fun w' => w'.cell? ⟨w.heap.size, 0, none⟩ = some (.int .i64 r) ∧ w'.cell? ⟨w.heap.size, 1, none⟩ = some (.int .i64 wd) ∧ w'.cell? ⟨w.heap.size, 2, none⟩ = some (.slice A zs.length c) ∧ Below w.heap.size w w' ∧ w.heap.size < w'.heap.size)) (by kernel_rfl) (by exact Own.keep hS (ext_drew (Below.refl _ _))) (fun hHeld => ?_)
        refine take_yes (i := 0) (oi := ?o79) (d := (some 19)) (v := ?v79) ?hi79 (by kernel_rfl) (by kernel_rfl) (by kernel_rfl) (fun _ _ _ h => h) ?hd79 ?hw79 ?hy79 (by assumption) ?_
        case hi79 => (simp only [List.getElem?_toArray, List.getElem?_cons_zero]; exact rfl)
        case hd79 => rfl
        case hw79 => rfl
        case hy79 => (intro w hSw; (try dsimp only at hSw); go_simp; try with_reducible rfl)
        try simp only [Act.put, List.setIfInBounds_toArray, List.set_cons_zero, List.set_cons_succ]
        refine take_yes (i := 1) (oi := ?o80) (d := (some 20)) (v := ?v80) ?hi80 (by kernel_rfl) (by kernel_rfl) (by kernel_rfl) (fun _ _ _ h => h) ?hd80 ?hw80 ?hy80 (by assumption) ?_
        case hi80 => (simp only [List.getElem?_toArray, List.getElem?_cons_zero, List.getElem?_cons_succ]; exact rfl)
        case hd80 => rfl
        case hw80 => rfl
        case hy80 => (intro w hSw; (try dsimp only at hSw); go_simp; try with_reducible rfl)
        try simp only [Act.put, List.setIfInBounds_toArray, List.set_cons_zero, List.set_cons_succ]
        refine take_yes (i := 2) (oi := ?o81) (d := (some 21)) (v := ?v81) ?hi81 (by kernel_rfl) (by kernel_rfl) (by kernel_rfl) (fun _ _ _ h => h) ?hd81 ?hw81 ?hy81 (by assumption) ?_
        case hi81 => (simp only [List.getElem?_toArray, List.getElem?_cons_zero, List.getElem?_cons_succ]; exact rfl)
        case hd81 => rfl
        case hw81 => rfl
        case hy81 => (intro w hSw; (try dsimp only at hSw); go_simp; try with_reducible rfl)
        try simp only [Act.put, List.setIfInBounds_toArray, List.set_cons_zero, List.set_cons_succ]
        refine take_yes (i := 3) (oi := ?o82) (d := (some 22)) (v := ?v82) ?hi82 (by kernel_rfl) (by kernel_rfl) (by kernel_rfl) (fun _ _ _ h => h) ?hd82 ?hw82 ?hy82 (by assumption) ?_
        case hi82 => (simp only [List.getElem?_toArray, List.getElem?_cons_zero, List.getElem?_cons_succ]; exact rfl)
        case hd82 => rfl
        case hw82 => rfl
        case hy82 => (intro w hSw; (try dsimp only at hSw); go_simp; try with_reducible rfl)
        try simp only [Act.put, List.setIfInBounds_toArray, List.set_cons_zero, List.set_cons_succ]
        refine take_yes (i := 4) (oi := ?o83) (d := (some 23)) (v := ?v83) ?hi83 (by kernel_rfl) (by kernel_rfl) (by kernel_rfl) (fun _ _ _ h => h) ?hd83 ?hw83 ?hy83 (by assumption) ?_
        case hi83 => (simp only [List.getElem?_toArray, List.getElem?_cons_zero, List.getElem?_cons_succ]; exact rfl)
        case hd83 => rfl
        case hw83 => rfl
        case hy83 => (intro w hSw; (try dsimp only at hSw); go_simp; try with_reducible rfl)
        try simp only [Act.put, List.setIfInBounds_toArray, List.set_cons_zero, List.set_cons_succ]
        refine take_yes (i := 5) (oi := ?o84) (d := (some 24)) (v := ?v84) ?hi84 (by kernel_rfl) (by kernel_rfl) (by kernel_rfl) (fun _ _ _ h => h) ?hd84 ?hw84 ?hy84 (by assumption) ?_
        case hi84 => (simp only [List.getElem?_toArray, List.getElem?_cons_zero, List.getElem?_cons_succ]; exact rfl)
        case hd84 => rfl
        case hw84 => rfl
        case hy84 => (intro w hSw; (try dsimp only at hSw); go_simp; try with_reducible rfl)
        try simp only [Act.put, List.setIfInBounds_toArray, List.set_cons_zero, List.set_cons_succ]
        refine take_yes (i := 6) (oi := ?o85) (d := (some 25)) (v := ?v85) ?hi85 (by kernel_rfl) (by kernel_rfl) (by kernel_rfl) (fun _ _ _ h => h) ?hd85 ?hw85 ?hy85 (by assumption) ?_
        case hi85 => (simp only [List.getElem?_toArray, List.getElem?_cons_zero, List.getElem?_cons_succ]; exact rfl)
        case hd85 => rfl
        case hw85 => rfl
        case hy85 => (intro w hSw; (try dsimp only at hSw); go_simp; try with_reducible rfl)
        try simp only [Act.put, List.setIfInBounds_toArray, List.set_cons_zero, List.set_cons_succ]
        refine take_yes (i := 7) (oi := ?o86) (d := (some 26)) (v := ?v86) ?hi86 (by kernel_rfl) (by kernel_rfl) (by kernel_rfl) (fun _ _ _ h => h) ?hd86 ?hw86 ?hy86 (by assumption) ?_
        case hi86 => (simp only [List.getElem?_toArray, List.getElem?_cons_zero, List.getElem?_cons_succ]; exact rfl)
        case hd86 => rfl
        case hw86 => rfl
        case hy86 => (intro w hSw; (try dsimp only at hSw); go_simp; try with_reducible rfl)
        try simp only [Act.put, List.setIfInBounds_toArray, List.set_cons_zero, List.set_cons_succ]
        refine take_yes (i := 8) (oi := ?o87) (d := (some 27)) (v := ?v87) ?hi87 (by kernel_rfl) (by kernel_rfl) (by kernel_rfl) (fun _ _ _ h => h) ?hd87 ?hw87 ?hy87 (by assumption) ?_
        case hi87 => (simp only [List.getElem?_toArray, List.getElem?_cons_zero, List.getElem?_cons_succ]; exact rfl)
        case hd87 => rfl
        case hw87 => rfl
        case hy87 => (intro w hSw; (try dsimp only at hSw); go_simp; try with_reducible rfl)
        try simp only [Act.put, List.setIfInBounds_toArray, List.set_cons_zero, List.set_cons_succ]
        refine take_yes (i := 9) (oi := ?o88) (d := (some 28)) (v := ?v88) ?hi88 (by kernel_rfl) (by kernel_rfl) (by kernel_rfl) (fun _ _ _ h => h) ?hd88 ?hw88 ?hy88 (by assumption) ?_
        case hi88 => (simp only [List.getElem?_toArray, List.getElem?_cons_zero, List.getElem?_cons_succ]; exact rfl)
        case hd88 => rfl
        case hw88 => rfl
        case hy88 => (intro w hSw; (try dsimp only at hSw); go_simp; try with_reducible rfl)
        try simp only [Act.put, List.setIfInBounds_toArray, List.set_cons_zero, List.set_cons_succ]
        refine take_yes (i := 10) (oi := ?o89) (d := (some 29)) (v := ?v89) ?hi89 (by kernel_rfl) (by kernel_rfl) (by kernel_rfl) (fun _ _ _ h => h) ?hd89 ?hw89 ?hy89 (by assumption) ?_
        case hi89 => (simp only [List.getElem?_toArray, List.getElem?_cons_zero, List.getElem?_cons_succ]; exact rfl)
        case hd89 => rfl
        case hw89 => rfl
        case hy89 => (intro w hSw; (try dsimp only at hSw); go_simp; try with_reducible rfl)
        try simp only [Act.put, List.setIfInBounds_toArray, List.set_cons_zero, List.set_cons_succ]
        refine wpAnyH_ready (rs := [11]) (by kernel_rfl) (by simp) ?_
        refine AllReadyH.cons rfl (fun K hK => ?_) AllReadyH.nil
        go_simp
        (go_at_call 42; refine (rAisleS r wd zs A c _ _ HY.out HI0.out hlen _ (by assumption)).mono ?_; rintro e w3 ⟨rfl, hb3⟩)
        go_wp2_with fail
        refine hK.out _ _ (by exact Own.keep (by assumption) (by assumption)) (fun hHeld11 => ?_)
        clear hK K
        try simp only [Act.put, List.setIfInBounds_toArray, List.set_cons_zero, List.set_cons_succ]
        refine take_yes (i := 12) (oi := ?o90) (d := (some 31)) (v := ?v90) ?hi90 (by kernel_rfl) (by kernel_rfl) (by kernel_rfl) (fun _ _ _ h => h) ?hd90 ?hw90 ?hy90 (by assumption) ?_
        case hi90 => (simp only [List.getElem?_toArray, List.getElem?_cons_zero, List.getElem?_cons_succ]; exact rfl)
        case hd90 => rfl
        case hw90 => rfl
        case hy90 => (intro w hSw; (try dsimp only at hSw); go_simp; try with_reducible rfl)
        try simp only [Act.put, List.setIfInBounds_toArray, List.set_cons_zero, List.set_cons_succ]
        refine take_no (i := 13) (oi := ?o91) (d := (some 32)) ?hi91 (by kernel_rfl) (by kernel_rfl) (by kernel_rfl) (fun _ _ _ h => h) ?hd91 ?hw91 (by assumption) ?_
        case hi91 => (simp only [List.getElem?_toArray, List.getElem?_cons_zero, List.getElem?_cons_succ]; exact rfl)
        case hd91 => rfl
        case hw91 => rfl
        try simp only [Act.put, List.setIfInBounds_toArray, List.set_cons_zero, List.set_cons_succ]
        refine take_no (i := 14) (oi := ?o92) (d := (some 33)) ?hi92 (by kernel_rfl) (by kernel_rfl) (by kernel_rfl) (fun _ _ _ h => h) ?hd92 ?hw92 (by assumption) ?_
        case hi92 => (simp only [List.getElem?_toArray, List.getElem?_cons_zero, List.getElem?_cons_succ]; exact rfl)
        case hd92 => rfl
        case hw92 => rfl
        try simp only [Act.put, List.setIfInBounds_toArray, List.set_cons_zero, List.set_cons_succ]
        refine take_no (i := 15) (oi := ?o93) (d := (some 34)) ?hi93 (by kernel_rfl) (by kernel_rfl) (by kernel_rfl) (fun _ _ _ h => h) ?hd93 ?hw93 (by assumption) ?_
        case hi93 => (simp only [List.getElem?_toArray, List.getElem?_cons_zero, List.getElem?_cons_succ]; exact rfl)
        case hd93 => rfl
        case hw93 => rfl
        try simp only [Act.put, List.setIfInBounds_toArray, List.set_cons_zero, List.set_cons_succ]
        refine take_no (i := 16) (oi := ?o94) (d := (some 35)) ?hi94 (by kernel_rfl) (by kernel_rfl) (by kernel_rfl) (fun _ _ _ h => h) ?hd94 ?hw94 (by assumption) ?_
        case hi94 => (simp only [List.getElem?_toArray, List.getElem?_cons_zero, List.getElem?_cons_succ]; exact rfl)
        case hd94 => rfl
        case hw94 => rfl
        try simp only [Act.put, List.setIfInBounds_toArray, List.set_cons_zero, List.set_cons_succ]
        refine take_yes (i := 17) (oi := ?o95) (d := (some 36)) (v := ?v95) ?hi95 (by kernel_rfl) (by kernel_rfl) (by kernel_rfl) (fun _ _ _ h => h) ?hd95 ?hw95 ?hy95 (by assumption) ?_
        case hi95 => (simp only [List.getElem?_toArray, List.getElem?_cons_zero, List.getElem?_cons_succ]; exact rfl)
        case hd95 => rfl
        case hw95 => rfl
        case hy95 => (intro w hSw; (try dsimp only at hSw); go_simp; try with_reducible rfl)
        try simp only [Act.put, List.setIfInBounds_toArray, List.set_cons_zero, List.set_cons_succ]
        refine take_yes (i := 18) (oi := ?o96) (d := (some 4)) (v := ?v96) ?hi96 (by kernel_rfl) (by kernel_rfl) (by kernel_rfl) (fun _ _ _ h => h) ?hd96 ?hw96 ?hy96 (by assumption) ?_
        case hi96 => (simp only [List.getElem?_toArray, List.getElem?_cons_zero, List.getElem?_cons_succ]; exact rfl)
        case hd96 => rfl
        case hw96 => rfl
        case hy96 => (intro w hSw; (try dsimp only at hSw); go_simp; try with_reducible rfl)
        try simp only [Act.put, List.setIfInBounds_toArray, List.set_cons_zero, List.set_cons_succ]
        refine take_yes (i := 19) (oi := ?o97) (d := (some 5)) (v := ?v97) ?hi97 (by kernel_rfl) (by kernel_rfl) (by kernel_rfl) (fun _ _ _ h => h) ?hd97 ?hw97 ?hy97 (by assumption) ?_
        case hi97 => (simp only [List.getElem?_toArray, List.getElem?_cons_zero, List.getElem?_cons_succ]; exact rfl)
        case hd97 => rfl
        case hw97 => rfl
        case hy97 => (intro w hSw; (try dsimp only at hSw); go_simp; try with_reducible rfl)
        try simp only [Act.put, List.setIfInBounds_toArray, List.set_cons_zero, List.set_cons_succ]
        refine take_yes (i := 20) (oi := ?o98) (d := (some 6)) (v := ?v98) ?hi98 (by kernel_rfl) (by kernel_rfl) (by kernel_rfl) (fun _ _ _ h => h) ?hd98 ?hw98 ?hy98 (by assumption) ?_
        case hi98 => (simp only [List.getElem?_toArray, List.getElem?_cons_zero, List.getElem?_cons_succ]; exact rfl)
        case hd98 => rfl
        case hw98 => rfl
        case hy98 => (intro w hSw; (try dsimp only at hSw); go_simp; try with_reducible rfl)
        try simp only [Act.put, List.setIfInBounds_toArray, List.set_cons_zero, List.set_cons_succ]
        refine wpAnyH_done (by kernel_rfl) ?_ _
        go_wp2_with fail
        go_ret3
        exact ⟨by first | rfl | (simp; omega), Own.below (by assumption)⟩
      | false =>
        refine wp_region_held_drew (S := (fun w' => w'.cell? ⟨w.heap.size, 0, none⟩ = some (.int .i64 r) ∧ w'.cell? ⟨w.heap.size, 1, none⟩ = some (.int .i64 wd) ∧ w'.cell? ⟨w.heap.size, 2, none⟩ = some (.slice A zs.length c) ∧ Below w.heap.size w w' ∧ w.heap.size < w'.heap.size)) (by kernel_rfl) (by exact Own.keep hS (ext_drew (Below.refl _ _))) (fun hHeld => ?_)
        refine take_yes (i := 0) (oi := ?o99) (d := (some 19)) (v := ?v99) ?hi99 (by kernel_rfl) (by kernel_rfl) (by kernel_rfl) (fun _ _ _ h => h) ?hd99 ?hw99 ?hy99 (by assumption) ?_
        case hi99 => (simp only [List.getElem?_toArray, List.getElem?_cons_zero]; exact rfl)
        case hd99 => rfl
        case hw99 => rfl
        case hy99 => (intro w hSw; (try dsimp only at hSw); go_simp; try with_reducible rfl)
        try simp only [Act.put, List.setIfInBounds_toArray, List.set_cons_zero, List.set_cons_succ]
        refine take_yes (i := 1) (oi := ?o100) (d := (some 20)) (v := ?v100) ?hi100 (by kernel_rfl) (by kernel_rfl) (by kernel_rfl) (fun _ _ _ h => h) ?hd100 ?hw100 ?hy100 (by assumption) ?_
        case hi100 => (simp only [List.getElem?_toArray, List.getElem?_cons_zero, List.getElem?_cons_succ]; exact rfl)
        case hd100 => rfl
        case hw100 => rfl
        case hy100 => (intro w hSw; (try dsimp only at hSw); go_simp; try with_reducible rfl)
        try simp only [Act.put, List.setIfInBounds_toArray, List.set_cons_zero, List.set_cons_succ]
        refine take_yes (i := 2) (oi := ?o101) (d := (some 21)) (v := ?v101) ?hi101 (by kernel_rfl) (by kernel_rfl) (by kernel_rfl) (fun _ _ _ h => h) ?hd101 ?hw101 ?hy101 (by assumption) ?_
        case hi101 => (simp only [List.getElem?_toArray, List.getElem?_cons_zero, List.getElem?_cons_succ]; exact rfl)
        case hd101 => rfl
        case hw101 => rfl
        case hy101 => (intro w hSw; (try dsimp only at hSw); go_simp; try with_reducible rfl)
        try simp only [Act.put, List.setIfInBounds_toArray, List.set_cons_zero, List.set_cons_succ]
        refine take_yes (i := 3) (oi := ?o102) (d := (some 22)) (v := ?v102) ?hi102 (by kernel_rfl) (by kernel_rfl) (by kernel_rfl) (fun _ _ _ h => h) ?hd102 ?hw102 ?hy102 (by assumption) ?_
        case hi102 => (simp only [List.getElem?_toArray, List.getElem?_cons_zero, List.getElem?_cons_succ]; exact rfl)
        case hd102 => rfl
        case hw102 => rfl
        case hy102 => (intro w hSw; (try dsimp only at hSw); go_simp; try with_reducible rfl)
        try simp only [Act.put, List.setIfInBounds_toArray, List.set_cons_zero, List.set_cons_succ]
        refine take_yes (i := 4) (oi := ?o103) (d := (some 23)) (v := ?v103) ?hi103 (by kernel_rfl) (by kernel_rfl) (by kernel_rfl) (fun _ _ _ h => h) ?hd103 ?hw103 ?hy103 (by assumption) ?_
        case hi103 => (simp only [List.getElem?_toArray, List.getElem?_cons_zero, List.getElem?_cons_succ]; exact rfl)
        case hd103 => rfl
        case hw103 => rfl
        case hy103 => (intro w hSw; (try dsimp only at hSw); go_simp; try with_reducible rfl)
        try simp only [Act.put, List.setIfInBounds_toArray, List.set_cons_zero, List.set_cons_succ]
        refine take_yes (i := 5) (oi := ?o104) (d := (some 24)) (v := ?v104) ?hi104 (by kernel_rfl) (by kernel_rfl) (by kernel_rfl) (fun _ _ _ h => h) ?hd104 ?hw104 ?hy104 (by assumption) ?_
        case hi104 => (simp only [List.getElem?_toArray, List.getElem?_cons_zero, List.getElem?_cons_succ]; exact rfl)
        case hd104 => rfl
        case hw104 => rfl
        case hy104 => (intro w hSw; (try dsimp only at hSw); go_simp; try with_reducible rfl)
        try simp only [Act.put, List.setIfInBounds_toArray, List.set_cons_zero, List.set_cons_succ]
        refine take_yes (i := 6) (oi := ?o105) (d := (some 25)) (v := ?v105) ?hi105 (by kernel_rfl) (by kernel_rfl) (by kernel_rfl) (fun _ _ _ h => h) ?hd105 ?hw105 ?hy105 (by assumption) ?_
        case hi105 => (simp only [List.getElem?_toArray, List.getElem?_cons_zero, List.getElem?_cons_succ]; exact rfl)
        case hd105 => rfl
        case hw105 => rfl
        case hy105 => (intro w hSw; (try dsimp only at hSw); go_simp; try with_reducible rfl)
        try simp only [Act.put, List.setIfInBounds_toArray, List.set_cons_zero, List.set_cons_succ]
        refine take_yes (i := 7) (oi := ?o106) (d := (some 26)) (v := ?v106) ?hi106 (by kernel_rfl) (by kernel_rfl) (by kernel_rfl) (fun _ _ _ h => h) ?hd106 ?hw106 ?hy106 (by assumption) ?_
        case hi106 => (simp only [List.getElem?_toArray, List.getElem?_cons_zero, List.getElem?_cons_succ]; exact rfl)
        case hd106 => rfl
        case hw106 => rfl
        case hy106 => (intro w hSw; (try dsimp only at hSw); go_simp; try with_reducible rfl)
        try simp only [Act.put, List.setIfInBounds_toArray, List.set_cons_zero, List.set_cons_succ]
        refine take_yes (i := 8) (oi := ?o107) (d := (some 27)) (v := ?v107) ?hi107 (by kernel_rfl) (by kernel_rfl) (by kernel_rfl) (fun _ _ _ h => h) ?hd107 ?hw107 ?hy107 (by assumption) ?_
        case hi107 => (simp only [List.getElem?_toArray, List.getElem?_cons_zero, List.getElem?_cons_succ]; exact rfl)
        case hd107 => rfl
        case hw107 => rfl
        case hy107 => (intro w hSw; (try dsimp only at hSw); go_simp; try with_reducible rfl)
        try simp only [Act.put, List.setIfInBounds_toArray, List.set_cons_zero, List.set_cons_succ]
        refine take_yes (i := 9) (oi := ?o108) (d := (some 28)) (v := ?v108) ?hi108 (by kernel_rfl) (by kernel_rfl) (by kernel_rfl) (fun _ _ _ h => h) ?hd108 ?hw108 ?hy108 (by assumption) ?_
        case hi108 => (simp only [List.getElem?_toArray, List.getElem?_cons_zero, List.getElem?_cons_succ]; exact rfl)
        case hd108 => rfl
        case hw108 => rfl
        case hy108 => (intro w hSw; (try dsimp only at hSw); go_simp; try with_reducible rfl)
        try simp only [Act.put, List.setIfInBounds_toArray, List.set_cons_zero, List.set_cons_succ]
        refine take_yes (i := 10) (oi := ?o109) (d := (some 29)) (v := ?v109) ?hi109 (by kernel_rfl) (by kernel_rfl) (by kernel_rfl) (fun _ _ _ h => h) ?hd109 ?hw109 ?hy109 (by assumption) ?_
        case hi109 => (simp only [List.getElem?_toArray, List.getElem?_cons_zero, List.getElem?_cons_succ]; exact rfl)
        case hd109 => rfl
        case hw109 => rfl
        case hy109 => (intro w hSw; (try dsimp only at hSw); go_simp; try with_reducible rfl)
        try simp only [Act.put, List.setIfInBounds_toArray, List.set_cons_zero, List.set_cons_succ]
        refine wpAnyH_ready (rs := [11]) (by kernel_rfl) (by simp) ?_
        refine AllReadyH.cons rfl (fun K hK => ?_) AllReadyH.nil
        go_simp
        (go_at_call 42; refine (rAisleS r wd zs A c _ _ HY.out HI0.out hlen _ (by assumption)).mono ?_; rintro e w3 ⟨rfl, hb3⟩)
        go_wp2_with fail
        refine hK.out _ _ (by exact Own.keep (by assumption) (by assumption)) (fun hHeld11 => ?_)
        clear hK K
        try simp only [Act.put, List.setIfInBounds_toArray, List.set_cons_zero, List.set_cons_succ]
        refine take_yes (i := 12) (oi := ?o110) (d := (some 31)) (v := ?v110) ?hi110 (by kernel_rfl) (by kernel_rfl) (by kernel_rfl) (fun _ _ _ h => h) ?hd110 ?hw110 ?hy110 (by assumption) ?_
        case hi110 => (simp only [List.getElem?_toArray, List.getElem?_cons_zero, List.getElem?_cons_succ]; exact rfl)
        case hd110 => rfl
        case hw110 => rfl
        case hy110 => (intro w hSw; (try dsimp only at hSw); go_simp; try with_reducible rfl)
        try simp only [Act.put, List.setIfInBounds_toArray, List.set_cons_zero, List.set_cons_succ]
        refine take_yes (i := 13) (oi := ?o111) (d := (some 32)) (v := ?v111) ?hi111 (by kernel_rfl) (by kernel_rfl) (by kernel_rfl) (fun _ _ _ h => h) ?hd111 ?hw111 ?hy111 (by assumption) ?_
        case hi111 => (simp only [List.getElem?_toArray, List.getElem?_cons_zero, List.getElem?_cons_succ]; exact rfl)
        case hd111 => rfl
        case hw111 => rfl
        case hy111 => (intro w hSw; (try dsimp only at hSw); go_simp; try with_reducible rfl)
        try simp only [Act.put, List.setIfInBounds_toArray, List.set_cons_zero, List.set_cons_succ]
        refine take_yes (i := 14) (oi := ?o112) (d := (some 33)) (v := ?v112) ?hi112 (by kernel_rfl) (by kernel_rfl) (by kernel_rfl) (fun _ _ _ h => h) ?hd112 ?hw112 ?hy112 (by assumption) ?_
        case hi112 => (simp only [List.getElem?_toArray, List.getElem?_cons_zero, List.getElem?_cons_succ]; exact rfl)
        case hd112 => rfl
        case hw112 => rfl
        case hy112 => (intro w hSw; (try dsimp only at hSw); go_simp; try with_reducible rfl)
        try simp only [Act.put, List.setIfInBounds_toArray, List.set_cons_zero, List.set_cons_succ]
        refine take_yes (i := 15) (oi := ?o113) (d := (some 34)) (v := ?v113) ?hi113 (by kernel_rfl) (by kernel_rfl) (by kernel_rfl) (fun _ _ _ h => h) ?hd113 ?hw113 ?hy113 (by assumption) ?_
        case hi113 => (simp only [List.getElem?_toArray, List.getElem?_cons_zero, List.getElem?_cons_succ]; exact rfl)
        case hd113 => rfl
        case hw113 => rfl
        case hy113 => (intro w hSw; (try dsimp only at hSw); go_simp; try with_reducible rfl)
        try simp only [Act.put, List.setIfInBounds_toArray, List.set_cons_zero, List.set_cons_succ]
        refine wpAnyH_ready (rs := [16]) (by kernel_rfl) (by simp) ?_
        refine AllReadyH.cons rfl (fun K hK => ?_) AllReadyH.nil
        go_simp
        (go_at_call 42; refine (rAisleS r wd zs A c _ _ HZ.out HI0.out hlen _ (by assumption)).mono ?_; rintro e w3 ⟨rfl, hb3⟩)
        go_wp2_with fail
        refine hK.out _ _ (by exact Own.keep (by assumption) (by assumption)) (fun hHeld16 => ?_)
        clear hK K
        try simp only [Act.put, List.setIfInBounds_toArray, List.set_cons_zero, List.set_cons_succ]
        refine take_yes (i := 17) (oi := ?o114) (d := (some 36)) (v := ?v114) ?hi114 (by kernel_rfl) (by kernel_rfl) (by kernel_rfl) (fun _ _ _ h => h) ?hd114 ?hw114 ?hy114 (by assumption) ?_
        case hi114 => (simp only [List.getElem?_toArray, List.getElem?_cons_zero, List.getElem?_cons_succ]; exact rfl)
        case hd114 => rfl
        case hw114 => rfl
        case hy114 => (intro w hSw; (try dsimp only at hSw); go_simp; try with_reducible rfl)
        try simp only [Act.put, List.setIfInBounds_toArray, List.set_cons_zero, List.set_cons_succ]
        refine take_yes (i := 18) (oi := ?o115) (d := (some 4)) (v := ?v115) ?hi115 (by kernel_rfl) (by kernel_rfl) (by kernel_rfl) (fun _ _ _ h => h) ?hd115 ?hw115 ?hy115 (by assumption) ?_
        case hi115 => (simp only [List.getElem?_toArray, List.getElem?_cons_zero, List.getElem?_cons_succ]; exact rfl)
        case hd115 => rfl
        case hw115 => rfl
        case hy115 => (intro w hSw; (try dsimp only at hSw); go_simp; try with_reducible rfl)
        try simp only [Act.put, List.setIfInBounds_toArray, List.set_cons_zero, List.set_cons_succ]
        refine take_yes (i := 19) (oi := ?o116) (d := (some 5)) (v := ?v116) ?hi116 (by kernel_rfl) (by kernel_rfl) (by kernel_rfl) (fun _ _ _ h => h) ?hd116 ?hw116 ?hy116 (by assumption) ?_
        case hi116 => (simp only [List.getElem?_toArray, List.getElem?_cons_zero, List.getElem?_cons_succ]; exact rfl)
        case hd116 => rfl
        case hw116 => rfl
        case hy116 => (intro w hSw; (try dsimp only at hSw); go_simp; try with_reducible rfl)
        try simp only [Act.put, List.setIfInBounds_toArray, List.set_cons_zero, List.set_cons_succ]
        refine take_yes (i := 20) (oi := ?o117) (d := (some 6)) (v := ?v117) ?hi117 (by kernel_rfl) (by kernel_rfl) (by kernel_rfl) (fun _ _ _ h => h) ?hd117 ?hw117 ?hy117 (by assumption) ?_
        case hi117 => (simp only [List.getElem?_toArray, List.getElem?_cons_zero, List.getElem?_cons_succ]; exact rfl)
        case hd117 => rfl
        case hw117 => rfl
        case hy117 => (intro w hSw; (try dsimp only at hSw); go_simp; try with_reducible rfl)
        try simp only [Act.put, List.setIfInBounds_toArray, List.set_cons_zero, List.set_cons_succ]
        refine wpAnyH_done (by kernel_rfl) ?_ _
        go_wp2_with fail
        go_ret3
        exact ⟨by first | rfl | (simp; omega), Own.below (by assumption)⟩

set_option maxRecDepth 100000 in
set_option maxHeartbeats 1000000 in
theorem rWindow_seat (r wd : Int) (zs : List Int) (A : Option Addr) (c : Nat) (s : Int) (w : World) (hI : Ints w A zs) (hlen : zs.length ≤ 20000000000000) (hok : okC r wd zs = true) (hs : s < 0 ∨ r * wd ≤ s) :
    Calls Tryd.prog 22 #[.agg #[.int .i64 r, .int .i64 wd, .slice A zs.length c], .int .i64 s] w fun e w' => e = .returned (.tuple #[.bool false, .bool false, .int .i64 140]) ∧ Below w.heap.size w w' := by
  have HI := Lib.hid (hI.keep (ext_alloc (Below.refl _ w) (.cells #[.int .i64 r, .int .i64 wd, .slice A zs.length c] 24)))
  have HI0 := Lib.hid hI
  have HOK := Lib.hid hok
  clear hI hok
  go_enter Tryd.func22, Tryd.ntmps22
  go_wp2_with fail
  refine (rWrong_seat r wd zs A c s _ HI.out hlen HOK.out hs).mono ?_
  rintro e w1 ⟨rfl, hb⟩
  have hbw := ext_trans (ext_alloc (Below.refl _ w) _) hb
  go_wp2_with fail
  go_ret3
  exact ⟨rfl, hbw⟩

set_option maxRecDepth 100000 in
set_option maxHeartbeats 1000000 in
theorem rWindow_no (r wd : Int) (zs : List Int) (A : Option Addr) (c : Nat) (s : Int) (w : World) (hI : Ints w A zs) (hlen : zs.length ≤ 20000000000000) (hok : okC r wd zs = false) :
    Calls Tryd.prog 22 #[.agg #[.int .i64 r, .int .i64 wd, .slice A zs.length c], .int .i64 s] w fun e w' => e = .returned (.tuple #[.bool false, .bool false, .int .i64 2]) ∧ Below w.heap.size w w' := by
  have HI := Lib.hid (hI.keep (ext_alloc (Below.refl _ w) (.cells #[.int .i64 r, .int .i64 wd, .slice A zs.length c] 24)))
  have HI0 := Lib.hid hI
  have HOK := Lib.hid hok
  clear hI hok
  go_enter Tryd.func22, Tryd.ntmps22
  go_wp2_with fail
  refine (rWrong_no r wd zs A c s _ HI.out hlen HOK.out).mono ?_
  rintro e w1 ⟨rfl, hb⟩
  have hbw := ext_trans (ext_alloc (Below.refl _ w) _) hb
  go_wp2_with fail
  go_ret3
  exact ⟨rfl, hbw⟩

set_option maxRecDepth 100000 in
set_option maxHeartbeats 1000000 in
theorem rBeside_apart (r wd : Int) (zs : List Int) (A : Option Addr) (c : Nat) (a b : Int) (w : World) (hI : Ints w A zs) (hlen : zs.length ≤ 20000000000000) (hok : okC r wd zs = true) (ha0 : 0 ≤ a) (ha1 : a < r * wd) (hb0 : 0 ≤ b) (hb1 : b < r * wd) (hle : a ≤ b) (hne : ¬ b = a + 1) :
    Calls Tryd.prog 23 #[.agg #[.int .i64 r, .int .i64 wd, .slice A zs.length c], .int .i64 a, .int .i64 b] w fun e w' => e = .returned (.tuple #[.bool false, .int .i64 0]) ∧ Below w.heap.size w w' := by
  have HI := Lib.hid (hI.keep (ext_alloc (Below.refl _ w) (.cells #[.int .i64 r, .int .i64 wd, .slice A zs.length c] 24)))
  have HI0 := Lib.hid hI
  have HOK := Lib.hid hok
  obtain ⟨⟨o1, o2, o3, o4⟩, _⟩ := okC_yes hok
  have q2 : r * wd ≤ 64 * 16 := Int.mul_le_mul (by omega) (by omega) (by omega) (by omega)
  clear hI hok
  have v1 : IntKind.i64.wrap (a + 1) = a + 1 := IntWalk.i64_in _ (by omega)
  have g00 : (b == a + 1) = false := beq_eq_false_iff_ne.2 hne
  go_enter Tryd.func23, Tryd.ntmps23
  go_wp2_with fail
  refine (rWrong_yes r wd zs A c a _ HI.out hlen HOK.out ha0 ha1).mono ?_
  rintro e w1 ⟨rfl, hb⟩
  have hS := Own.of hb
  have x0 : w1.cell? ⟨w.heap.size, 0, none⟩ = some (.int .i64 r) := hS.1
  have x1 : w1.cell? ⟨w.heap.size, 1, none⟩ = some (.int .i64 wd) := hS.2.1
  have x2 : w1.cell? ⟨w.heap.size, 2, none⟩ = some (.slice A zs.length c) := hS.2.2.1
  clear hb
  go_wp2_with fail
  refine (rWrong_yes r wd zs A c b _ (HI0.out.keep hS.2.2.2.1) hlen HOK.out hb0 hb1).mono ?_
  rintro e w2 ⟨rfl, hb⟩
  have hS2 := hS.keep hb
  clear hb hS x0 x1 x2
  have hS := hS2
  have x0 : w2.cell? ⟨w.heap.size, 0, none⟩ = some (.int .i64 r) := hS.1
  have x1 : w2.cell? ⟨w.heap.size, 1, none⟩ = some (.int .i64 wd) := hS.2.1
  have x2 : w2.cell? ⟨w.heap.size, 2, none⟩ = some (.slice A zs.length c) := hS.2.2.1
  go_wp2_with fail
  refine wp_region_held_drew (S := (fun w' => w'.cell? ⟨w.heap.size, 0, none⟩ = some (.int .i64 r) ∧ w'.cell? ⟨w.heap.size, 1, none⟩ = some (.int .i64 wd) ∧ w'.cell? ⟨w.heap.size, 2, none⟩ = some (.slice A zs.length c) ∧ Below w.heap.size w w' ∧ w.heap.size < w'.heap.size)) (by kernel_rfl) (by exact Own.keep hS (ext_drew (Below.refl _ _))) (fun hHeld => ?_)
  refine take_yes (i := 0) (oi := ?o118) (d := (some 29)) (v := ?v118) ?hi118 (by kernel_rfl) (by kernel_rfl) (by kernel_rfl) (fun _ _ _ h => h) ?hd118 ?hw118 ?hy118 (by assumption) ?_
  case hi118 => (simp only [List.getElem?_toArray, List.getElem?_cons_zero]; exact rfl)
  case hd118 => rfl
  case hw118 => rfl
  case hy118 => (intro w hSw; (try dsimp only at hSw); go_simp; try with_reducible rfl)
  try simp only [Act.put, List.setIfInBounds_toArray, List.set_cons_zero, List.set_cons_succ]
  refine take_yes (i := 1) (oi := ?o119) (d := (some 30)) (v := ?v119) ?hi119 (by kernel_rfl) (by kernel_rfl) (by kernel_rfl) (fun _ _ _ h => h) ?hd119 ?hw119 ?hy119 (by assumption) ?_
  case hi119 => (simp only [List.getElem?_toArray, List.getElem?_cons_zero, List.getElem?_cons_succ]; exact rfl)
  case hd119 => rfl
  case hw119 => rfl
  case hy119 => (intro w hSw; (try dsimp only at hSw); go_simp; try with_reducible rfl)
  try simp only [Act.put, List.setIfInBounds_toArray, List.set_cons_zero, List.set_cons_succ]
  refine take_yes (i := 2) (oi := ?o120) (d := (some 31)) (v := ?v120) ?hi120 (by kernel_rfl) (by kernel_rfl) (by kernel_rfl) (fun _ _ _ h => h) ?hd120 ?hw120 ?hy120 (by assumption) ?_
  case hi120 => (simp only [List.getElem?_toArray, List.getElem?_cons_zero, List.getElem?_cons_succ]; exact rfl)
  case hd120 => rfl
  case hw120 => rfl
  case hy120 => (intro w hSw; (try dsimp only at hSw); go_simp; try with_reducible rfl)
  try simp only [Act.put, List.setIfInBounds_toArray, List.set_cons_zero, List.set_cons_succ]
  refine take_yes (i := 3) (oi := ?o121) (d := (some 32)) (v := ?v121) ?hi121 (by kernel_rfl) (by kernel_rfl) (by kernel_rfl) (fun _ _ _ h => h) ?hd121 ?hw121 ?hy121 (by assumption) ?_
  case hi121 => (simp only [List.getElem?_toArray, List.getElem?_cons_zero, List.getElem?_cons_succ]; exact rfl)
  case hd121 => rfl
  case hw121 => rfl
  case hy121 => (intro w hSw; (try dsimp only at hSw); go_simp; try with_reducible rfl)
  try simp only [Act.put, List.setIfInBounds_toArray, List.set_cons_zero, List.set_cons_succ]
  refine take_yes (i := 4) (oi := ?o122) (d := (some 33)) (v := ?v122) ?hi122 (by kernel_rfl) (by kernel_rfl) (by kernel_rfl) (fun _ _ _ h => h) ?hd122 ?hw122 ?hy122 (by assumption) ?_
  case hi122 => (simp only [List.getElem?_toArray, List.getElem?_cons_zero, List.getElem?_cons_succ]; exact rfl)
  case hd122 => rfl
  case hw122 => rfl
  case hy122 => (intro w hSw; (try dsimp only at hSw); go_simp; try with_reducible rfl)
  try simp only [Act.put, List.setIfInBounds_toArray, List.set_cons_zero, List.set_cons_succ]
  refine take_no (i := 5) (oi := ?o123) (d := (some 34)) ?hi123 (by kernel_rfl) (by kernel_rfl) (by kernel_rfl) (fun _ _ _ h => h) ?hd123 ?hw123 (by assumption) ?_
  case hi123 => (simp only [List.getElem?_toArray, List.getElem?_cons_zero, List.getElem?_cons_succ]; exact rfl)
  case hd123 => rfl
  case hw123 => rfl
  try simp only [Act.put, List.setIfInBounds_toArray, List.set_cons_zero, List.set_cons_succ]
  refine take_no (i := 6) (oi := ?o124) (d := (some 35)) ?hi124 (by kernel_rfl) (by kernel_rfl) (by kernel_rfl) (fun _ _ _ h => h) ?hd124 ?hw124 (by assumption) ?_
  case hi124 => (simp only [List.getElem?_toArray, List.getElem?_cons_zero, List.getElem?_cons_succ]; exact rfl)
  case hd124 => rfl
  case hw124 => rfl
  try simp only [Act.put, List.setIfInBounds_toArray, List.set_cons_zero, List.set_cons_succ]
  refine take_no (i := 7) (oi := ?o125) (d := (some 36)) ?hi125 (by kernel_rfl) (by kernel_rfl) (by kernel_rfl) (fun _ _ _ h => h) ?hd125 ?hw125 (by assumption) ?_
  case hi125 => (simp only [List.getElem?_toArray, List.getElem?_cons_zero, List.getElem?_cons_succ]; exact rfl)
  case hd125 => rfl
  case hw125 => rfl
  try simp only [Act.put, List.setIfInBounds_toArray, List.set_cons_zero, List.set_cons_succ]
  refine take_no (i := 8) (oi := ?o126) (d := (some 37)) ?hi126 (by kernel_rfl) (by kernel_rfl) (by kernel_rfl) (fun _ _ _ h => h) ?hd126 ?hw126 (by assumption) ?_
  case hi126 => (simp only [List.getElem?_toArray, List.getElem?_cons_zero, List.getElem?_cons_succ]; exact rfl)
  case hd126 => rfl
  case hw126 => rfl
  try simp only [Act.put, List.setIfInBounds_toArray, List.set_cons_zero, List.set_cons_succ]
  refine take_no (i := 9) (oi := ?o127) (d := (some 38)) ?hi127 (by kernel_rfl) (by kernel_rfl) (by kernel_rfl) (fun _ _ _ h => h) ?hd127 ?hw127 (by assumption) ?_
  case hi127 => (simp only [List.getElem?_toArray, List.getElem?_cons_zero, List.getElem?_cons_succ]; exact rfl)
  case hd127 => rfl
  case hw127 => rfl
  try simp only [Act.put, List.setIfInBounds_toArray, List.set_cons_zero, List.set_cons_succ]
  refine take_no (i := 10) (oi := ?o128) (d := (some 39)) ?hi128 (by kernel_rfl) (by kernel_rfl) (by kernel_rfl) (fun _ _ _ h => h) ?hd128 ?hw128 (by assumption) ?_
  case hi128 => (simp only [List.getElem?_toArray, List.getElem?_cons_zero, List.getElem?_cons_succ]; exact rfl)
  case hd128 => rfl
  case hw128 => rfl
  try simp only [Act.put, List.setIfInBounds_toArray, List.set_cons_zero, List.set_cons_succ]
  refine take_no (i := 11) (oi := ?o129) (d := (some 40)) ?hi129 (by kernel_rfl) (by kernel_rfl) (by kernel_rfl) (fun _ _ _ h => h) ?hd129 ?hw129 (by assumption) ?_
  case hi129 => (simp only [List.getElem?_toArray, List.getElem?_cons_zero, List.getElem?_cons_succ]; exact rfl)
  case hd129 => rfl
  case hw129 => rfl
  try simp only [Act.put, List.setIfInBounds_toArray, List.set_cons_zero, List.set_cons_succ]
  refine take_no (i := 12) (oi := ?o130) (d := (some 41)) ?hi130 (by kernel_rfl) (by kernel_rfl) (by kernel_rfl) (fun _ _ _ h => h) ?hd130 ?hw130 (by assumption) ?_
  case hi130 => (simp only [List.getElem?_toArray, List.getElem?_cons_zero, List.getElem?_cons_succ]; exact rfl)
  case hd130 => rfl
  case hw130 => rfl
  try simp only [Act.put, List.setIfInBounds_toArray, List.set_cons_zero, List.set_cons_succ]
  refine take_no (i := 13) (oi := ?o131) (d := (some 42)) ?hi131 (by kernel_rfl) (by kernel_rfl) (by kernel_rfl) (fun _ _ _ h => h) ?hd131 ?hw131 (by assumption) ?_
  case hi131 => (simp only [List.getElem?_toArray, List.getElem?_cons_zero, List.getElem?_cons_succ]; exact rfl)
  case hd131 => rfl
  case hw131 => rfl
  try simp only [Act.put, List.setIfInBounds_toArray, List.set_cons_zero, List.set_cons_succ]
  refine take_yes (i := 14) (oi := ?o132) (d := (some 43)) (v := ?v132) ?hi132 (by kernel_rfl) (by kernel_rfl) (by kernel_rfl) (fun _ _ _ h => h) ?hd132 ?hw132 ?hy132 (by assumption) ?_
  case hi132 => (simp only [List.getElem?_toArray, List.getElem?_cons_zero, List.getElem?_cons_succ]; exact rfl)
  case hd132 => rfl
  case hw132 => rfl
  case hy132 => (intro w hSw; (try dsimp only at hSw); go_simp; try with_reducible rfl)
  try simp only [Act.put, List.setIfInBounds_toArray, List.set_cons_zero, List.set_cons_succ]
  refine take_yes (i := 15) (oi := ?o133) (d := (some 44)) (v := ?v133) ?hi133 (by kernel_rfl) (by kernel_rfl) (by kernel_rfl) (fun _ _ _ h => h) ?hd133 ?hw133 ?hy133 (by assumption) ?_
  case hi133 => (simp only [List.getElem?_toArray, List.getElem?_cons_zero, List.getElem?_cons_succ]; exact rfl)
  case hd133 => rfl
  case hw133 => rfl
  case hy133 => (intro w hSw; (try dsimp only at hSw); go_simp; try with_reducible rfl)
  try simp only [Act.put, List.setIfInBounds_toArray, List.set_cons_zero, List.set_cons_succ]
  refine take_no (i := 16) (oi := ?o134) (d := (some 45)) ?hi134 (by kernel_rfl) (by kernel_rfl) (by kernel_rfl) (fun _ _ _ h => h) ?hd134 ?hw134 (by assumption) ?_
  case hi134 => (simp only [List.getElem?_toArray, List.getElem?_cons_zero, List.getElem?_cons_succ]; exact rfl)
  case hd134 => rfl
  case hw134 => rfl
  try simp only [Act.put, List.setIfInBounds_toArray, List.set_cons_zero, List.set_cons_succ]
  refine take_no (i := 17) (oi := ?o135) (d := (some 46)) ?hi135 (by kernel_rfl) (by kernel_rfl) (by kernel_rfl) (fun _ _ _ h => h) ?hd135 ?hw135 (by assumption) ?_
  case hi135 => (simp only [List.getElem?_toArray, List.getElem?_cons_zero, List.getElem?_cons_succ]; exact rfl)
  case hd135 => rfl
  case hw135 => rfl
  try simp only [Act.put, List.setIfInBounds_toArray, List.set_cons_zero, List.set_cons_succ]
  refine take_no (i := 18) (oi := ?o136) (d := (some 47)) ?hi136 (by kernel_rfl) (by kernel_rfl) (by kernel_rfl) (fun _ _ _ h => h) ?hd136 ?hw136 (by assumption) ?_
  case hi136 => (simp only [List.getElem?_toArray, List.getElem?_cons_zero, List.getElem?_cons_succ]; exact rfl)
  case hd136 => rfl
  case hw136 => rfl
  try simp only [Act.put, List.setIfInBounds_toArray, List.set_cons_zero, List.set_cons_succ]
  refine take_no (i := 19) (oi := ?o137) (d := (some 48)) ?hi137 (by kernel_rfl) (by kernel_rfl) (by kernel_rfl) (fun _ _ _ h => h) ?hd137 ?hw137 (by assumption) ?_
  case hi137 => (simp only [List.getElem?_toArray, List.getElem?_cons_zero, List.getElem?_cons_succ]; exact rfl)
  case hd137 => rfl
  case hw137 => rfl
  try simp only [Act.put, List.setIfInBounds_toArray, List.set_cons_zero, List.set_cons_succ]
  refine take_no (i := 20) (oi := ?o138) (d := (some 49)) ?hi138 (by kernel_rfl) (by kernel_rfl) (by kernel_rfl) (fun _ _ _ h => h) ?hd138 ?hw138 (by assumption) ?_
  case hi138 => (simp only [List.getElem?_toArray, List.getElem?_cons_zero, List.getElem?_cons_succ]; exact rfl)
  case hd138 => rfl
  case hw138 => rfl
  try simp only [Act.put, List.setIfInBounds_toArray, List.set_cons_zero, List.set_cons_succ]
  refine take_no (i := 21) (oi := ?o139) (d := (some 50)) ?hi139 (by kernel_rfl) (by kernel_rfl) (by kernel_rfl) (fun _ _ _ h => h) ?hd139 ?hw139 (by assumption) ?_
  case hi139 => (simp only [List.getElem?_toArray, List.getElem?_cons_zero, List.getElem?_cons_succ]; exact rfl)
  case hd139 => rfl
  case hw139 => rfl
  try simp only [Act.put, List.setIfInBounds_toArray, List.set_cons_zero, List.set_cons_succ]
  refine take_no (i := 22) (oi := ?o140) (d := (some 51)) ?hi140 (by kernel_rfl) (by kernel_rfl) (by kernel_rfl) (fun _ _ _ h => h) ?hd140 ?hw140 (by assumption) ?_
  case hi140 => (simp only [List.getElem?_toArray, List.getElem?_cons_zero, List.getElem?_cons_succ]; exact rfl)
  case hd140 => rfl
  case hw140 => rfl
  try simp only [Act.put, List.setIfInBounds_toArray, List.set_cons_zero, List.set_cons_succ]
  refine take_yes (i := 23) (oi := ?o141) (d := (some 52)) (v := ?v141) ?hi141 (by kernel_rfl) (by kernel_rfl) (by kernel_rfl) (fun _ _ _ h => h) ?hd141 ?hw141 ?hy141 (by assumption) ?_
  case hi141 => (simp only [List.getElem?_toArray, List.getElem?_cons_zero, List.getElem?_cons_succ]; exact rfl)
  case hd141 => rfl
  case hw141 => rfl
  case hy141 => (intro w hSw; (try dsimp only at hSw); go_simp; try with_reducible rfl)
  try simp only [Act.put, List.setIfInBounds_toArray, List.set_cons_zero, List.set_cons_succ]
  refine take_yes (i := 24) (oi := ?o142) (d := (some 6)) (v := ?v142) ?hi142 (by kernel_rfl) (by kernel_rfl) (by kernel_rfl) (fun _ _ _ h => h) ?hd142 ?hw142 ?hy142 (by assumption) ?_
  case hi142 => (simp only [List.getElem?_toArray, List.getElem?_cons_zero, List.getElem?_cons_succ]; exact rfl)
  case hd142 => rfl
  case hw142 => rfl
  case hy142 => (intro w hSw; (try dsimp only at hSw); go_simp; try with_reducible rfl)
  try simp only [Act.put, List.setIfInBounds_toArray, List.set_cons_zero, List.set_cons_succ]
  refine take_yes (i := 25) (oi := ?o143) (d := (some 7)) (v := ?v143) ?hi143 (by kernel_rfl) (by kernel_rfl) (by kernel_rfl) (fun _ _ _ h => h) ?hd143 ?hw143 ?hy143 (by assumption) ?_
  case hi143 => (simp only [List.getElem?_toArray, List.getElem?_cons_zero, List.getElem?_cons_succ]; exact rfl)
  case hd143 => rfl
  case hw143 => rfl
  case hy143 => (intro w hSw; (try dsimp only at hSw); go_simp; try with_reducible rfl)
  try simp only [Act.put, List.setIfInBounds_toArray, List.set_cons_zero, List.set_cons_succ]
  refine wpAnyH_done (by kernel_rfl) ?_ _
  go_wp2_with fail
  go_ret2
  exact ⟨rfl, Own.below (by assumption)⟩

set_option maxRecDepth 100000 in
set_option maxHeartbeats 1000000 in
theorem rBeside_row (r wd : Int) (zs : List Int) (A : Option Addr) (c : Nat) (a b : Int) (w : World) (hI : Ints w A zs) (hlen : zs.length ≤ 20000000000000) (hok : okC r wd zs = true) (ha0 : 0 ≤ a) (ha1 : a < r * wd) (hb0 : 0 ≤ b) (hb1 : b < r * wd) (hu : b = a + 1) (hr : ¬ a / wd = (a + 1) / wd) :
    Calls Tryd.prog 23 #[.agg #[.int .i64 r, .int .i64 wd, .slice A zs.length c], .int .i64 a, .int .i64 b] w fun e w' => e = .returned (.tuple #[.bool false, .int .i64 0]) ∧ Below w.heap.size w w' := by
  subst hu
  have HI := Lib.hid (hI.keep (ext_alloc (Below.refl _ w) (.cells #[.int .i64 r, .int .i64 wd, .slice A zs.length c] 24)))
  have HI0 := Lib.hid hI
  have HOK := Lib.hid hok
  obtain ⟨⟨o1, o2, o3, o4⟩, _⟩ := okC_yes hok
  have q2 : r * wd ≤ 64 * 16 := Int.mul_le_mul (by omega) (by omega) (by omega) (by omega)
  clear hI hok
  have v1 : IntKind.i64.wrap (a + 1) = a + 1 := IntWalk.i64_in _ (by omega)
  have w0 : ¬ wd = 0 := by omega
  have p1 : 0 ≤ a / wd := Int.ediv_nonneg ha0 (by omega)
  have p2 : a / wd ≤ a := Int.ediv_le_self _ ha0
  have p3 : 0 ≤ (a + 1) / wd := Int.ediv_nonneg (by omega) (by omega)
  have p4 : (a + 1) / wd ≤ a + 1 := Int.ediv_le_self _ (by omega)
  have v2 : IntKind.i64.wrap (a.tdiv wd) = a / wd := by rw [Int.tdiv_eq_ediv_of_nonneg ha0]; exact IntWalk.i64_in _ (by omega)
  have v3 : IntKind.i64.wrap ((a + 1).tdiv wd) = (a + 1) / wd := by rw [Int.tdiv_eq_ediv_of_nonneg (by omega)]; exact IntWalk.i64_in _ (by omega)
  have v4 : (a + 1).tmod wd = (a + 1) % wd := Int.tmod_eq_emod_of_nonneg (by omega)
  have p5 := Int.emod_nonneg (a + 1) (show wd ≠ 0 by omega)
  have p6 := Int.emod_lt_of_pos (a + 1) (show 0 < wd by omega)
  have v5 : IntKind.i64.wrap ((a + 1) % wd) = (a + 1) % wd := IntWalk.i64_in _ (by omega)
  have g00 : (a / wd == (a + 1) / wd) = false := beq_eq_false_iff_ne.2 hr
  go_enter Tryd.func23, Tryd.ntmps23
  go_wp2_with fail
  refine (rWrong_yes r wd zs A c a _ HI.out hlen HOK.out ha0 ha1).mono ?_
  rintro e w1 ⟨rfl, hb⟩
  have hS := Own.of hb
  have x0 : w1.cell? ⟨w.heap.size, 0, none⟩ = some (.int .i64 r) := hS.1
  have x1 : w1.cell? ⟨w.heap.size, 1, none⟩ = some (.int .i64 wd) := hS.2.1
  have x2 : w1.cell? ⟨w.heap.size, 2, none⟩ = some (.slice A zs.length c) := hS.2.2.1
  clear hb
  go_wp2_with fail
  refine (rWrong_yes r wd zs A c (a + 1) _ (HI0.out.keep hS.2.2.2.1) hlen HOK.out hb0 hb1).mono ?_
  rintro e w2 ⟨rfl, hb⟩
  have hS2 := hS.keep hb
  clear hb hS x0 x1 x2
  have hS := hS2
  have x0 : w2.cell? ⟨w.heap.size, 0, none⟩ = some (.int .i64 r) := hS.1
  have x1 : w2.cell? ⟨w.heap.size, 1, none⟩ = some (.int .i64 wd) := hS.2.1
  have x2 : w2.cell? ⟨w.heap.size, 2, none⟩ = some (.slice A zs.length c) := hS.2.2.1
  go_wp2_with fail
  refine wp_region_held_drew (S := (fun w' => w'.cell? ⟨w.heap.size, 0, none⟩ = some (.int .i64 r) ∧ w'.cell? ⟨w.heap.size, 1, none⟩ = some (.int .i64 wd) ∧ w'.cell? ⟨w.heap.size, 2, none⟩ = some (.slice A zs.length c) ∧ Below w.heap.size w w' ∧ w.heap.size < w'.heap.size)) (by kernel_rfl) (by exact Own.keep hS (ext_drew (Below.refl _ _))) (fun hHeld => ?_)
  refine take_yes (i := 0) (oi := ?o144) (d := (some 29)) (v := ?v144) ?hi144 (by kernel_rfl) (by kernel_rfl) (by kernel_rfl) (fun _ _ _ h => h) ?hd144 ?hw144 ?hy144 (by assumption) ?_
  case hi144 => (simp only [List.getElem?_toArray, List.getElem?_cons_zero]; exact rfl)
  case hd144 => rfl
  case hw144 => rfl
  case hy144 => (intro w hSw; (try dsimp only at hSw); go_simp; try with_reducible rfl)
  try simp only [Act.put, List.setIfInBounds_toArray, List.set_cons_zero, List.set_cons_succ]
  refine take_yes (i := 1) (oi := ?o145) (d := (some 30)) (v := ?v145) ?hi145 (by kernel_rfl) (by kernel_rfl) (by kernel_rfl) (fun _ _ _ h => h) ?hd145 ?hw145 ?hy145 (by assumption) ?_
  case hi145 => (simp only [List.getElem?_toArray, List.getElem?_cons_zero, List.getElem?_cons_succ]; exact rfl)
  case hd145 => rfl
  case hw145 => rfl
  case hy145 => (intro w hSw; (try dsimp only at hSw); go_simp; try with_reducible rfl)
  try simp only [Act.put, List.setIfInBounds_toArray, List.set_cons_zero, List.set_cons_succ]
  refine take_yes (i := 2) (oi := ?o146) (d := (some 31)) (v := ?v146) ?hi146 (by kernel_rfl) (by kernel_rfl) (by kernel_rfl) (fun _ _ _ h => h) ?hd146 ?hw146 ?hy146 (by assumption) ?_
  case hi146 => (simp only [List.getElem?_toArray, List.getElem?_cons_zero, List.getElem?_cons_succ]; exact rfl)
  case hd146 => rfl
  case hw146 => rfl
  case hy146 => (intro w hSw; (try dsimp only at hSw); go_simp; try with_reducible rfl)
  try simp only [Act.put, List.setIfInBounds_toArray, List.set_cons_zero, List.set_cons_succ]
  refine take_yes (i := 3) (oi := ?o147) (d := (some 32)) (v := ?v147) ?hi147 (by kernel_rfl) (by kernel_rfl) (by kernel_rfl) (fun _ _ _ h => h) ?hd147 ?hw147 ?hy147 (by assumption) ?_
  case hi147 => (simp only [List.getElem?_toArray, List.getElem?_cons_zero, List.getElem?_cons_succ]; exact rfl)
  case hd147 => rfl
  case hw147 => rfl
  case hy147 => (intro w hSw; (try dsimp only at hSw); go_simp; try with_reducible rfl)
  try simp only [Act.put, List.setIfInBounds_toArray, List.set_cons_zero, List.set_cons_succ]
  refine take_yes (i := 4) (oi := ?o148) (d := (some 33)) (v := ?v148) ?hi148 (by kernel_rfl) (by kernel_rfl) (by kernel_rfl) (fun _ _ _ h => h) ?hd148 ?hw148 ?hy148 (by assumption) ?_
  case hi148 => (simp only [List.getElem?_toArray, List.getElem?_cons_zero, List.getElem?_cons_succ]; exact rfl)
  case hd148 => rfl
  case hw148 => rfl
  case hy148 => (intro w hSw; (try dsimp only at hSw); go_simp; try with_reducible rfl)
  try simp only [Act.put, List.setIfInBounds_toArray, List.set_cons_zero, List.set_cons_succ]
  refine take_yes (i := 5) (oi := ?o149) (d := (some 34)) (v := ?v149) ?hi149 (by kernel_rfl) (by kernel_rfl) (by kernel_rfl) (fun _ _ _ h => h) ?hd149 ?hw149 ?hy149 (by assumption) ?_
  case hi149 => (simp only [List.getElem?_toArray, List.getElem?_cons_zero, List.getElem?_cons_succ]; exact rfl)
  case hd149 => rfl
  case hw149 => rfl
  case hy149 => (intro w hSw; (try dsimp only at hSw); go_simp; try with_reducible rfl)
  try simp only [Act.put, List.setIfInBounds_toArray, List.set_cons_zero, List.set_cons_succ]
  refine take_yes (i := 6) (oi := ?o150) (d := (some 35)) (v := ?v150) ?hi150 (by kernel_rfl) (by kernel_rfl) (by kernel_rfl) (fun _ _ _ h => h) ?hd150 ?hw150 ?hy150 (by assumption) ?_
  case hi150 => (simp only [List.getElem?_toArray, List.getElem?_cons_zero, List.getElem?_cons_succ]; exact rfl)
  case hd150 => rfl
  case hw150 => rfl
  case hy150 => (intro w hSw; (try dsimp only at hSw); go_simp; try with_reducible rfl)
  try simp only [Act.put, List.setIfInBounds_toArray, List.set_cons_zero, List.set_cons_succ]
  refine take_yes (i := 7) (oi := ?o151) (d := (some 36)) (v := ?v151) ?hi151 (by kernel_rfl) (by kernel_rfl) (by kernel_rfl) (fun _ _ _ h => h) ?hd151 ?hw151 ?hy151 (by assumption) ?_
  case hi151 => (simp only [List.getElem?_toArray, List.getElem?_cons_zero, List.getElem?_cons_succ]; exact rfl)
  case hd151 => rfl
  case hw151 => rfl
  case hy151 => (intro w hSw; (try dsimp only at hSw); go_simp; try with_reducible rfl)
  try simp only [Act.put, List.setIfInBounds_toArray, List.set_cons_zero, List.set_cons_succ]
  refine take_yes (i := 8) (oi := ?o152) (d := (some 37)) (v := ?v152) ?hi152 (by kernel_rfl) (by kernel_rfl) (by kernel_rfl) (fun _ _ _ h => h) ?hd152 ?hw152 ?hy152 (by assumption) ?_
  case hi152 => (simp only [List.getElem?_toArray, List.getElem?_cons_zero, List.getElem?_cons_succ]; exact rfl)
  case hd152 => rfl
  case hw152 => rfl
  case hy152 => (intro w hSw; (try dsimp only at hSw); go_simp; try with_reducible rfl)
  try simp only [Act.put, List.setIfInBounds_toArray, List.set_cons_zero, List.set_cons_succ]
  refine take_yes (i := 9) (oi := ?o153) (d := (some 38)) (v := ?v153) ?hi153 (by kernel_rfl) (by kernel_rfl) (by kernel_rfl) (fun _ _ _ h => h) ?hd153 ?hw153 ?hy153 (by assumption) ?_
  case hi153 => (simp only [List.getElem?_toArray, List.getElem?_cons_zero, List.getElem?_cons_succ]; exact rfl)
  case hd153 => rfl
  case hw153 => rfl
  case hy153 => (intro w hSw; (try dsimp only at hSw); go_simp; try with_reducible rfl)
  try simp only [Act.put, List.setIfInBounds_toArray, List.set_cons_zero, List.set_cons_succ]
  refine take_yes (i := 10) (oi := ?o154) (d := (some 39)) (v := ?v154) ?hi154 (by kernel_rfl) (by kernel_rfl) (by kernel_rfl) (fun _ _ _ h => h) ?hd154 ?hw154 ?hy154 (by assumption) ?_
  case hi154 => (simp only [List.getElem?_toArray, List.getElem?_cons_zero, List.getElem?_cons_succ]; exact rfl)
  case hd154 => rfl
  case hw154 => rfl
  case hy154 => (intro w hSw; (try dsimp only at hSw); go_simp; try with_reducible rfl)
  try simp only [Act.put, List.setIfInBounds_toArray, List.set_cons_zero, List.set_cons_succ]
  refine take_yes (i := 11) (oi := ?o155) (d := (some 40)) (v := ?v155) ?hi155 (by kernel_rfl) (by kernel_rfl) (by kernel_rfl) (fun _ _ _ h => h) ?hd155 ?hw155 ?hy155 (by assumption) ?_
  case hi155 => (simp only [List.getElem?_toArray, List.getElem?_cons_zero, List.getElem?_cons_succ]; exact rfl)
  case hd155 => rfl
  case hw155 => rfl
  case hy155 => (intro w hSw; (try dsimp only at hSw); go_simp; try with_reducible rfl)
  try simp only [Act.put, List.setIfInBounds_toArray, List.set_cons_zero, List.set_cons_succ]
  refine take_yes (i := 12) (oi := ?o156) (d := (some 41)) (v := ?v156) ?hi156 (by kernel_rfl) (by kernel_rfl) (by kernel_rfl) (fun _ _ _ h => h) ?hd156 ?hw156 ?hy156 (by assumption) ?_
  case hi156 => (simp only [List.getElem?_toArray, List.getElem?_cons_zero, List.getElem?_cons_succ]; exact rfl)
  case hd156 => rfl
  case hw156 => rfl
  case hy156 => (intro w hSw; (try dsimp only at hSw); go_simp; try with_reducible rfl)
  try simp only [Act.put, List.setIfInBounds_toArray, List.set_cons_zero, List.set_cons_succ]
  refine take_yes (i := 13) (oi := ?o157) (d := (some 42)) (v := ?v157) ?hi157 (by kernel_rfl) (by kernel_rfl) (by kernel_rfl) (fun _ _ _ h => h) ?hd157 ?hw157 ?hy157 (by assumption) ?_
  case hi157 => (simp only [List.getElem?_toArray, List.getElem?_cons_zero, List.getElem?_cons_succ]; exact rfl)
  case hd157 => rfl
  case hw157 => rfl
  case hy157 => (intro w hSw; (try dsimp only at hSw); go_simp; try with_reducible rfl)
  try simp only [Act.put, List.setIfInBounds_toArray, List.set_cons_zero, List.set_cons_succ]
  refine take_yes (i := 14) (oi := ?o158) (d := (some 43)) (v := ?v158) ?hi158 (by kernel_rfl) (by kernel_rfl) (by kernel_rfl) (fun _ _ _ h => h) ?hd158 ?hw158 ?hy158 (by assumption) ?_
  case hi158 => (simp only [List.getElem?_toArray, List.getElem?_cons_zero, List.getElem?_cons_succ]; exact rfl)
  case hd158 => rfl
  case hw158 => rfl
  case hy158 => (intro w hSw; (try dsimp only at hSw); go_simp; try with_reducible rfl)
  try simp only [Act.put, List.setIfInBounds_toArray, List.set_cons_zero, List.set_cons_succ]
  refine take_yes (i := 15) (oi := ?o159) (d := (some 44)) (v := ?v159) ?hi159 (by kernel_rfl) (by kernel_rfl) (by kernel_rfl) (fun _ _ _ h => h) ?hd159 ?hw159 ?hy159 (by assumption) ?_
  case hi159 => (simp only [List.getElem?_toArray, List.getElem?_cons_zero, List.getElem?_cons_succ]; exact rfl)
  case hd159 => rfl
  case hw159 => rfl
  case hy159 => (intro w hSw; (try dsimp only at hSw); go_simp; try with_reducible rfl)
  try simp only [Act.put, List.setIfInBounds_toArray, List.set_cons_zero, List.set_cons_succ]
  refine take_no (i := 16) (oi := ?o160) (d := (some 45)) ?hi160 (by kernel_rfl) (by kernel_rfl) (by kernel_rfl) (fun _ _ _ h => h) ?hd160 ?hw160 (by assumption) ?_
  case hi160 => (simp only [List.getElem?_toArray, List.getElem?_cons_zero, List.getElem?_cons_succ]; exact rfl)
  case hd160 => rfl
  case hw160 => rfl
  try simp only [Act.put, List.setIfInBounds_toArray, List.set_cons_zero, List.set_cons_succ]
  refine take_no (i := 17) (oi := ?o161) (d := (some 46)) ?hi161 (by kernel_rfl) (by kernel_rfl) (by kernel_rfl) (fun _ _ _ h => h) ?hd161 ?hw161 (by assumption) ?_
  case hi161 => (simp only [List.getElem?_toArray, List.getElem?_cons_zero, List.getElem?_cons_succ]; exact rfl)
  case hd161 => rfl
  case hw161 => rfl
  try simp only [Act.put, List.setIfInBounds_toArray, List.set_cons_zero, List.set_cons_succ]
  refine take_no (i := 18) (oi := ?o162) (d := (some 47)) ?hi162 (by kernel_rfl) (by kernel_rfl) (by kernel_rfl) (fun _ _ _ h => h) ?hd162 ?hw162 (by assumption) ?_
  case hi162 => (simp only [List.getElem?_toArray, List.getElem?_cons_zero, List.getElem?_cons_succ]; exact rfl)
  case hd162 => rfl
  case hw162 => rfl
  try simp only [Act.put, List.setIfInBounds_toArray, List.set_cons_zero, List.set_cons_succ]
  refine take_no (i := 19) (oi := ?o163) (d := (some 48)) ?hi163 (by kernel_rfl) (by kernel_rfl) (by kernel_rfl) (fun _ _ _ h => h) ?hd163 ?hw163 (by assumption) ?_
  case hi163 => (simp only [List.getElem?_toArray, List.getElem?_cons_zero, List.getElem?_cons_succ]; exact rfl)
  case hd163 => rfl
  case hw163 => rfl
  try simp only [Act.put, List.setIfInBounds_toArray, List.set_cons_zero, List.set_cons_succ]
  refine take_no (i := 20) (oi := ?o164) (d := (some 49)) ?hi164 (by kernel_rfl) (by kernel_rfl) (by kernel_rfl) (fun _ _ _ h => h) ?hd164 ?hw164 (by assumption) ?_
  case hi164 => (simp only [List.getElem?_toArray, List.getElem?_cons_zero, List.getElem?_cons_succ]; exact rfl)
  case hd164 => rfl
  case hw164 => rfl
  try simp only [Act.put, List.setIfInBounds_toArray, List.set_cons_zero, List.set_cons_succ]
  refine take_no (i := 21) (oi := ?o165) (d := (some 50)) ?hi165 (by kernel_rfl) (by kernel_rfl) (by kernel_rfl) (fun _ _ _ h => h) ?hd165 ?hw165 (by assumption) ?_
  case hi165 => (simp only [List.getElem?_toArray, List.getElem?_cons_zero, List.getElem?_cons_succ]; exact rfl)
  case hd165 => rfl
  case hw165 => rfl
  try simp only [Act.put, List.setIfInBounds_toArray, List.set_cons_zero, List.set_cons_succ]
  refine take_no (i := 22) (oi := ?o166) (d := (some 51)) ?hi166 (by kernel_rfl) (by kernel_rfl) (by kernel_rfl) (fun _ _ _ h => h) ?hd166 ?hw166 (by assumption) ?_
  case hi166 => (simp only [List.getElem?_toArray, List.getElem?_cons_zero, List.getElem?_cons_succ]; exact rfl)
  case hd166 => rfl
  case hw166 => rfl
  try simp only [Act.put, List.setIfInBounds_toArray, List.set_cons_zero, List.set_cons_succ]
  refine take_yes (i := 23) (oi := ?o167) (d := (some 52)) (v := ?v167) ?hi167 (by kernel_rfl) (by kernel_rfl) (by kernel_rfl) (fun _ _ _ h => h) ?hd167 ?hw167 ?hy167 (by assumption) ?_
  case hi167 => (simp only [List.getElem?_toArray, List.getElem?_cons_zero, List.getElem?_cons_succ]; exact rfl)
  case hd167 => rfl
  case hw167 => rfl
  case hy167 => (intro w hSw; (try dsimp only at hSw); go_simp; try with_reducible rfl)
  try simp only [Act.put, List.setIfInBounds_toArray, List.set_cons_zero, List.set_cons_succ]
  refine take_yes (i := 24) (oi := ?o168) (d := (some 6)) (v := ?v168) ?hi168 (by kernel_rfl) (by kernel_rfl) (by kernel_rfl) (fun _ _ _ h => h) ?hd168 ?hw168 ?hy168 (by assumption) ?_
  case hi168 => (simp only [List.getElem?_toArray, List.getElem?_cons_zero, List.getElem?_cons_succ]; exact rfl)
  case hd168 => rfl
  case hw168 => rfl
  case hy168 => (intro w hSw; (try dsimp only at hSw); go_simp; try with_reducible rfl)
  try simp only [Act.put, List.setIfInBounds_toArray, List.set_cons_zero, List.set_cons_succ]
  refine take_yes (i := 25) (oi := ?o169) (d := (some 7)) (v := ?v169) ?hi169 (by kernel_rfl) (by kernel_rfl) (by kernel_rfl) (fun _ _ _ h => h) ?hd169 ?hw169 ?hy169 (by assumption) ?_
  case hi169 => (simp only [List.getElem?_toArray, List.getElem?_cons_zero, List.getElem?_cons_succ]; exact rfl)
  case hd169 => rfl
  case hw169 => rfl
  case hy169 => (intro w hSw; (try dsimp only at hSw); go_simp; try with_reducible rfl)
  try simp only [Act.put, List.setIfInBounds_toArray, List.set_cons_zero, List.set_cons_succ]
  refine wpAnyH_done (by kernel_rfl) ?_ _
  go_wp2_with fail
  go_ret2
  exact ⟨rfl, Own.below (by assumption)⟩

set_option maxRecDepth 100000 in
set_option maxHeartbeats 1000000 in
theorem rBeside_next (r wd : Int) (zs : List Int) (A : Option Addr) (c : Nat) (a b : Int) (y : Bool) (w : World) (hI : Ints w A zs) (hlen : zs.length ≤ 20000000000000) (hok : okC r wd zs = true) (ha0 : 0 ≤ a) (ha1 : a < r * wd) (hb0 : 0 ≤ b) (hb1 : b < r * wd) (hu : b = a + 1) (hr : a / wd = (a + 1) / wd) (hy : lieAt zs ((a + 1) % wd) = y) :
    Calls Tryd.prog 23 #[.agg #[.int .i64 r, .int .i64 wd, .slice A zs.length c], .int .i64 a, .int .i64 b] w fun e w' => e = .returned (.tuple #[.bool (!y), .int .i64 0]) ∧ Below w.heap.size w w' := by
  subst hu
  have HI := Lib.hid (hI.keep (ext_alloc (Below.refl _ w) (.cells #[.int .i64 r, .int .i64 wd, .slice A zs.length c] 24)))
  have HI0 := Lib.hid hI
  have HOK := Lib.hid hok
  obtain ⟨⟨o1, o2, o3, o4⟩, _⟩ := okC_yes hok
  have q2 : r * wd ≤ 64 * 16 := Int.mul_le_mul (by omega) (by omega) (by omega) (by omega)
  clear hI hok
  have v1 : IntKind.i64.wrap (a + 1) = a + 1 := IntWalk.i64_in _ (by omega)
  have w0 : ¬ wd = 0 := by omega
  have p1 : 0 ≤ a / wd := Int.ediv_nonneg ha0 (by omega)
  have p2 : a / wd ≤ a := Int.ediv_le_self _ ha0
  have p3 : 0 ≤ (a + 1) / wd := Int.ediv_nonneg (by omega) (by omega)
  have p4 : (a + 1) / wd ≤ a + 1 := Int.ediv_le_self _ (by omega)
  have v2 : IntKind.i64.wrap (a.tdiv wd) = a / wd := by rw [Int.tdiv_eq_ediv_of_nonneg ha0]; exact IntWalk.i64_in _ (by omega)
  have v3 : IntKind.i64.wrap ((a + 1).tdiv wd) = (a + 1) / wd := by rw [Int.tdiv_eq_ediv_of_nonneg (by omega)]; exact IntWalk.i64_in _ (by omega)
  have v4 : (a + 1).tmod wd = (a + 1) % wd := Int.tmod_eq_emod_of_nonneg (by omega)
  have p5 := Int.emod_nonneg (a + 1) (show wd ≠ 0 by omega)
  have p6 := Int.emod_lt_of_pos (a + 1) (show 0 < wd by omega)
  have v5 : IntKind.i64.wrap ((a + 1) % wd) = (a + 1) % wd := IntWalk.i64_in _ (by omega)
  have g00 : (a / wd == (a + 1) / wd) = true := beq_iff_eq.2 hr
  have HR := Lib.hid hr
  clear hr
  have HY := Lib.hid hy
  clear hy
  go_enter Tryd.func23, Tryd.ntmps23
  go_wp2_with fail
  refine (rWrong_yes r wd zs A c a _ HI.out hlen HOK.out ha0 ha1).mono ?_
  rintro e w1 ⟨rfl, hb⟩
  have hS := Own.of hb
  have x0 : w1.cell? ⟨w.heap.size, 0, none⟩ = some (.int .i64 r) := hS.1
  have x1 : w1.cell? ⟨w.heap.size, 1, none⟩ = some (.int .i64 wd) := hS.2.1
  have x2 : w1.cell? ⟨w.heap.size, 2, none⟩ = some (.slice A zs.length c) := hS.2.2.1
  clear hb
  go_wp2_with fail
  refine (rWrong_yes r wd zs A c (a + 1) _ (HI0.out.keep hS.2.2.2.1) hlen HOK.out hb0 hb1).mono ?_
  rintro e w2 ⟨rfl, hb⟩
  have hS2 := hS.keep hb
  clear hb hS x0 x1 x2
  have hS := hS2
  have x0 : w2.cell? ⟨w.heap.size, 0, none⟩ = some (.int .i64 r) := hS.1
  have x1 : w2.cell? ⟨w.heap.size, 1, none⟩ = some (.int .i64 wd) := hS.2.1
  have x2 : w2.cell? ⟨w.heap.size, 2, none⟩ = some (.slice A zs.length c) := hS.2.2.1
  go_wp2_with fail
  refine wp_region_held_drew (S := (fun w' => w'.cell? ⟨w.heap.size, 0, none⟩ = some (.int .i64 r) ∧ w'.cell? ⟨w.heap.size, 1, none⟩ = some (.int .i64 wd) ∧ w'.cell? ⟨w.heap.size, 2, none⟩ = some (.slice A zs.length c) ∧ Below w.heap.size w w' ∧ w.heap.size < w'.heap.size)) (by kernel_rfl) (by exact Own.keep hS (ext_drew (Below.refl _ _))) (fun hHeld => ?_)
  refine take_yes (i := 0) (oi := ?o170) (d := (some 29)) (v := ?v170) ?hi170 (by kernel_rfl) (by kernel_rfl) (by kernel_rfl) (fun _ _ _ h => h) ?hd170 ?hw170 ?hy170 (by assumption) ?_
  case hi170 => (simp only [List.getElem?_toArray, List.getElem?_cons_zero]; exact rfl)
  case hd170 => rfl
  case hw170 => rfl
  case hy170 => (intro w hSw; (try dsimp only at hSw); go_simp; try with_reducible rfl)
  try simp only [Act.put, List.setIfInBounds_toArray, List.set_cons_zero, List.set_cons_succ]
  refine take_yes (i := 1) (oi := ?o171) (d := (some 30)) (v := ?v171) ?hi171 (by kernel_rfl) (by kernel_rfl) (by kernel_rfl) (fun _ _ _ h => h) ?hd171 ?hw171 ?hy171 (by assumption) ?_
  case hi171 => (simp only [List.getElem?_toArray, List.getElem?_cons_zero, List.getElem?_cons_succ]; exact rfl)
  case hd171 => rfl
  case hw171 => rfl
  case hy171 => (intro w hSw; (try dsimp only at hSw); go_simp; try with_reducible rfl)
  try simp only [Act.put, List.setIfInBounds_toArray, List.set_cons_zero, List.set_cons_succ]
  refine take_yes (i := 2) (oi := ?o172) (d := (some 31)) (v := ?v172) ?hi172 (by kernel_rfl) (by kernel_rfl) (by kernel_rfl) (fun _ _ _ h => h) ?hd172 ?hw172 ?hy172 (by assumption) ?_
  case hi172 => (simp only [List.getElem?_toArray, List.getElem?_cons_zero, List.getElem?_cons_succ]; exact rfl)
  case hd172 => rfl
  case hw172 => rfl
  case hy172 => (intro w hSw; (try dsimp only at hSw); go_simp; try with_reducible rfl)
  try simp only [Act.put, List.setIfInBounds_toArray, List.set_cons_zero, List.set_cons_succ]
  refine take_yes (i := 3) (oi := ?o173) (d := (some 32)) (v := ?v173) ?hi173 (by kernel_rfl) (by kernel_rfl) (by kernel_rfl) (fun _ _ _ h => h) ?hd173 ?hw173 ?hy173 (by assumption) ?_
  case hi173 => (simp only [List.getElem?_toArray, List.getElem?_cons_zero, List.getElem?_cons_succ]; exact rfl)
  case hd173 => rfl
  case hw173 => rfl
  case hy173 => (intro w hSw; (try dsimp only at hSw); go_simp; try with_reducible rfl)
  try simp only [Act.put, List.setIfInBounds_toArray, List.set_cons_zero, List.set_cons_succ]
  refine take_yes (i := 4) (oi := ?o174) (d := (some 33)) (v := ?v174) ?hi174 (by kernel_rfl) (by kernel_rfl) (by kernel_rfl) (fun _ _ _ h => h) ?hd174 ?hw174 ?hy174 (by assumption) ?_
  case hi174 => (simp only [List.getElem?_toArray, List.getElem?_cons_zero, List.getElem?_cons_succ]; exact rfl)
  case hd174 => rfl
  case hw174 => rfl
  case hy174 => (intro w hSw; (try dsimp only at hSw); go_simp; try with_reducible rfl)
  try simp only [Act.put, List.setIfInBounds_toArray, List.set_cons_zero, List.set_cons_succ]
  refine take_yes (i := 5) (oi := ?o175) (d := (some 34)) (v := ?v175) ?hi175 (by kernel_rfl) (by kernel_rfl) (by kernel_rfl) (fun _ _ _ h => h) ?hd175 ?hw175 ?hy175 (by assumption) ?_
  case hi175 => (simp only [List.getElem?_toArray, List.getElem?_cons_zero, List.getElem?_cons_succ]; exact rfl)
  case hd175 => rfl
  case hw175 => rfl
  case hy175 => (intro w hSw; (try dsimp only at hSw); go_simp; try with_reducible rfl)
  try simp only [Act.put, List.setIfInBounds_toArray, List.set_cons_zero, List.set_cons_succ]
  refine take_yes (i := 6) (oi := ?o176) (d := (some 35)) (v := ?v176) ?hi176 (by kernel_rfl) (by kernel_rfl) (by kernel_rfl) (fun _ _ _ h => h) ?hd176 ?hw176 ?hy176 (by assumption) ?_
  case hi176 => (simp only [List.getElem?_toArray, List.getElem?_cons_zero, List.getElem?_cons_succ]; exact rfl)
  case hd176 => rfl
  case hw176 => rfl
  case hy176 => (intro w hSw; (try dsimp only at hSw); go_simp; try with_reducible rfl)
  try simp only [Act.put, List.setIfInBounds_toArray, List.set_cons_zero, List.set_cons_succ]
  refine take_yes (i := 7) (oi := ?o177) (d := (some 36)) (v := ?v177) ?hi177 (by kernel_rfl) (by kernel_rfl) (by kernel_rfl) (fun _ _ _ h => h) ?hd177 ?hw177 ?hy177 (by assumption) ?_
  case hi177 => (simp only [List.getElem?_toArray, List.getElem?_cons_zero, List.getElem?_cons_succ]; exact rfl)
  case hd177 => rfl
  case hw177 => rfl
  case hy177 => (intro w hSw; (try dsimp only at hSw); go_simp; try with_reducible rfl)
  try simp only [Act.put, List.setIfInBounds_toArray, List.set_cons_zero, List.set_cons_succ]
  refine take_yes (i := 8) (oi := ?o178) (d := (some 37)) (v := ?v178) ?hi178 (by kernel_rfl) (by kernel_rfl) (by kernel_rfl) (fun _ _ _ h => h) ?hd178 ?hw178 ?hy178 (by assumption) ?_
  case hi178 => (simp only [List.getElem?_toArray, List.getElem?_cons_zero, List.getElem?_cons_succ]; exact rfl)
  case hd178 => rfl
  case hw178 => rfl
  case hy178 => (intro w hSw; (try dsimp only at hSw); go_simp; try with_reducible rfl)
  try simp only [Act.put, List.setIfInBounds_toArray, List.set_cons_zero, List.set_cons_succ]
  refine take_yes (i := 9) (oi := ?o179) (d := (some 38)) (v := ?v179) ?hi179 (by kernel_rfl) (by kernel_rfl) (by kernel_rfl) (fun _ _ _ h => h) ?hd179 ?hw179 ?hy179 (by assumption) ?_
  case hi179 => (simp only [List.getElem?_toArray, List.getElem?_cons_zero, List.getElem?_cons_succ]; exact rfl)
  case hd179 => rfl
  case hw179 => rfl
  case hy179 => (intro w hSw; (try dsimp only at hSw); go_simp; try with_reducible rfl)
  try simp only [Act.put, List.setIfInBounds_toArray, List.set_cons_zero, List.set_cons_succ]
  refine take_yes (i := 10) (oi := ?o180) (d := (some 39)) (v := ?v180) ?hi180 (by kernel_rfl) (by kernel_rfl) (by kernel_rfl) (fun _ _ _ h => h) ?hd180 ?hw180 ?hy180 (by assumption) ?_
  case hi180 => (simp only [List.getElem?_toArray, List.getElem?_cons_zero, List.getElem?_cons_succ]; exact rfl)
  case hd180 => rfl
  case hw180 => rfl
  case hy180 => (intro w hSw; (try dsimp only at hSw); go_simp; try with_reducible rfl)
  try simp only [Act.put, List.setIfInBounds_toArray, List.set_cons_zero, List.set_cons_succ]
  refine take_yes (i := 11) (oi := ?o181) (d := (some 40)) (v := ?v181) ?hi181 (by kernel_rfl) (by kernel_rfl) (by kernel_rfl) (fun _ _ _ h => h) ?hd181 ?hw181 ?hy181 (by assumption) ?_
  case hi181 => (simp only [List.getElem?_toArray, List.getElem?_cons_zero, List.getElem?_cons_succ]; exact rfl)
  case hd181 => rfl
  case hw181 => rfl
  case hy181 => (intro w hSw; (try dsimp only at hSw); go_simp; try with_reducible rfl)
  try simp only [Act.put, List.setIfInBounds_toArray, List.set_cons_zero, List.set_cons_succ]
  refine take_yes (i := 12) (oi := ?o182) (d := (some 41)) (v := ?v182) ?hi182 (by kernel_rfl) (by kernel_rfl) (by kernel_rfl) (fun _ _ _ h => h) ?hd182 ?hw182 ?hy182 (by assumption) ?_
  case hi182 => (simp only [List.getElem?_toArray, List.getElem?_cons_zero, List.getElem?_cons_succ]; exact rfl)
  case hd182 => rfl
  case hw182 => rfl
  case hy182 => (intro w hSw; (try dsimp only at hSw); go_simp; try with_reducible rfl)
  try simp only [Act.put, List.setIfInBounds_toArray, List.set_cons_zero, List.set_cons_succ]
  refine take_yes (i := 13) (oi := ?o183) (d := (some 42)) (v := ?v183) ?hi183 (by kernel_rfl) (by kernel_rfl) (by kernel_rfl) (fun _ _ _ h => h) ?hd183 ?hw183 ?hy183 (by assumption) ?_
  case hi183 => (simp only [List.getElem?_toArray, List.getElem?_cons_zero, List.getElem?_cons_succ]; exact rfl)
  case hd183 => rfl
  case hw183 => rfl
  case hy183 => (intro w hSw; (try dsimp only at hSw); go_simp; try with_reducible rfl)
  try simp only [Act.put, List.setIfInBounds_toArray, List.set_cons_zero, List.set_cons_succ]
  refine take_yes (i := 14) (oi := ?o184) (d := (some 43)) (v := ?v184) ?hi184 (by kernel_rfl) (by kernel_rfl) (by kernel_rfl) (fun _ _ _ h => h) ?hd184 ?hw184 ?hy184 (by assumption) ?_
  case hi184 => (simp only [List.getElem?_toArray, List.getElem?_cons_zero, List.getElem?_cons_succ]; exact rfl)
  case hd184 => rfl
  case hw184 => rfl
  case hy184 => (intro w hSw; (try dsimp only at hSw); go_simp; try with_reducible rfl)
  try simp only [Act.put, List.setIfInBounds_toArray, List.set_cons_zero, List.set_cons_succ]
  refine take_yes (i := 15) (oi := ?o185) (d := (some 44)) (v := ?v185) ?hi185 (by kernel_rfl) (by kernel_rfl) (by kernel_rfl) (fun _ _ _ h => h) ?hd185 ?hw185 ?hy185 (by assumption) ?_
  case hi185 => (simp only [List.getElem?_toArray, List.getElem?_cons_zero, List.getElem?_cons_succ]; exact rfl)
  case hd185 => rfl
  case hw185 => rfl
  case hy185 => (intro w hSw; (try dsimp only at hSw); go_simp; try with_reducible rfl)
  try simp only [Act.put, List.setIfInBounds_toArray, List.set_cons_zero, List.set_cons_succ]
  refine take_yes (i := 16) (oi := ?o186) (d := (some 45)) (v := ?v186) ?hi186 (by kernel_rfl) (by kernel_rfl) (by kernel_rfl) (fun _ _ _ h => h) ?hd186 ?hw186 ?hy186 (by assumption) ?_
  case hi186 => (simp only [List.getElem?_toArray, List.getElem?_cons_zero, List.getElem?_cons_succ]; exact rfl)
  case hd186 => rfl
  case hw186 => rfl
  case hy186 => (intro w hSw; (try dsimp only at hSw); go_simp; try with_reducible rfl)
  try simp only [Act.put, List.setIfInBounds_toArray, List.set_cons_zero, List.set_cons_succ]
  refine take_yes (i := 17) (oi := ?o187) (d := (some 46)) (v := ?v187) ?hi187 (by kernel_rfl) (by kernel_rfl) (by kernel_rfl) (fun _ _ _ h => h) ?hd187 ?hw187 ?hy187 (by assumption) ?_
  case hi187 => (simp only [List.getElem?_toArray, List.getElem?_cons_zero, List.getElem?_cons_succ]; exact rfl)
  case hd187 => rfl
  case hw187 => rfl
  case hy187 => (intro w hSw; (try dsimp only at hSw); go_simp; try with_reducible rfl)
  try simp only [Act.put, List.setIfInBounds_toArray, List.set_cons_zero, List.set_cons_succ]
  refine take_yes (i := 18) (oi := ?o188) (d := (some 47)) (v := ?v188) ?hi188 (by kernel_rfl) (by kernel_rfl) (by kernel_rfl) (fun _ _ _ h => h) ?hd188 ?hw188 ?hy188 (by assumption) ?_
  case hi188 => (simp only [List.getElem?_toArray, List.getElem?_cons_zero, List.getElem?_cons_succ]; exact rfl)
  case hd188 => rfl
  case hw188 => rfl
  case hy188 => (intro w hSw; (try dsimp only at hSw); go_simp; try with_reducible rfl)
  try simp only [Act.put, List.setIfInBounds_toArray, List.set_cons_zero, List.set_cons_succ]
  refine take_yes (i := 19) (oi := ?o189) (d := (some 48)) (v := ?v189) ?hi189 (by kernel_rfl) (by kernel_rfl) (by kernel_rfl) (fun _ _ _ h => h) ?hd189 ?hw189 ?hy189 (by assumption) ?_
  case hi189 => (simp only [List.getElem?_toArray, List.getElem?_cons_zero, List.getElem?_cons_succ]; exact rfl)
  case hd189 => rfl
  case hw189 => rfl
  case hy189 => (intro w hSw; (try dsimp only at hSw); go_simp; try with_reducible rfl)
  try simp only [Act.put, List.setIfInBounds_toArray, List.set_cons_zero, List.set_cons_succ]
  refine take_yes (i := 20) (oi := ?o190) (d := (some 49)) (v := ?v190) ?hi190 (by kernel_rfl) (by kernel_rfl) (by kernel_rfl) (fun _ _ _ h => h) ?hd190 ?hw190 ?hy190 (by assumption) ?_
  case hi190 => (simp only [List.getElem?_toArray, List.getElem?_cons_zero, List.getElem?_cons_succ]; exact rfl)
  case hd190 => rfl
  case hw190 => rfl
  case hy190 => (intro w hSw; (try dsimp only at hSw); go_simp; try with_reducible rfl)
  try simp only [Act.put, List.setIfInBounds_toArray, List.set_cons_zero, List.set_cons_succ]
  refine wpAnyH_ready (rs := [21]) (by kernel_rfl) (by simp) ?_
  refine AllReadyH.cons rfl (fun K hK => ?_) AllReadyH.nil
  go_simp
  (go_at_call 42; refine (rAisleS r wd zs A c _ _ HY.out HI0.out hlen _ (by assumption)).mono ?_; rintro e w3 ⟨rfl, hb3⟩)
  go_wp2_with fail
  refine hK.out _ _ (by exact Own.keep (by assumption) (by assumption)) (fun hHeld21 => ?_)
  clear hK K
  try simp only [Act.put, List.setIfInBounds_toArray, List.set_cons_zero, List.set_cons_succ]
  refine take_yes (i := 22) (oi := ?o191) (d := (some 51)) (v := ?v191) ?hi191 (by kernel_rfl) (by kernel_rfl) (by kernel_rfl) (fun _ _ _ h => h) ?hd191 ?hw191 ?hy191 (by assumption) ?_
  case hi191 => (simp only [List.getElem?_toArray, List.getElem?_cons_zero, List.getElem?_cons_succ]; exact rfl)
  case hd191 => rfl
  case hw191 => rfl
  case hy191 => (intro w hSw; (try dsimp only at hSw); go_simp; try with_reducible rfl)
  try simp only [Act.put, List.setIfInBounds_toArray, List.set_cons_zero, List.set_cons_succ]
  refine take_yes (i := 23) (oi := ?o192) (d := (some 52)) (v := ?v192) ?hi192 (by kernel_rfl) (by kernel_rfl) (by kernel_rfl) (fun _ _ _ h => h) ?hd192 ?hw192 ?hy192 (by assumption) ?_
  case hi192 => (simp only [List.getElem?_toArray, List.getElem?_cons_zero, List.getElem?_cons_succ]; exact rfl)
  case hd192 => rfl
  case hw192 => rfl
  case hy192 => (intro w hSw; (try dsimp only at hSw); go_simp; try with_reducible rfl)
  try simp only [Act.put, List.setIfInBounds_toArray, List.set_cons_zero, List.set_cons_succ]
  refine take_yes (i := 24) (oi := ?o193) (d := (some 6)) (v := ?v193) ?hi193 (by kernel_rfl) (by kernel_rfl) (by kernel_rfl) (fun _ _ _ h => h) ?hd193 ?hw193 ?hy193 (by assumption) ?_
  case hi193 => (simp only [List.getElem?_toArray, List.getElem?_cons_zero, List.getElem?_cons_succ]; exact rfl)
  case hd193 => rfl
  case hw193 => rfl
  case hy193 => (intro w hSw; (try dsimp only at hSw); go_simp; try with_reducible rfl)
  try simp only [Act.put, List.setIfInBounds_toArray, List.set_cons_zero, List.set_cons_succ]
  refine take_yes (i := 25) (oi := ?o194) (d := (some 7)) (v := ?v194) ?hi194 (by kernel_rfl) (by kernel_rfl) (by kernel_rfl) (fun _ _ _ h => h) ?hd194 ?hw194 ?hy194 (by assumption) ?_
  case hi194 => (simp only [List.getElem?_toArray, List.getElem?_cons_zero, List.getElem?_cons_succ]; exact rfl)
  case hd194 => rfl
  case hw194 => rfl
  case hy194 => (intro w hSw; (try dsimp only at hSw); go_simp; try with_reducible rfl)
  try simp only [Act.put, List.setIfInBounds_toArray, List.set_cons_zero, List.set_cons_succ]
  refine wpAnyH_done (by kernel_rfl) ?_ _
  go_wp2_with fail
  go_ret2
  exact ⟨rfl, Own.below (by assumption)⟩

theorem bes_comm (wd : Int) (zs : List Int) (a b : Int) : besB wd zs a b = besB wd zs b a := by
  unfold besB
  rw [Int.max_comm]
  congr 1
  apply decide_eq_decide.2
  constructor <;> (rintro ⟨h1, h2⟩; exact ⟨h1.symm, h2.symm⟩)
theorem bes_apart {wd : Int} (hw : 0 < wd) (zs : List Int) {a b : Int} (hle : a ≤ b) (hne : ¬ b = a + 1) : besB wd zs a b = false := by
  unfold besB
  rw [decide_eq_false, Bool.false_and]
  rintro ⟨h1, h2⟩
  have e1 := Int.mul_ediv_add_emod a wd
  have e2 := Int.mul_ediv_add_emod b wd
  rw [h1] at e1
  omega
theorem bes_row {wd : Int} (zs : List Int) {a : Int} (hr : ¬ a / wd = (a + 1) / wd) : besB wd zs a (a + 1) = false := by
  unfold besB
  rw [decide_eq_false (fun h => hr h.1), Bool.false_and]
theorem bes_next {wd : Int} (zs : List Int) {a : Int} (hr : a / wd = (a + 1) / wd) : besB wd zs a (a + 1) = !lieAt zs ((a + 1) % wd) := by
  have e1 := Int.mul_ediv_add_emod a wd
  have e2 := Int.mul_ediv_add_emod (a + 1) wd
  rw [hr] at e1
  have e3 : (a + 1) % wd = a % wd + 1 := by omega
  unfold besB
  rw [decide_eq_true ⟨hr, .inl e3⟩, Bool.true_and, show max (a % wd) ((a + 1) % wd) = (a + 1) % wd from by omega]
theorem rBeside_le (r wd : Int) (zs : List Int) (A : Option Addr) (c : Nat) (a b : Int) (w : World) (hI : Ints w A zs) (hlen : zs.length ≤ 20000000000000) (hok : okC r wd zs = true) (ha0 : 0 ≤ a) (ha1 : a < r * wd) (hb0 : 0 ≤ b) (hb1 : b < r * wd) (hle : a ≤ b) :
    Calls Tryd.prog 23 #[.agg #[.int .i64 r, .int .i64 wd, .slice A zs.length c], .int .i64 a, .int .i64 b] w fun e w' => e = .returned (.tuple #[.bool (besB wd zs a b), .int .i64 0]) ∧ Below w.heap.size w w' := by
  obtain ⟨⟨o1, o2, o3, o4⟩, _⟩ := okC_yes hok
  by_cases hu : b = a + 1
  · subst hu
    by_cases hr : a / wd = (a + 1) / wd
    · rw [bes_next zs hr]
      exact rBeside_next r wd zs A c a _ _ w hI hlen hok ha0 ha1 hb0 hb1 rfl hr rfl
    · rw [bes_row zs hr]
      exact rBeside_row r wd zs A c a _ w hI hlen hok ha0 ha1 hb0 hb1 rfl hr
  · rw [bes_apart (by omega) zs hle hu]
    exact rBeside_apart r wd zs A c a b w hI hlen hok ha0 ha1 hb0 hb1 hle hu
set_option maxRecDepth 100000 in
set_option maxHeartbeats 1000000 in
theorem rBeside_gt (r wd : Int) (zs : List Int) (A : Option Addr) (c : Nat) (a b : Int) (w : World) (hI : Ints w A zs) (hlen : zs.length ≤ 20000000000000) (hok : okC r wd zs = true) (ha0 : 0 ≤ a) (ha1 : a < r * wd) (hb0 : 0 ≤ b) (hb1 : b < r * wd) (hgt : b < a) :
    Calls Tryd.prog 23 #[.agg #[.int .i64 r, .int .i64 wd, .slice A zs.length c], .int .i64 a, .int .i64 b] w fun e w' => e = .returned (.tuple #[.bool (besB wd zs a b), .int .i64 0]) ∧ Below w.heap.size w w' := by
  have HI := Lib.hid (hI.keep (ext_alloc (Below.refl _ w) (.cells #[.int .i64 r, .int .i64 wd, .slice A zs.length c] 24)))
  have HI0 := Lib.hid hI
  have HOK := Lib.hid hok
  obtain ⟨⟨o1, o2, o3, o4⟩, _⟩ := okC_yes hok
  have q2 : r * wd ≤ 64 * 16 := Int.mul_le_mul (by omega) (by omega) (by omega) (by omega)
  clear hI hok
  go_enter Tryd.func23, Tryd.ntmps23
  go_wp2_with fail
  refine (rWrong_yes r wd zs A c a _ HI.out hlen HOK.out ha0 ha1).mono ?_
  rintro e w1 ⟨rfl, hb⟩
  have hS := Own.of hb
  have x0 : w1.cell? ⟨w.heap.size, 0, none⟩ = some (.int .i64 r) := hS.1
  have x1 : w1.cell? ⟨w.heap.size, 1, none⟩ = some (.int .i64 wd) := hS.2.1
  have x2 : w1.cell? ⟨w.heap.size, 2, none⟩ = some (.slice A zs.length c) := hS.2.2.1
  clear hb
  go_wp2_with fail
  refine (rWrong_yes r wd zs A c b _ (HI0.out.keep hS.2.2.2.1) hlen HOK.out hb0 hb1).mono ?_
  rintro e w2 ⟨rfl, hb⟩
  have hS2 := hS.keep hb
  clear hb hS x0 x1 x2
  have hS := hS2
  have x0 : w2.cell? ⟨w.heap.size, 0, none⟩ = some (.int .i64 r) := hS.1
  have x1 : w2.cell? ⟨w.heap.size, 1, none⟩ = some (.int .i64 wd) := hS.2.1
  have x2 : w2.cell? ⟨w.heap.size, 2, none⟩ = some (.slice A zs.length c) := hS.2.2.1
  go_wp2_with fail
  refine (rBeside_le r wd zs A c b a _ (HI0.out.keep hS.2.2.2.1) hlen HOK.out hb0 hb1 ha0 ha1 (by omega)).mono ?_
  rintro e w3 ⟨rfl, hb⟩
  have hb3 := ext_trans hS.2.2.2.1 hb
  clear hb
  go_wp2_with fail
  go_ret2
  exact ⟨by rw [bes_comm]; rfl, hb3⟩

theorem rBeside_yes (r wd : Int) (zs : List Int) (A : Option Addr) (c : Nat) (a b : Int) (w : World) (hI : Ints w A zs) (hlen : zs.length ≤ 20000000000000) (hok : okC r wd zs = true) (ha0 : 0 ≤ a) (ha1 : a < r * wd) (hb0 : 0 ≤ b) (hb1 : b < r * wd) :
    Calls Tryd.prog 23 #[.agg #[.int .i64 r, .int .i64 wd, .slice A zs.length c], .int .i64 a, .int .i64 b] w fun e w' => e = .returned (.tuple #[.bool (besB wd zs a b), .int .i64 0]) ∧ Below w.heap.size w w' := by
  by_cases h : a ≤ b
  · exact rBeside_le r wd zs A c a b w hI hlen hok ha0 ha1 hb0 hb1 h
  · exact rBeside_gt r wd zs A c a b w hI hlen hok ha0 ha1 hb0 hb1 (by omega)
set_option maxRecDepth 100000 in
set_option maxHeartbeats 1000000 in
theorem rBeside_no (r wd : Int) (zs : List Int) (A : Option Addr) (c : Nat) (a b : Int) (w : World) (hI : Ints w A zs) (hlen : zs.length ≤ 20000000000000) (hok : okC r wd zs = false) :
    Calls Tryd.prog 23 #[.agg #[.int .i64 r, .int .i64 wd, .slice A zs.length c], .int .i64 a, .int .i64 b] w fun e w' => e = .returned (.tuple #[.bool false, .int .i64 2]) ∧ Below w.heap.size w w' := by
  have HI := Lib.hid (hI.keep (ext_alloc (Below.refl _ w) (.cells #[.int .i64 r, .int .i64 wd, .slice A zs.length c] 24)))
  have HI0 := Lib.hid hI
  have HOK := Lib.hid hok
  clear hI hok
  go_enter Tryd.func23, Tryd.ntmps23
  go_wp2_with fail
  refine (rWrong_no r wd zs A c a _ HI.out hlen HOK.out).mono ?_
  rintro e w1 ⟨rfl, hb⟩
  have hS := Own.of hb
  go_wp2_with fail
  go_ret2
  exact ⟨rfl, hS.2.2.2.1⟩

set_option maxRecDepth 100000 in
set_option maxHeartbeats 1000000 in
theorem rBeside_seatA (r wd : Int) (zs : List Int) (A : Option Addr) (c : Nat) (a b : Int) (w : World) (hI : Ints w A zs) (hlen : zs.length ≤ 20000000000000) (hok : okC r wd zs = true) (hs : a < 0 ∨ r * wd ≤ a) :
    Calls Tryd.prog 23 #[.agg #[.int .i64 r, .int .i64 wd, .slice A zs.length c], .int .i64 a, .int .i64 b] w fun e w' => e = .returned (.tuple #[.bool false, .int .i64 140]) ∧ Below w.heap.size w w' := by
  have HI := Lib.hid (hI.keep (ext_alloc (Below.refl _ w) (.cells #[.int .i64 r, .int .i64 wd, .slice A zs.length c] 24)))
  have HI0 := Lib.hid hI
  have HOK := Lib.hid hok
  clear hI hok
  go_enter Tryd.func23, Tryd.ntmps23
  go_wp2_with fail
  refine (rWrong_seat r wd zs A c a _ HI.out hlen HOK.out hs).mono ?_
  rintro e w1 ⟨rfl, hb⟩
  have hS := Own.of hb
  go_wp2_with fail
  go_ret2
  exact ⟨rfl, hS.2.2.2.1⟩

set_option maxRecDepth 100000 in
set_option maxHeartbeats 1000000 in
theorem rBeside_seatB (r wd : Int) (zs : List Int) (A : Option Addr) (c : Nat) (a b : Int) (w : World) (hI : Ints w A zs) (hlen : zs.length ≤ 20000000000000) (hok : okC r wd zs = true) (ha0 : 0 ≤ a) (ha1 : a < r * wd) (hs : b < 0 ∨ r * wd ≤ b) :
    Calls Tryd.prog 23 #[.agg #[.int .i64 r, .int .i64 wd, .slice A zs.length c], .int .i64 a, .int .i64 b] w fun e w' => e = .returned (.tuple #[.bool false, .int .i64 140]) ∧ Below w.heap.size w w' := by
  have HI := Lib.hid (hI.keep (ext_alloc (Below.refl _ w) (.cells #[.int .i64 r, .int .i64 wd, .slice A zs.length c] 24)))
  have HI0 := Lib.hid hI
  have HOK := Lib.hid hok
  clear hI hok
  go_enter Tryd.func23, Tryd.ntmps23
  go_wp2_with fail
  refine (rWrong_yes r wd zs A c a _ HI.out hlen HOK.out ha0 ha1).mono ?_
  rintro e w1 ⟨rfl, hb⟩
  have hS := Own.of hb
  have x0 : w1.cell? ⟨w.heap.size, 0, none⟩ = some (.int .i64 r) := hS.1
  have x1 : w1.cell? ⟨w.heap.size, 1, none⟩ = some (.int .i64 wd) := hS.2.1
  have x2 : w1.cell? ⟨w.heap.size, 2, none⟩ = some (.slice A zs.length c) := hS.2.2.1
  clear hb
  go_wp2_with fail
  refine (rWrong_seat r wd zs A c b _ (HI0.out.keep hS.2.2.2.1) hlen HOK.out hs).mono ?_
  rintro e w2 ⟨rfl, hb⟩
  have hS2 := hS.keep hb
  clear hb hS x0 x1 x2
  have hS := hS2
  have x0 : w2.cell? ⟨w.heap.size, 0, none⟩ = some (.int .i64 r) := hS.1
  have x1 : w2.cell? ⟨w.heap.size, 1, none⟩ = some (.int .i64 wd) := hS.2.1
  have x2 : w2.cell? ⟨w.heap.size, 2, none⟩ = some (.slice A zs.length c) := hS.2.2.1
  go_wp2_with fail
  go_ret2
  exact ⟨rfl, hS.2.2.2.1⟩

end Go.Proofs.YtablpncipkbfhaaDoor.Cab
