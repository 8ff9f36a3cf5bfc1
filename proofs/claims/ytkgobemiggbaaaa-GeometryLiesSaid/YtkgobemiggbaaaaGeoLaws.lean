/- The walks of the laws of the geometry layer: each returns true and leaves what was there as it was. -/
import Derived.Test.YtkgobemiggbaaaaGeo2
namespace Go.Proofs.Ytkgobemiggbaaaa.Geo
open Go.RowKit

theorem ok12 : okS 12 8 4 = true := by decide
theorem ok64 : okZ 64 = true := by decide
theorem need12 : need 12 8 64 = 9 := by decide
theorem slot12 : slot 12 8 64 = 4 := by decide
theorem ok20 : okD 20 64 = true := by decide

-- awake
set_option maxRecDepth 100000 in
set_option maxHeartbeats 1000000 in
theorem awake  (w : World)  :
    Calls Try.prog 11 #[] w fun e w' => e = .returned (.bool true) ∧ Below w.heap.size w w' := by
  go_enter Try.func11, Try.ntmps11
  go_wp2_with fail
  refine (Need_yes 12 8 4 64 _ ok12 ok64).mono ?_
  rintro e w1 ⟨rfl, hb1⟩
  obtain ⟨hc1, hf1⟩ := bcell hb1
  have hz1 := hb1.size
  try simp at hz1
  have hl1_0 : w.heap.size < w1.heap.size := by omega
  rw [need12]
  go_wp2_with fail
  refine (Plan_ok 20 64 12 8 4 _ ok12 ok20 (by rw [need12]; omega)).mono ?_
  rintro e w2 ⟨rfl, hb2⟩
  obtain ⟨hc2, hf2⟩ := bcell hb2
  have hz2 := hb2.size
  try simp at hz2
  have hl2_0 : w.heap.size < w2.heap.size := by omega
  rw [slot12]
  go_wp2_with fail
  refine (check_yes 12 8 4 _ ok12).mono ?_
  rintro e w3 ⟨rfl, hb3⟩
  obtain ⟨hc3, hf3⟩ := bcell hb3
  have hz3 := hb3.size
  try simp at hz3
  have hl3_0 : w.heap.size < w3.heap.size := by omega
  have hl3_1 : w2.heap.size < w3.heap.size := by omega
  go_wp2_with fail
  go_ret
  refine ⟨rfl, ?_⟩
  repeat (first | with_reducible exact Below.refl _ _ | with_reducible refine ext_alloc ?_ _ | with_reducible refine ext_drew ?_ | with_reducible refine ext_drewN ?_ _ | (refine ext_setCell ?_ (by simp at *; omega) _) | with_reducible refine ext_trans ?_ (by assumption))

set_option maxRecDepth 100000 in
set_option maxHeartbeats 1000000 in
theorem Needs_shape (a b c m : Int) (w : World) (g1 : okS a b c = false) :
    Calls Try.prog 3 #[.agg #[.int .i64 a, .int .i64 b, .int .i64 c], .int .i64 m] w fun e w' => e = .returned (.bool true) ∧ Below w.heap.size w w' := by
  have G1 := Lib.hid g1; clear g1
  go_enter Try.func3, Try.ntmps3
  go_wp2_with fail
  refine (Need_shape a b c m _ G1.out).mono ?_
  rintro e w1 ⟨rfl, hb1⟩
  obtain ⟨hc1, hf1⟩ := bcell hb1
  have hz1 := hb1.size
  try simp at hz1
  have hl1_0 : w.heap.size < w1.heap.size := by omega
  go_wp2_with fail
  refine (rNeed_shape a b c m _ G1.out).mono ?_
  rintro e w2 ⟨rfl, hb2⟩
  obtain ⟨hc2, hf2⟩ := bcell hb2
  have hz2 := hb2.size
  try simp at hz2
  have hl2_0 : w.heap.size < w2.heap.size := by omega
  go_wp2_with fail
  refine (awake _).mono ?_
  rintro e w3 ⟨rfl, hb3⟩
  obtain ⟨hc3, hf3⟩ := bcell hb3
  have hz3 := hb3.size
  try simp at hz3
  have hl3_0 : w.heap.size < w3.heap.size := by omega
  go_wp2_with fail
  go_ret
  refine ⟨rfl, ?_⟩
  repeat (first | with_reducible exact Below.refl _ _ | with_reducible refine ext_alloc ?_ _ | with_reducible refine ext_drew ?_ | with_reducible refine ext_drewN ?_ _ | (refine ext_setCell ?_ (by simp at *; omega) _) | with_reducible refine ext_trans ?_ (by assumption))

set_option maxRecDepth 100000 in
set_option maxHeartbeats 1000000 in
theorem Needs_arg (a b c m : Int) (w : World) (g1 : okS a b c = true) (g2 : okZ m = false) :
    Calls Try.prog 3 #[.agg #[.int .i64 a, .int .i64 b, .int .i64 c], .int .i64 m] w fun e w' => e = .returned (.bool true) ∧ Below w.heap.size w w' := by
  have G1 := Lib.hid g1; clear g1
  have G2 := Lib.hid g2; clear g2
  go_enter Try.func3, Try.ntmps3
  go_wp2_with fail
  refine (Need_arg a b c m _ G1.out G2.out).mono ?_
  rintro e w1 ⟨rfl, hb1⟩
  obtain ⟨hc1, hf1⟩ := bcell hb1
  have hz1 := hb1.size
  try simp at hz1
  have hl1_0 : w.heap.size < w1.heap.size := by omega
  go_wp2_with fail
  refine (rNeed_arg a b c m _ G1.out G2.out).mono ?_
  rintro e w2 ⟨rfl, hb2⟩
  obtain ⟨hc2, hf2⟩ := bcell hb2
  have hz2 := hb2.size
  try simp at hz2
  have hl2_0 : w.heap.size < w2.heap.size := by omega
  go_wp2_with fail
  refine (awake _).mono ?_
  rintro e w3 ⟨rfl, hb3⟩
  obtain ⟨hc3, hf3⟩ := bcell hb3
  have hz3 := hb3.size
  try simp at hz3
  have hl3_0 : w.heap.size < w3.heap.size := by omega
  go_wp2_with fail
  go_ret
  refine ⟨rfl, ?_⟩
  repeat (first | with_reducible exact Below.refl _ _ | with_reducible refine ext_alloc ?_ _ | with_reducible refine ext_drew ?_ | with_reducible refine ext_drewN ?_ _ | (refine ext_setCell ?_ (by simp at *; omega) _) | with_reducible refine ext_trans ?_ (by assumption))

set_option maxRecDepth 100000 in
set_option maxHeartbeats 1000000 in
theorem Needs_yes (a b c m : Int) (w : World) (g1 : okS a b c = true) (g2 : okZ m = true) :
    Calls Try.prog 3 #[.agg #[.int .i64 a, .int .i64 b, .int .i64 c], .int .i64 m] w fun e w' => e = .returned (.bool true) ∧ Below w.heap.size w w' := by
  have G1 := Lib.hid g1; clear g1
  have G2 := Lib.hid g2; clear g2
  go_enter Try.func3, Try.ntmps3
  go_wp2_with fail
  refine (Need_yes a b c m _ G1.out G2.out).mono ?_
  rintro e w1 ⟨rfl, hb1⟩
  obtain ⟨hc1, hf1⟩ := bcell hb1
  have hz1 := hb1.size
  try simp at hz1
  have hl1_0 : w.heap.size < w1.heap.size := by omega
  go_wp2_with fail
  refine (rNeed_yes a b c m _ G1.out G2.out).mono ?_
  rintro e w2 ⟨rfl, hb2⟩
  obtain ⟨hc2, hf2⟩ := bcell hb2
  have hz2 := hb2.size
  try simp at hz2
  have hl2_0 : w.heap.size < w2.heap.size := by omega
  go_wp2_with fail
  refine (awake _).mono ?_
  rintro e w3 ⟨rfl, hb3⟩
  obtain ⟨hc3, hf3⟩ := bcell hb3
  have hz3 := hb3.size
  try simp at hz3
  have hl3_0 : w.heap.size < w3.heap.size := by omega
  go_wp2_with fail
  go_ret
  refine ⟨rfl, ?_⟩
  repeat (first | with_reducible exact Below.refl _ _ | with_reducible refine ext_alloc ?_ _ | with_reducible refine ext_drew ?_ | with_reducible refine ext_drewN ?_ _ | (refine ext_setCell ?_ (by simp at *; omega) _) | with_reducible refine ext_trans ?_ (by assumption))

theorem Needs (a b c m : Int) (w : World) :
    Calls Try.prog 3 #[.agg #[.int .i64 a, .int .i64 b, .int .i64 c], .int .i64 m] w fun e w' => e = .returned (.bool true) ∧ Below w.heap.size w w' := by
  cases g1 : okS a b c with
  | false => exact Needs_shape a b c m w g1
  | true =>
    cases g2 : okZ m with
    | false => exact Needs_arg a b c m w g1 g2
    | true => exact Needs_yes a b c m w g1 g2

set_option maxRecDepth 100000 in
set_option maxHeartbeats 1000000 in
theorem Plans_shape (n m a b c : Int) (w : World) (g1 : okS a b c = false) :
    Calls Try.prog 4 #[.int .i64 n, .int .i64 m, .agg #[.int .i64 a, .int .i64 b, .int .i64 c]] w fun e w' => e = .returned (.bool true) ∧ Below w.heap.size w w' := by
  have G1 := Lib.hid g1; clear g1
  go_enter Try.func4, Try.ntmps4
  go_wp2_with fail
  refine (Plan_shape n m a b c _ G1.out).mono ?_
  rintro e w1 ⟨rfl, hb1⟩
  obtain ⟨hc1, hf1⟩ := bcell hb1
  have hz1 := hb1.size
  try simp at hz1
  have hl1_0 : w.heap.size < w1.heap.size := by omega
  go_wp2_with fail
  refine (rPlan_shape n m a b c _ G1.out).mono ?_
  rintro e w2 ⟨rfl, hb2⟩
  obtain ⟨hc2, hf2⟩ := bcell hb2
  have hz2 := hb2.size
  try simp at hz2
  have hl2_0 : w.heap.size < w2.heap.size := by omega
  have hl2_1 : w1.heap.size < w2.heap.size := by omega
  go_wp2_with fail
  refine (awake _).mono ?_
  rintro e w3 ⟨rfl, hb3⟩
  obtain ⟨hc3, hf3⟩ := bcell hb3
  have hz3 := hb3.size
  try simp at hz3
  have hl3_0 : w.heap.size < w3.heap.size := by omega
  have hl3_1 : w1.heap.size < w3.heap.size := by omega
  have hl3_2 : w2.heap.size < w3.heap.size := by omega
  go_wp2_with fail
  go_ret
  refine ⟨rfl, ?_⟩
  repeat (first | with_reducible exact Below.refl _ _ | with_reducible refine ext_alloc ?_ _ | with_reducible refine ext_drew ?_ | with_reducible refine ext_drewN ?_ _ | (refine ext_setCell ?_ (by simp at *; omega) _) | with_reducible refine ext_trans ?_ (by assumption))

set_option maxRecDepth 100000 in
set_option maxHeartbeats 1000000 in
theorem Plans_arg (n m a b c : Int) (w : World) (g1 : okS a b c = true) (g2 : okD n m = false) :
    Calls Try.prog 4 #[.int .i64 n, .int .i64 m, .agg #[.int .i64 a, .int .i64 b, .int .i64 c]] w fun e w' => e = .returned (.bool true) ∧ Below w.heap.size w w' := by
  have G1 := Lib.hid g1; clear g1
  have G2 := Lib.hid g2; clear g2
  go_enter Try.func4, Try.ntmps4
  go_wp2_with fail
  refine (Plan_arg n m a b c _ G1.out G2.out).mono ?_
  rintro e w1 ⟨rfl, hb1⟩
  obtain ⟨hc1, hf1⟩ := bcell hb1
  have hz1 := hb1.size
  try simp at hz1
  have hl1_0 : w.heap.size < w1.heap.size := by omega
  go_wp2_with fail
  refine (rPlan_arg n m a b c _ G1.out G2.out).mono ?_
  rintro e w2 ⟨rfl, hb2⟩
  obtain ⟨hc2, hf2⟩ := bcell hb2
  have hz2 := hb2.size
  try simp at hz2
  have hl2_0 : w.heap.size < w2.heap.size := by omega
  have hl2_1 : w1.heap.size < w2.heap.size := by omega
  go_wp2_with fail
  refine (awake _).mono ?_
  rintro e w3 ⟨rfl, hb3⟩
  obtain ⟨hc3, hf3⟩ := bcell hb3
  have hz3 := hb3.size
  try simp at hz3
  have hl3_0 : w.heap.size < w3.heap.size := by omega
  have hl3_1 : w1.heap.size < w3.heap.size := by omega
  have hl3_2 : w2.heap.size < w3.heap.size := by omega
  go_wp2_with fail
  go_ret
  refine ⟨rfl, ?_⟩
  repeat (first | with_reducible exact Below.refl _ _ | with_reducible refine ext_alloc ?_ _ | with_reducible refine ext_drew ?_ | with_reducible refine ext_drewN ?_ _ | (refine ext_setCell ?_ (by simp at *; omega) _) | with_reducible refine ext_trans ?_ (by assumption))

set_option maxRecDepth 100000 in
set_option maxHeartbeats 1000000 in
theorem Plans_small (n m a b c : Int) (w : World) (g1 : okS a b c = true) (g2 : okD n m = true) (g3 : n < need a b m) :
    Calls Try.prog 4 #[.int .i64 n, .int .i64 m, .agg #[.int .i64 a, .int .i64 b, .int .i64 c]] w fun e w' => e = .returned (.bool true) ∧ Below w.heap.size w w' := by
  have G1 := Lib.hid g1; clear g1
  have G2 := Lib.hid g2; clear g2
  have G3 := Lib.hid g3; clear g3
  go_enter Try.func4, Try.ntmps4
  go_wp2_with fail
  refine (Plan_small n m a b c _ G1.out G2.out G3.out).mono ?_
  rintro e w1 ⟨rfl, hb1⟩
  obtain ⟨hc1, hf1⟩ := bcell hb1
  have hz1 := hb1.size
  try simp at hz1
  have hl1_0 : w.heap.size < w1.heap.size := by omega
  go_wp2_with fail
  refine (rPlan_small n m a b c _ G1.out G2.out G3.out).mono ?_
  rintro e w2 ⟨rfl, hb2⟩
  obtain ⟨hc2, hf2⟩ := bcell hb2
  have hz2 := hb2.size
  try simp at hz2
  have hl2_0 : w.heap.size < w2.heap.size := by omega
  have hl2_1 : w1.heap.size < w2.heap.size := by omega
  go_wp2_with fail
  refine (awake _).mono ?_
  rintro e w3 ⟨rfl, hb3⟩
  obtain ⟨hc3, hf3⟩ := bcell hb3
  have hz3 := hb3.size
  try simp at hz3
  have hl3_0 : w.heap.size < w3.heap.size := by omega
  have hl3_1 : w1.heap.size < w3.heap.size := by omega
  have hl3_2 : w2.heap.size < w3.heap.size := by omega
  go_wp2_with fail
  go_ret
  refine ⟨rfl, ?_⟩
  repeat (first | with_reducible exact Below.refl _ _ | with_reducible refine ext_alloc ?_ _ | with_reducible refine ext_drew ?_ | with_reducible refine ext_drewN ?_ _ | (refine ext_setCell ?_ (by simp at *; omega) _) | with_reducible refine ext_trans ?_ (by assumption))

set_option maxRecDepth 100000 in
set_option maxHeartbeats 1000000 in
theorem Plans_ok (n m a b c : Int) (w : World) (g1 : okS a b c = true) (g2 : okD n m = true) (g3 : need a b m ≤ n) :
    Calls Try.prog 4 #[.int .i64 n, .int .i64 m, .agg #[.int .i64 a, .int .i64 b, .int .i64 c]] w fun e w' => e = .returned (.bool true) ∧ Below w.heap.size w w' := by
  have G1 := Lib.hid g1; clear g1
  have G2 := Lib.hid g2; clear g2
  have G3 := Lib.hid g3; clear g3
  go_enter Try.func4, Try.ntmps4
  go_wp2_with fail
  refine (Plan_ok n m a b c _ G1.out G2.out G3.out).mono ?_
  rintro e w1 ⟨rfl, hb1⟩
  obtain ⟨hc1, hf1⟩ := bcell hb1
  have hz1 := hb1.size
  try simp at hz1
  have hl1_0 : w.heap.size < w1.heap.size := by omega
  go_wp2_with fail
  refine (rPlan_ok n m a b c _ G1.out G2.out G3.out).mono ?_
  rintro e w2 ⟨rfl, hb2⟩
  obtain ⟨hc2, hf2⟩ := bcell hb2
  have hz2 := hb2.size
  try simp at hz2
  have hl2_0 : w.heap.size < w2.heap.size := by omega
  have hl2_1 : w1.heap.size < w2.heap.size := by omega
  go_wp2_with fail
  refine (awake _).mono ?_
  rintro e w3 ⟨rfl, hb3⟩
  obtain ⟨hc3, hf3⟩ := bcell hb3
  have hz3 := hb3.size
  try simp at hz3
  have hl3_0 : w.heap.size < w3.heap.size := by omega
  have hl3_1 : w1.heap.size < w3.heap.size := by omega
  have hl3_2 : w2.heap.size < w3.heap.size := by omega
  go_wp2_with fail
  go_ret
  refine ⟨rfl, ?_⟩
  repeat (first | with_reducible exact Below.refl _ _ | with_reducible refine ext_alloc ?_ _ | with_reducible refine ext_drew ?_ | with_reducible refine ext_drewN ?_ _ | (refine ext_setCell ?_ (by simp at *; omega) _) | with_reducible refine ext_trans ?_ (by assumption))

theorem Plans (n m a b c : Int) (w : World) :
    Calls Try.prog 4 #[.int .i64 n, .int .i64 m, .agg #[.int .i64 a, .int .i64 b, .int .i64 c]] w fun e w' => e = .returned (.bool true) ∧ Below w.heap.size w w' := by
  cases g1 : okS a b c with
  | false => exact Plans_shape n m a b c w g1
  | true =>
    cases g2 : okD n m with
    | false => exact Plans_arg n m a b c w g1 g2
    | true =>
      by_cases g3 : n < need a b m
      · exact Plans_small n m a b c w g1 g2 g3
      · exact Plans_ok n m a b c w g1 g2 (by omega)

theorem keep3 {w W w1 : World} {g : Nat} {x y z : Value} (h : W.cell? ⟨g, 0, none⟩ = some x ∧ W.cell? ⟨g, 1, none⟩ = some y ∧ W.cell? ⟨g, 2, none⟩ = some z ∧ Below w.heap.size w W ∧ g < W.heap.size) (hb : Below W.heap.size W w1) :
    w1.cell? ⟨g, 0, none⟩ = some x ∧ w1.cell? ⟨g, 1, none⟩ = some y ∧ w1.cell? ⟨g, 2, none⟩ = some z ∧ Below w.heap.size w w1 ∧ g < w1.heap.size :=
  ⟨(hb.cell (p := ⟨g, 0, none⟩) h.2.2.2.2).trans h.1, (hb.cell (p := ⟨g, 1, none⟩) h.2.2.2.2).trans h.2.1, (hb.cell (p := ⟨g, 2, none⟩) h.2.2.2.2).trans h.2.2.1, ext_trans h.2.2.2.1 hb, Nat.lt_of_lt_of_le h.2.2.2.2 hb.size⟩

set_option maxRecDepth 100000 in
set_option maxHeartbeats 1000000 in
theorem Shapes_yes (a b c : Int) (w : World) (g1 : okS a b c = true) :
    Calls Try.prog 6 #[.agg #[.int .i64 a, .int .i64 b, .int .i64 c]] w fun e w' => e = .returned (.bool true) ∧ Below w.heap.size w w' := by
  have G1 := Lib.hid g1; clear g1
  go_enter Try.func6, Try.ntmps6
  go_wp2_with fail
  refine (Image_yes a b c _ G1.out).mono ?_
  rintro e w1 ⟨rfl, hb1⟩
  obtain ⟨hc1, hf1⟩ := bcell hb1
  have hz1 := hb1.size
  try simp at hz1
  have hl1_0 : w.heap.size < w1.heap.size := by omega
  go_wp2_with fail
  refine (rImage_yes a b c _ G1.out).mono ?_
  rintro e w2 ⟨rfl, hb2⟩
  obtain ⟨hc2, hf2⟩ := bcell hb2
  have hz2 := hb2.size
  try simp at hz2
  have hl2_0 : w.heap.size < w2.heap.size := by omega
  go_wp2_with fail
  have hS : w2.cell? ⟨w.heap.size, 0, none⟩ = some (.int .i64 a) ∧ w2.cell? ⟨w.heap.size, 1, none⟩ = some (.int .i64 b) ∧ w2.cell? ⟨w.heap.size, 2, none⟩ = some (.int .i64 c) ∧ Below w.heap.size w w2 ∧ w.heap.size < w2.heap.size := by
    refine ⟨by simp [hc2, hc1, hl1_0], by simp [hc2, hc1, hl1_0], by simp [hc2, hc1, hl1_0], ?_, hl2_0⟩
    repeat (first | with_reducible exact Below.refl _ _ | with_reducible refine ext_alloc ?_ _ | with_reducible refine ext_drew ?_ | with_reducible refine ext_drewN ?_ _ | (refine ext_setCell ?_ (by simp at *; omega) _) | with_reducible refine ext_trans ?_ (by assumption))
  clear hc1 hf1 hc2 hf2
  go_region_held3 (fun w' => w'.cell? ⟨w.heap.size, 0, none⟩ = some (.int .i64 a) ∧ w'.cell? ⟨w.heap.size, 1, none⟩ = some (.int .i64 b) ∧ w'.cell? ⟨w.heap.size, 2, none⟩ = some (.int .i64 c) ∧ Below w.heap.size w w' ∧ w.heap.size < w'.heap.size)
    (first | assumption | exact keep3 hS (ext_drew (Below.refl _ _)) | exact keep3 (by assumption) (by assumption))
    (first | (go_at_call 16; refine (check_yes a b c _ G1.out).mono ?_; rintro e w3 ⟨rfl, hb3⟩) | (go_at_call 17; refine (rcheck_yes a b c _ G1.out).mono ?_; rintro e w4 ⟨rfl, hb4⟩) | (go_at_call 11; refine (awake _).mono ?_; rintro e w5 ⟨rfl, hb5⟩))
  all_goals
    go_wp2_with fail
    go_ret
    refine ⟨rfl, ?_⟩
    repeat (first | with_reducible exact Below.refl _ _ | with_reducible refine ext_alloc ?_ _ | with_reducible refine ext_drew ?_ | with_reducible refine ext_drewN ?_ _ | (refine ext_setCell ?_ (by simp at *; omega) _) | with_reducible refine ext_trans ?_ (by assumption))

set_option maxRecDepth 100000 in
set_option maxHeartbeats 1000000 in
theorem Shapes_no (a b c : Int) (w : World) (g1 : okS a b c = false) :
    Calls Try.prog 6 #[.agg #[.int .i64 a, .int .i64 b, .int .i64 c]] w fun e w' => e = .returned (.bool true) ∧ Below w.heap.size w w' := by
  have G1 := Lib.hid g1; clear g1
  go_enter Try.func6, Try.ntmps6
  go_wp2_with fail
  refine (Image_no a b c _ G1.out).mono ?_
  rintro e w1 ⟨rfl, hb1⟩
  obtain ⟨hc1, hf1⟩ := bcell hb1
  have hz1 := hb1.size
  try simp at hz1
  have hl1_0 : w.heap.size < w1.heap.size := by omega
  go_wp2_with fail
  refine (rImage_no a b c _ G1.out).mono ?_
  rintro e w2 ⟨rfl, hb2⟩
  obtain ⟨hc2, hf2⟩ := bcell hb2
  have hz2 := hb2.size
  try simp at hz2
  have hl2_0 : w.heap.size < w2.heap.size := by omega
  go_wp2_with fail
  have hS : w2.cell? ⟨w.heap.size, 0, none⟩ = some (.int .i64 a) ∧ w2.cell? ⟨w.heap.size, 1, none⟩ = some (.int .i64 b) ∧ w2.cell? ⟨w.heap.size, 2, none⟩ = some (.int .i64 c) ∧ Below w.heap.size w w2 ∧ w.heap.size < w2.heap.size := by
    refine ⟨by simp [hc2, hc1, hl1_0], by simp [hc2, hc1, hl1_0], by simp [hc2, hc1, hl1_0], ?_, hl2_0⟩
    repeat (first | with_reducible exact Below.refl _ _ | with_reducible refine ext_alloc ?_ _ | with_reducible refine ext_drew ?_ | with_reducible refine ext_drewN ?_ _ | (refine ext_setCell ?_ (by simp at *; omega) _) | with_reducible refine ext_trans ?_ (by assumption))
  clear hc1 hf1 hc2 hf2
  go_region_held3 (fun w' => w'.cell? ⟨w.heap.size, 0, none⟩ = some (.int .i64 a) ∧ w'.cell? ⟨w.heap.size, 1, none⟩ = some (.int .i64 b) ∧ w'.cell? ⟨w.heap.size, 2, none⟩ = some (.int .i64 c) ∧ Below w.heap.size w w' ∧ w.heap.size < w'.heap.size)
    (first | assumption | exact keep3 hS (ext_drew (Below.refl _ _)) | exact keep3 (by assumption) (by assumption))
    (first | (go_at_call 16; refine (check_no a b c _ G1.out).mono ?_; rintro e w3 ⟨rfl, hb3⟩) | (go_at_call 17; refine (rcheck_no a b c _ G1.out).mono ?_; rintro e w4 ⟨rfl, hb4⟩) | (go_at_call 11; refine (awake _).mono ?_; rintro e w5 ⟨rfl, hb5⟩))
  all_goals
    go_wp2_with fail
    go_ret
    refine ⟨rfl, ?_⟩
    repeat (first | with_reducible exact Below.refl _ _ | with_reducible refine ext_alloc ?_ _ | with_reducible refine ext_drew ?_ | with_reducible refine ext_drewN ?_ _ | (refine ext_setCell ?_ (by simp at *; omega) _) | with_reducible refine ext_trans ?_ (by assumption))

set_option maxRecDepth 100000 in
set_option maxHeartbeats 1000000 in
theorem Numbers  (w : World)  :
    Calls Try.prog 7 #[] w fun e w' => e = .returned (.bool true) ∧ Below w.heap.size w w' := by
  go_enter Try.func7, Try.ntmps7
  go_wp2_with fail
  refine (Image_yes 1024 4096 64 _ (by decide)).mono ?_
  rintro e w1 ⟨rfl, hb1⟩
  obtain ⟨hc1, hf1⟩ := bcell hb1
  have hz1 := hb1.size
  try simp at hz1
  have hl1_0 : w.heap.size < w1.heap.size := by omega
  rw [show image 1024 4096 = 14356 from by decide]
  go_wp2_with fail
  refine (Need_yes 1024 4096 64 64 _ (by decide) (by decide)).mono ?_
  rintro e w2 ⟨rfl, hb2⟩
  obtain ⟨hc2, hf2⟩ := bcell hb2
  have hz2 := hb2.size
  try simp at hz2
  have hl2_0 : w.heap.size < w2.heap.size := by omega
  rw [show need 1024 4096 64 = 453 from by decide]
  go_wp2_with fail
  refine (Plan_ok 65536 1024 1024 4096 64 _ (by decide) (by decide) (by decide)).mono ?_
  rintro e w3 ⟨rfl, hb3⟩
  obtain ⟨hc3, hf3⟩ := bcell hb3
  have hz3 := hb3.size
  try simp at hz3
  have hl3_0 : w.heap.size < w3.heap.size := by omega
  go_wp2_with fail
  refine (Plan_arg 65536 2048 1024 4096 64 _ (by decide) (by decide)).mono ?_
  rintro e w4 ⟨rfl, hb4⟩
  obtain ⟨hc4, hf4⟩ := bcell hb4
  have hz4 := hb4.size
  try simp at hz4
  have hl4_0 : w.heap.size < w4.heap.size := by omega
  have hl4_1 : w3.heap.size < w4.heap.size := by omega
  go_wp2_with fail
  refine (Plan_arg 65537 64 1024 4096 64 _ (by decide) (by decide)).mono ?_
  rintro e w5 ⟨rfl, hb5⟩
  obtain ⟨hc5, hf5⟩ := bcell hb5
  have hz5 := hb5.size
  try simp at hz5
  have hl5_0 : w.heap.size < w5.heap.size := by omega
  have hl5_1 : w3.heap.size < w5.heap.size := by omega
  have hl5_2 : w4.heap.size < w5.heap.size := by omega
  go_wp2_with fail
  refine (Plan_small 452 64 1024 4096 64 _ (by decide) (by decide) (by decide)).mono ?_
  rintro e w6 ⟨rfl, hb6⟩
  obtain ⟨hc6, hf6⟩ := bcell hb6
  have hz6 := hb6.size
  try simp at hz6
  have hl6_0 : w.heap.size < w6.heap.size := by omega
  have hl6_1 : w3.heap.size < w6.heap.size := by omega
  have hl6_2 : w4.heap.size < w6.heap.size := by omega
  have hl6_3 : w5.heap.size < w6.heap.size := by omega
  go_wp2_with fail
  refine (check_no 1025 1 1 _ (by decide)).mono ?_
  rintro e w7 ⟨rfl, hb7⟩
  obtain ⟨hc7, hf7⟩ := bcell hb7
  have hz7 := hb7.size
  try simp at hz7
  have hl7_0 : w.heap.size < w7.heap.size := by omega
  have hl7_1 : w3.heap.size < w7.heap.size := by omega
  have hl7_2 : w4.heap.size < w7.heap.size := by omega
  have hl7_3 : w5.heap.size < w7.heap.size := by omega
  have hl7_4 : w6.heap.size < w7.heap.size := by omega
  go_wp2_with fail
  refine (check_no 1 4097 1 _ (by decide)).mono ?_
  rintro e w8 ⟨rfl, hb8⟩
  obtain ⟨hc8, hf8⟩ := bcell hb8
  have hz8 := hb8.size
  try simp at hz8
  have hl8_0 : w.heap.size < w8.heap.size := by omega
  have hl8_1 : w3.heap.size < w8.heap.size := by omega
  have hl8_2 : w4.heap.size < w8.heap.size := by omega
  have hl8_3 : w5.heap.size < w8.heap.size := by omega
  have hl8_4 : w6.heap.size < w8.heap.size := by omega
  go_wp2_with fail
  refine (check_no 1 1 65 _ (by decide)).mono ?_
  rintro e w9 ⟨rfl, hb9⟩
  obtain ⟨hc9, hf9⟩ := bcell hb9
  have hz9 := hb9.size
  try simp at hz9
  have hl9_0 : w.heap.size < w9.heap.size := by omega
  have hl9_1 : w3.heap.size < w9.heap.size := by omega
  have hl9_2 : w4.heap.size < w9.heap.size := by omega
  have hl9_3 : w5.heap.size < w9.heap.size := by omega
  have hl9_4 : w6.heap.size < w9.heap.size := by omega
  go_wp2_with fail
  refine (awake _).mono ?_
  rintro e w10 ⟨rfl, hb10⟩
  obtain ⟨hc10, hf10⟩ := bcell hb10
  have hz10 := hb10.size
  try simp at hz10
  have hl10_0 : w.heap.size < w10.heap.size := by omega
  have hl10_1 : w3.heap.size < w10.heap.size := by omega
  have hl10_2 : w4.heap.size < w10.heap.size := by omega
  have hl10_3 : w5.heap.size < w10.heap.size := by omega
  have hl10_4 : w6.heap.size < w10.heap.size := by omega
  go_wp2_with fail
  go_ret
  refine ⟨rfl, ?_⟩
  repeat (first | with_reducible exact Below.refl _ _ | with_reducible refine ext_alloc ?_ _ | with_reducible refine ext_drew ?_ | with_reducible refine ext_drewN ?_ _ | (refine ext_setCell ?_ (by simp at *; omega) _) | with_reducible refine ext_trans ?_ (by assumption))

theorem Shapes (a b c : Int) (w : World) :
    Calls Try.prog 6 #[.agg #[.int .i64 a, .int .i64 b, .int .i64 c]] w fun e w' => e = .returned (.bool true) ∧ Below w.heap.size w w' := by
  cases g1 : okS a b c with
  | false => exact Shapes_no a b c w g1
  | true => exact Shapes_yes a b c w g1

-- gangwaylaw09.behind
set_option maxHeartbeats 400000 in
theorem behind (f1 c1 f2 c2 : Int) (w : World) (h1 : 0 ≤ f1) (h2 : f1 ≤ 1000000) (h3 : 0 ≤ c1) (h4 : c1 ≤ 1000000) (h5 : f2 = f1 + c1) (h6 : 1 ≤ c2) :
    Calls Try.prog 18 #[.agg #[.int .i64 f1, .int .i64 c1], .agg #[.int .i64 f2, .int .i64 c2]] w fun e w' => e = .returned (.bool true) ∧ Below w.heap.size w w' := by
  have H5 := Lib.hid h5
  have h7 : (f2 == f1 + c1) = true := by simpa using h5
  clear h5
  go_enter Try.func18, Try.ntmps18
  go_wp2_with fail
  go_ret
  refine ⟨rfl, ?_⟩
  repeat (first | with_reducible exact Below.refl _ _ | with_reducible refine ext_alloc ?_ _ | with_reducible refine ext_drew ?_ | with_reducible refine ext_drewN ?_ _ | (refine ext_setCell ?_ (by simp at *; omega) _) | with_reducible refine ext_trans ?_ (by assumption))

set_option maxRecDepth 100000 in
set_option maxHeartbeats 1000000 in
theorem Lies_shape (n m a b c : Int) (w : World) (g1 : okS a b c = false) :
    Calls Try.prog 8 #[.int .i64 n, .int .i64 m, .agg #[.int .i64 a, .int .i64 b, .int .i64 c]] w fun e w' => e = .returned (.bool true) ∧ Below w.heap.size w w' := by
  have G1 := Lib.hid g1; clear g1
  go_enter Try.func8, Try.ntmps8
  go_wp2_with fail
  refine (awake _).mono ?_
  rintro e w1 ⟨rfl, hb1⟩
  obtain ⟨hc1, hf1⟩ := bcell hb1
  have hz1 := hb1.size
  try simp at hz1
  have hl1_0 : w.heap.size < w1.heap.size := by omega
  go_wp2_with fail
  refine (Plan_shape n m a b c _ G1.out).mono ?_
  rintro e w2 ⟨rfl, hb2⟩
  obtain ⟨hc2, hf2⟩ := bcell hb2
  have hz2 := hb2.size
  try simp at hz2
  have hl2_0 : w.heap.size < w2.heap.size := by omega
  go_wp2_with fail
  refine (Need_shape a b c m _ G1.out).mono ?_
  rintro e w3 ⟨rfl, hb3⟩
  obtain ⟨hc3, hf3⟩ := bcell hb3
  have hz3 := hb3.size
  try simp at hz3
  have hl3_0 : w.heap.size < w3.heap.size := by omega
  have hl3_1 : w2.heap.size < w3.heap.size := by omega
  go_wp2_with fail
  refine (Image_no a b c _ G1.out).mono ?_
  rintro e w4 ⟨rfl, hb4⟩
  obtain ⟨hc4, hf4⟩ := bcell hb4
  have hz4 := hb4.size
  try simp at hz4
  have hl4_0 : w.heap.size < w4.heap.size := by omega
  have hl4_1 : w2.heap.size < w4.heap.size := by omega
  go_wp2_with fail
  go_ret
  refine ⟨rfl, ?_⟩
  repeat (first | with_reducible exact Below.refl _ _ | with_reducible refine ext_alloc ?_ _ | with_reducible refine ext_drew ?_ | with_reducible refine ext_drewN ?_ _ | (refine ext_setCell ?_ (by simp at *; omega) _) | with_reducible refine ext_trans ?_ (by assumption))

set_option maxRecDepth 100000 in
set_option maxHeartbeats 1000000 in
theorem Lies_arg1 (n m a b c : Int) (w : World) (g1 : okS a b c = true) (g2 : okD n m = false) (g3 : okZ m = true) :
    Calls Try.prog 8 #[.int .i64 n, .int .i64 m, .agg #[.int .i64 a, .int .i64 b, .int .i64 c]] w fun e w' => e = .returned (.bool true) ∧ Below w.heap.size w w' := by
  have G1 := Lib.hid g1; clear g1
  have G2 := Lib.hid g2; clear g2
  have G3 := Lib.hid g3; clear g3
  go_enter Try.func8, Try.ntmps8
  go_wp2_with fail
  refine (awake _).mono ?_
  rintro e w1 ⟨rfl, hb1⟩
  obtain ⟨hc1, hf1⟩ := bcell hb1
  have hz1 := hb1.size
  try simp at hz1
  have hl1_0 : w.heap.size < w1.heap.size := by omega
  go_wp2_with fail
  refine (Plan_arg n m a b c _ G1.out G2.out).mono ?_
  rintro e w2 ⟨rfl, hb2⟩
  obtain ⟨hc2, hf2⟩ := bcell hb2
  have hz2 := hb2.size
  try simp at hz2
  have hl2_0 : w.heap.size < w2.heap.size := by omega
  go_wp2_with fail
  refine (Need_yes a b c m _ G1.out G3.out).mono ?_
  rintro e w3 ⟨rfl, hb3⟩
  obtain ⟨hc3, hf3⟩ := bcell hb3
  have hz3 := hb3.size
  try simp at hz3
  have hl3_0 : w.heap.size < w3.heap.size := by omega
  have hl3_1 : w2.heap.size < w3.heap.size := by omega
  go_wp2_with fail
  refine (Image_yes a b c _ G1.out).mono ?_
  rintro e w4 ⟨rfl, hb4⟩
  obtain ⟨hc4, hf4⟩ := bcell hb4
  have hz4 := hb4.size
  try simp at hz4
  have hl4_0 : w.heap.size < w4.heap.size := by omega
  have hl4_1 : w2.heap.size < w4.heap.size := by omega
  go_wp2_with fail
  go_ret
  refine ⟨rfl, ?_⟩
  repeat (first | with_reducible exact Below.refl _ _ | with_reducible refine ext_alloc ?_ _ | with_reducible refine ext_drew ?_ | with_reducible refine ext_drewN ?_ _ | (refine ext_setCell ?_ (by simp at *; omega) _) | with_reducible refine ext_trans ?_ (by assumption))

set_option maxRecDepth 100000 in
set_option maxHeartbeats 1000000 in
theorem Lies_arg2 (n m a b c : Int) (w : World) (g1 : okS a b c = true) (g2 : okD n m = false) (g3 : okZ m = false) :
    Calls Try.prog 8 #[.int .i64 n, .int .i64 m, .agg #[.int .i64 a, .int .i64 b, .int .i64 c]] w fun e w' => e = .returned (.bool true) ∧ Below w.heap.size w w' := by
  have G1 := Lib.hid g1; clear g1
  have G2 := Lib.hid g2; clear g2
  have G3 := Lib.hid g3; clear g3
  go_enter Try.func8, Try.ntmps8
  go_wp2_with fail
  refine (awake _).mono ?_
  rintro e w1 ⟨rfl, hb1⟩
  obtain ⟨hc1, hf1⟩ := bcell hb1
  have hz1 := hb1.size
  try simp at hz1
  have hl1_0 : w.heap.size < w1.heap.size := by omega
  go_wp2_with fail
  refine (Plan_arg n m a b c _ G1.out G2.out).mono ?_
  rintro e w2 ⟨rfl, hb2⟩
  obtain ⟨hc2, hf2⟩ := bcell hb2
  have hz2 := hb2.size
  try simp at hz2
  have hl2_0 : w.heap.size < w2.heap.size := by omega
  go_wp2_with fail
  refine (Need_arg a b c m _ G1.out G3.out).mono ?_
  rintro e w3 ⟨rfl, hb3⟩
  obtain ⟨hc3, hf3⟩ := bcell hb3
  have hz3 := hb3.size
  try simp at hz3
  have hl3_0 : w.heap.size < w3.heap.size := by omega
  have hl3_1 : w2.heap.size < w3.heap.size := by omega
  go_wp2_with fail
  refine (Image_yes a b c _ G1.out).mono ?_
  rintro e w4 ⟨rfl, hb4⟩
  obtain ⟨hc4, hf4⟩ := bcell hb4
  have hz4 := hb4.size
  try simp at hz4
  have hl4_0 : w.heap.size < w4.heap.size := by omega
  have hl4_1 : w2.heap.size < w4.heap.size := by omega
  go_wp2_with fail
  go_ret
  refine ⟨rfl, ?_⟩
  repeat (first | with_reducible exact Below.refl _ _ | with_reducible refine ext_alloc ?_ _ | with_reducible refine ext_drew ?_ | with_reducible refine ext_drewN ?_ _ | (refine ext_setCell ?_ (by simp at *; omega) _) | with_reducible refine ext_trans ?_ (by assumption))

set_option maxRecDepth 100000 in
set_option maxHeartbeats 1000000 in
theorem Lies_small (n m a b c : Int) (w : World) (g1 : okS a b c = true) (g2 : okD n m = true) (g3 : okZ m = true) (g4 : n < need a b m) :
    Calls Try.prog 8 #[.int .i64 n, .int .i64 m, .agg #[.int .i64 a, .int .i64 b, .int .i64 c]] w fun e w' => e = .returned (.bool true) ∧ Below w.heap.size w w' := by
  have G1 := Lib.hid g1; clear g1
  have G2 := Lib.hid g2; clear g2
  have G3 := Lib.hid g3; clear g3
  have G4 := Lib.hid g4; skip
  go_enter Try.func8, Try.ntmps8
  go_wp2_with fail
  refine (awake _).mono ?_
  rintro e w1 ⟨rfl, hb1⟩
  obtain ⟨hc1, hf1⟩ := bcell hb1
  have hz1 := hb1.size
  try simp at hz1
  have hl1_0 : w.heap.size < w1.heap.size := by omega
  go_wp2_with fail
  refine (Plan_small n m a b c _ G1.out G2.out G4.out).mono ?_
  rintro e w2 ⟨rfl, hb2⟩
  obtain ⟨hc2, hf2⟩ := bcell hb2
  have hz2 := hb2.size
  try simp at hz2
  have hl2_0 : w.heap.size < w2.heap.size := by omega
  go_wp2_with fail
  refine (Need_yes a b c m _ G1.out G3.out).mono ?_
  rintro e w3 ⟨rfl, hb3⟩
  obtain ⟨hc3, hf3⟩ := bcell hb3
  have hz3 := hb3.size
  try simp at hz3
  have hl3_0 : w.heap.size < w3.heap.size := by omega
  have hl3_1 : w2.heap.size < w3.heap.size := by omega
  go_wp2_with fail
  refine (Image_yes a b c _ G1.out).mono ?_
  rintro e w4 ⟨rfl, hb4⟩
  obtain ⟨hc4, hf4⟩ := bcell hb4
  have hz4 := hb4.size
  try simp at hz4
  have hl4_0 : w.heap.size < w4.heap.size := by omega
  have hl4_1 : w2.heap.size < w4.heap.size := by omega
  go_wp2_with fail
  go_ret
  refine ⟨rfl, ?_⟩
  repeat (first | with_reducible exact Below.refl _ _ | with_reducible refine ext_alloc ?_ _ | with_reducible refine ext_drew ?_ | with_reducible refine ext_drewN ?_ _ | (refine ext_setCell ?_ (by simp at *; omega) _) | with_reducible refine ext_trans ?_ (by assumption))

set_option maxRecDepth 100000 in
set_option maxHeartbeats 1000000 in
theorem Lies_ok (n m a b c : Int) (w : World) (g1 : okS a b c = true) (g2 : okD n m = true) (g3 : okZ m = true) (g4 : need a b m ≤ n) :
    Calls Try.prog 8 #[.int .i64 n, .int .i64 m, .agg #[.int .i64 a, .int .i64 b, .int .i64 c]] w fun e w' => e = .returned (.bool true) ∧ Below w.heap.size w w' := by
  obtain ⟨h1, h2, h3, h4, h5, h6, h7, h8, h9, h10, h11, h12, h13, h14⟩ := okay g1 g3
  obtain ⟨d1, d2, d3, d4⟩ := okD_yes g2
  clear d3
  have f0 : 2 * slot a b m + up 54 m ≤ n := g4
  have f1 : image a b ≤ (slot a b m - 1) * m := by
    have := (@up_le (up (image a b) m) (image a b) m (by omega)).1 (Int.le_refl _)
    unfold slot; rw [show (1 + up (image a b) m - 1) = up (image a b) m from by omega]; exact this
  have f2 : (slot a b m - 2) * m < image a b := by
    have := (@lt_up (up (image a b) m - 1) (image a b) m (by omega)).1 (by omega)
    unfold slot; rw [show (1 + up (image a b) m - 2) = up (image a b) m - 1 from by omega]; exact this
  have f3 : 54 ≤ (n - 2 * slot a b m) * m := by
    have e1 := (@up_le (up 54 m) 54 m (by omega)).1 (Int.le_refl _)
    have e2 : up 54 m * m ≤ (n - 2 * slot a b m) * m := Int.mul_le_mul_of_nonneg_right (by omega) (by omega)
    omega
  have f4 : (slot a b m - 1) * m ≤ 14357 * 4096 := Int.mul_le_mul (by omega) h8 (by omega) (by omega)
  have f5 : 0 ≤ (slot a b m - 2) * m := Int.mul_nonneg (by omega) (by omega)
  have f6 : (n - 2 * slot a b m) * m ≤ 65536 * 4096 := Int.mul_le_mul (by omega) h8 (by omega) (by omega)
  have G1 := Lib.hid g1; clear g1
  have G2 := Lib.hid g2; clear g2
  have G3 := Lib.hid g3; clear g3
  have G4 := Lib.hid g4; skip
  go_enter Try.func8, Try.ntmps8
  go_wp2_with fail
  refine (awake _).mono ?_
  rintro e w1 ⟨rfl, hb1⟩
  obtain ⟨hc1, hf1⟩ := bcell hb1
  have hz1 := hb1.size
  try simp at hz1
  have hl1_0 : w.heap.size < w1.heap.size := by omega
  go_wp2_with fail
  refine (Plan_ok n m a b c _ G1.out G2.out G4.out).mono ?_
  rintro e w2 ⟨rfl, hb2⟩
  obtain ⟨hc2, hf2⟩ := bcell hb2
  have hz2 := hb2.size
  try simp at hz2
  have hl2_0 : w.heap.size < w2.heap.size := by omega
  go_wp2_with fail
  refine (Need_yes a b c m _ G1.out G3.out).mono ?_
  rintro e w3 ⟨rfl, hb3⟩
  obtain ⟨hc3, hf3⟩ := bcell hb3
  have hz3 := hb3.size
  try simp at hz3
  have hl3_0 : w.heap.size < w3.heap.size := by omega
  have hl3_1 : w2.heap.size < w3.heap.size := by omega
  go_wp2_with fail
  refine (Image_yes a b c _ G1.out).mono ?_
  rintro e w4 ⟨rfl, hb4⟩
  obtain ⟨hc4, hf4⟩ := bcell hb4
  have hz4 := hb4.size
  try simp at hz4
  have hl4_0 : w.heap.size < w4.heap.size := by omega
  have hl4_1 : w2.heap.size < w4.heap.size := by omega
  go_wp2_with fail
  refine (behind 0 (slot a b m) (slot a b m) (slot a b m) _ (by omega) (by omega) (by omega) (by omega) (by omega) (by omega)).mono ?_
  rintro e w5 ⟨rfl, hb5⟩
  obtain ⟨hc5, hf5⟩ := bcell hb5
  have hz5 := hb5.size
  try simp at hz5
  have hl5_0 : w.heap.size < w5.heap.size := by omega
  have hl5_1 : w2.heap.size < w5.heap.size := by omega
  go_wp2_with fail
  refine (behind (slot a b m) (slot a b m) (2 * slot a b m) (n - 2 * slot a b m) _ (by omega) (by omega) (by omega) (by omega) (by omega) (by omega)).mono ?_
  rintro e w6 ⟨rfl, hb6⟩
  obtain ⟨hc6, hf6⟩ := bcell hb6
  have hz6 := hb6.size
  try simp at hz6
  have hl6_0 : w.heap.size < w6.heap.size := by omega
  have hl6_1 : w2.heap.size < w6.heap.size := by omega
  go_wp2_with fail
  go_ret
  refine ⟨rfl, ?_⟩
  repeat (first | with_reducible exact Below.refl _ _ | with_reducible refine ext_alloc ?_ _ | with_reducible refine ext_drew ?_ | with_reducible refine ext_drewN ?_ _ | (refine ext_setCell ?_ (by simp at *; omega) _) | with_reducible refine ext_trans ?_ (by assumption))

theorem Lies (n m a b c : Int) (w : World) :
    Calls Try.prog 8 #[.int .i64 n, .int .i64 m, .agg #[.int .i64 a, .int .i64 b, .int .i64 c]] w fun e w' => e = .returned (.bool true) ∧ Below w.heap.size w w' := by
  cases g1 : okS a b c with
  | false => exact Lies_shape n m a b c w g1
  | true =>
    cases g2 : okD n m with
    | false =>
      cases g3 : okZ m with
      | false => exact Lies_arg2 n m a b c w g1 g2 g3
      | true => exact Lies_arg1 n m a b c w g1 g2 g3
    | true =>
      by_cases g4 : n < need a b m
      · exact Lies_small n m a b c w g1 g2 (okD_yes g2).2.2.1 g4
      · exact Lies_ok n m a b c w g1 g2 (okD_yes g2).2.2.1 (by omega)

end Go.Proofs.Ytkgobemiggbaaaa.Geo
