/- The walk of GeometryGrows: one sector more is one of the log's; a greater shape needs no fewer sectors. -/
import Derived.Test.YtkgobemiggbaaaaGeoLaws
namespace Go.Proofs.Ytkgobemiggbaaaa.Geo
open Go.RowKit

theorem need_mono {a b a' b' m : Int} (h : a ≤ a') (h' : b ≤ b') (hm : 1 ≤ m) : need a b m ≤ need a' b' m := by
  have := @up_mono (image a b) (image a' b') m (by unfold image; omega) hm
  unfold need slot
  omega

def planOk (n m a b c : Int) : Bool := okS a b c && (okD n m && decide (need a b m ≤ n))
theorem planOk_yes {n m a b c : Int} (h : planOk n m a b c = true) : okS a b c = true ∧ okD n m = true ∧ need a b m ≤ n := by
  simpa [planOk] using h

theorem Plan_good (n m a b c : Int) (w : World) (h : planOk n m a b c = true) :
    Calls Try.prog 12 #[.int .i64 n, .int .i64 m, .agg #[.int .i64 a, .int .i64 b, .int .i64 c]] w fun e w' => e = .returned (.tuple #[.agg #[.int .i64 m, .int .i64 0, .int .i64 (slot a b m), .int .i64 (slot a b m), .int .i64 (slot a b m), .int .i64 (2 * slot a b m), .int .i64 (n - 2 * slot a b m)], .int .i64 0]) ∧ Below w.heap.size w w' := by
  obtain ⟨h1, h2, h3⟩ := planOk_yes h
  exact Plan_ok n m a b c w h1 h2 h3
theorem Plan_bad (n m a b c : Int) (w : World) (h : planOk n m a b c = false) :
    Calls Try.prog 12 #[.int .i64 n, .int .i64 m, .agg #[.int .i64 a, .int .i64 b, .int .i64 c]] w fun e w' => ∃ er : Int, (er == 0) = false ∧ e = .returned (.tuple #[.agg #[.int .i64 0, .int .i64 0, .int .i64 0, .int .i64 0, .int .i64 0, .int .i64 0, .int .i64 0], .int .i64 er]) ∧ Below w.heap.size w w' := by
  cases g1 : okS a b c with
  | false => exact (Plan_shape n m a b c w g1).mono fun e w' h => ⟨90, by decide, h⟩
  | true =>
    cases g2 : okD n m with
    | false => exact (Plan_arg n m a b c w g1 g2).mono fun e w' h => ⟨2, by decide, h⟩
    | true =>
      refine (Plan_small n m a b c w g1 g2 ?_).mono fun e w' h => ⟨91, by decide, h⟩
      simp [planOk, g1, g2] at h
      omega
theorem Plan_some (n m a b c : Int) (w : World) :
    Calls Try.prog 12 #[.int .i64 n, .int .i64 m, .agg #[.int .i64 a, .int .i64 b, .int .i64 c]] w fun e w' => ∃ x0 x1 x2 x3 x4 x5 x6 er : Int, e = .returned (.tuple #[.agg #[.int .i64 x0, .int .i64 x1, .int .i64 x2, .int .i64 x3, .int .i64 x4, .int .i64 x5, .int .i64 x6], .int .i64 er]) ∧ Below w.heap.size w w' := by
  cases g : planOk n m a b c with
  | true => exact (Plan_good n m a b c w g).mono fun e w' h => ⟨_, _, _, _, _, _, _, _, h⟩
  | false => exact (Plan_bad n m a b c w g).mono fun e w' ⟨er, _, h⟩ => ⟨_, _, _, _, _, _, _, _, h⟩

def needOk (a b c m : Int) : Bool := okS a b c && okZ m
theorem needOk_yes {a b c m : Int} (h : needOk a b c m = true) : okS a b c = true ∧ okZ m = true := by
  simpa [needOk] using h
theorem needOk_of {n a b c m : Int} (h : planOk n m a b c = true) : needOk a b c m = true := by
  obtain ⟨h1, h2, _⟩ := planOk_yes h
  simp [needOk, h1, (okD_yes h2).2.2.1]
theorem needOk_third {a b c c' ua ub m : Int} (h : needOk a b c m = true) (h' : needOk ua ub c' m = true) : needOk a b c' m = true := by
  obtain ⟨h1, h2⟩ := needOk_yes h
  have h3 := okS_yes h1
  have h4 := okS_yes (needOk_yes h').1
  simp [needOk, h2, okS]
  omega

theorem Need_good (a b c m : Int) (w : World) (h : needOk a b c m = true) :
    Calls Try.prog 9 #[.agg #[.int .i64 a, .int .i64 b, .int .i64 c], .int .i64 m] w fun e w' => e = .returned (.tuple #[.int .i64 (need a b m), .int .i64 0]) ∧ Below w.heap.size w w' := by
  obtain ⟨h1, h2⟩ := needOk_yes h
  exact Need_yes a b c m w h1 h2
theorem Need_bad (a b c m : Int) (w : World) (h : needOk a b c m = false) :
    Calls Try.prog 9 #[.agg #[.int .i64 a, .int .i64 b, .int .i64 c], .int .i64 m] w fun e w' => ∃ er : Int, (er == 0) = false ∧ (er != 0) = true ∧ e = .returned (.tuple #[.int .i64 0, .int .i64 er]) ∧ Below w.heap.size w w' := by
  cases g1 : okS a b c with
  | false => exact (Need_shape a b c m w g1).mono fun e w' h => ⟨90, by decide, by decide, h⟩
  | true =>
    cases g2 : okZ m with
    | false => exact (Need_arg a b c m w g1 g2).mono fun e w' h => ⟨2, by decide, by decide, h⟩
    | true => simp [needOk, g1, g2] at h
theorem Need_some (a b c m : Int) (w : World) :
    Calls Try.prog 9 #[.agg #[.int .i64 a, .int .i64 b, .int .i64 c], .int .i64 m] w fun e w' => ∃ x er : Int, e = .returned (.tuple #[.int .i64 x, .int .i64 er]) ∧ Below w.heap.size w w' := by
  cases g : needOk a b c m with
  | true => exact (Need_good a b c m w g).mono fun e w' h => ⟨_, _, h⟩
  | false => exact (Need_bad a b c m w g).mono fun e w' ⟨er, _, _, h⟩ => ⟨_, _, h⟩

set_option maxRecDepth 100000 in
set_option maxHeartbeats 1000000 in
theorem Grows_okok_gg (n m a b c a' b' c' ua ub : Int) (w : World) (m1 : (if a < a' then a' else a) = ua) (m2 : (if b < b' then b' else b) = ub) (g1 : planOk n m a b c = true) (g2 : planOk (n + 1) m a b c = true) (g3 : needOk a b c m = true) (g4 : needOk ua ub c' m = true) :
    Calls Try.prog 5 #[.int .i64 n, .int .i64 m, .agg #[.int .i64 a, .int .i64 b, .int .i64 c], .agg #[.int .i64 a', .int .i64 b', .int .i64 c']] w fun e w' => e = .returned (.bool true) ∧ Below w.heap.size w w' := by
  obtain ⟨d1, d2, d3⟩ := planOk_yes g1
  obtain ⟨d4, d5, _, d7⟩ := okD_yes d2
  obtain ⟨h1, h2, h3, h4, h5, h6, h7, h8, h9, h10, h11, h12, h13, h14⟩ := okay d1 (okD_yes d2).2.2.1
  clear d1 d2 d3 d7
  have hq : (n - 2 * slot a b m + 1 == n + 1 - 2 * slot a b m) = true := by simp; omega
  have g5 := needOk_third g3 g4
  have hq1 : need a b m ≤ need ua ub m := by
    obtain ⟨h1, h2⟩ := needOk_yes g3
    have := okZ_iff.1 h2
    exact need_mono (by split at m1 <;> omega) (by split at m2 <;> omega) (by omega)
  have G1 := Lib.hid g1; clear g1
  have G2 := Lib.hid g2; clear g2
  have G3 := Lib.hid g3; clear g3
  have G4 := Lib.hid g4; clear g4
  have G5 := Lib.hid g5; clear g5
  go_enter Try.func5, Try.ntmps5
  go_wp2_with fail
  refine (awake _).mono ?_
  rintro e w1 ⟨rfl, hb1⟩
  obtain ⟨hc1, hf1⟩ := bcell hb1
  have hz1 := hb1.size
  try simp at hz1
  have hl1_0 : w.heap.size < w1.heap.size := by omega
  have hl1_1 : w.heap.size + 1 < w1.heap.size := by omega
  go_wp2_with fail
  refine (Plan_good n m a b c _ G1.out).mono ?_
  rintro e w2 ⟨rfl, hb2⟩
  obtain ⟨hc2, hf2⟩ := bcell hb2
  have hz2 := hb2.size
  try simp at hz2
  have hl2_0 : w.heap.size < w2.heap.size := by omega
  have hl2_1 : w.heap.size + 1 < w2.heap.size := by omega
  go_wp2_with fail
  refine (Plan_good (n + 1) m a b c _ G2.out).mono ?_
  rintro e w3 ⟨rfl, hb3⟩
  obtain ⟨hc3, hf3⟩ := bcell hb3
  have hz3 := hb3.size
  try simp at hz3
  have hl3_0 : w.heap.size < w3.heap.size := by omega
  have hl3_1 : w.heap.size + 1 < w3.heap.size := by omega
  have hl3_2 : w2.heap.size < w3.heap.size := by omega
  go_wp2_with fail
  refine (Need_good a b c m _ G3.out).mono ?_
  rintro e w4 ⟨rfl, hb4⟩
  obtain ⟨hc4, hf4⟩ := bcell hb4
  have hz4 := hb4.size
  try simp at hz4
  have hl4_0 : w.heap.size < w4.heap.size := by omega
  have hl4_1 : w.heap.size + 1 < w4.heap.size := by omega
  have hl4_2 : w2.heap.size < w4.heap.size := by omega
  have hl4_3 : w3.heap.size < w4.heap.size := by omega
  go_wp2_with fail
  refine (Need_good ua ub c' m _ G4.out).mono ?_
  rintro e w5 ⟨rfl, hb5⟩
  obtain ⟨hc5, hf5⟩ := bcell hb5
  have hz5 := hb5.size
  try simp at hz5
  have hl5_0 : w.heap.size < w5.heap.size := by omega
  have hl5_1 : w.heap.size + 1 < w5.heap.size := by omega
  have hl5_2 : w2.heap.size < w5.heap.size := by omega
  have hl5_3 : w3.heap.size < w5.heap.size := by omega
  have hl5_4 : w4.heap.size < w5.heap.size := by omega
  go_wp2_with fail
  refine (Need_good a b c' m _ G5.out).mono ?_
  rintro e w6 ⟨rfl, hb6⟩
  obtain ⟨hc6, hf6⟩ := bcell hb6
  have hz6 := hb6.size
  try simp at hz6
  have hl6_0 : w.heap.size < w6.heap.size := by omega
  have hl6_1 : w.heap.size + 1 < w6.heap.size := by omega
  have hl6_2 : w2.heap.size < w6.heap.size := by omega
  have hl6_3 : w3.heap.size < w6.heap.size := by omega
  have hl6_4 : w4.heap.size < w6.heap.size := by omega
  go_wp2_with fail
  go_ret
  refine ⟨rfl, ?_⟩
  repeat (first | with_reducible exact Below.refl _ _ | with_reducible refine ext_alloc ?_ _ | with_reducible refine ext_drew ?_ | with_reducible refine ext_drewN ?_ _ | (refine ext_setCell ?_ (by simp at *; omega) _) | with_reducible refine ext_trans ?_ (by assumption))

set_option maxRecDepth 100000 in
set_option maxHeartbeats 1000000 in
theorem Grows_okok_gb (n m a b c a' b' c' ua ub : Int) (w : World) (m1 : (if a < a' then a' else a) = ua) (m2 : (if b < b' then b' else b) = ub) (g1 : planOk n m a b c = true) (g2 : planOk (n + 1) m a b c = true) (g3 : needOk a b c m = true) (g4 : needOk ua ub c' m = false) :
    Calls Try.prog 5 #[.int .i64 n, .int .i64 m, .agg #[.int .i64 a, .int .i64 b, .int .i64 c], .agg #[.int .i64 a', .int .i64 b', .int .i64 c']] w fun e w' => e = .returned (.bool true) ∧ Below w.heap.size w w' := by
  obtain ⟨d1, d2, d3⟩ := planOk_yes g1
  obtain ⟨d4, d5, _, d7⟩ := okD_yes d2
  obtain ⟨h1, h2, h3, h4, h5, h6, h7, h8, h9, h10, h11, h12, h13, h14⟩ := okay d1 (okD_yes d2).2.2.1
  clear d1 d2 d3 d7
  have hq : (n - 2 * slot a b m + 1 == n + 1 - 2 * slot a b m) = true := by simp; omega
  have G1 := Lib.hid g1; clear g1
  have G2 := Lib.hid g2; clear g2
  have G3 := Lib.hid g3; clear g3
  have G4 := Lib.hid g4; clear g4
  go_enter Try.func5, Try.ntmps5
  go_wp2_with fail
  refine (awake _).mono ?_
  rintro e w1 ⟨rfl, hb1⟩
  obtain ⟨hc1, hf1⟩ := bcell hb1
  have hz1 := hb1.size
  try simp at hz1
  have hl1_0 : w.heap.size < w1.heap.size := by omega
  have hl1_1 : w.heap.size + 1 < w1.heap.size := by omega
  go_wp2_with fail
  refine (Plan_good n m a b c _ G1.out).mono ?_
  rintro e w2 ⟨rfl, hb2⟩
  obtain ⟨hc2, hf2⟩ := bcell hb2
  have hz2 := hb2.size
  try simp at hz2
  have hl2_0 : w.heap.size < w2.heap.size := by omega
  have hl2_1 : w.heap.size + 1 < w2.heap.size := by omega
  go_wp2_with fail
  refine (Plan_good (n + 1) m a b c _ G2.out).mono ?_
  rintro e w3 ⟨rfl, hb3⟩
  obtain ⟨hc3, hf3⟩ := bcell hb3
  have hz3 := hb3.size
  try simp at hz3
  have hl3_0 : w.heap.size < w3.heap.size := by omega
  have hl3_1 : w.heap.size + 1 < w3.heap.size := by omega
  have hl3_2 : w2.heap.size < w3.heap.size := by omega
  go_wp2_with fail
  refine (Need_good a b c m _ G3.out).mono ?_
  rintro e w4 ⟨rfl, hb4⟩
  obtain ⟨hc4, hf4⟩ := bcell hb4
  have hz4 := hb4.size
  try simp at hz4
  have hl4_0 : w.heap.size < w4.heap.size := by omega
  have hl4_1 : w.heap.size + 1 < w4.heap.size := by omega
  have hl4_2 : w2.heap.size < w4.heap.size := by omega
  have hl4_3 : w3.heap.size < w4.heap.size := by omega
  go_wp2_with fail
  refine (Need_bad ua ub c' m _ G4.out).mono ?_
  rintro e w5 ⟨er_5, he_5, hn_5, rfl, hb5⟩
  obtain ⟨hc5, hf5⟩ := bcell hb5
  have hz5 := hb5.size
  try simp at hz5
  have hl5_0 : w.heap.size < w5.heap.size := by omega
  have hl5_1 : w.heap.size + 1 < w5.heap.size := by omega
  have hl5_2 : w2.heap.size < w5.heap.size := by omega
  have hl5_3 : w3.heap.size < w5.heap.size := by omega
  have hl5_4 : w4.heap.size < w5.heap.size := by omega
  go_wp2_with fail
  go_ret
  refine ⟨rfl, ?_⟩
  repeat (first | with_reducible exact Below.refl _ _ | with_reducible refine ext_alloc ?_ _ | with_reducible refine ext_drew ?_ | with_reducible refine ext_drewN ?_ _ | (refine ext_setCell ?_ (by simp at *; omega) _) | with_reducible refine ext_trans ?_ (by assumption))

set_option maxRecDepth 100000 in
set_option maxHeartbeats 1000000 in
theorem Grows_okbad_gg (n m a b c a' b' c' ua ub : Int) (w : World) (m1 : (if a < a' then a' else a) = ua) (m2 : (if b < b' then b' else b) = ub) (g1 : planOk n m a b c = true) (g2 : planOk (n + 1) m a b c = false) (g3 : needOk a b c m = true) (g4 : needOk ua ub c' m = true) :
    Calls Try.prog 5 #[.int .i64 n, .int .i64 m, .agg #[.int .i64 a, .int .i64 b, .int .i64 c], .agg #[.int .i64 a', .int .i64 b', .int .i64 c']] w fun e w' => e = .returned (.bool true) ∧ Below w.heap.size w w' := by
  obtain ⟨d1, d2, d3⟩ := planOk_yes g1
  obtain ⟨d4, d5, _, d7⟩ := okD_yes d2
  obtain ⟨h1, h2, h3, h4, h5, h6, h7, h8, h9, h10, h11, h12, h13, h14⟩ := okay d1 (okD_yes d2).2.2.1
  clear d1 d2 d3 d7
  have g5 := needOk_third g3 g4
  have hq1 : need a b m ≤ need ua ub m := by
    obtain ⟨h1, h2⟩ := needOk_yes g3
    have := okZ_iff.1 h2
    exact need_mono (by split at m1 <;> omega) (by split at m2 <;> omega) (by omega)
  have G1 := Lib.hid g1; clear g1
  have G2 := Lib.hid g2; clear g2
  have G3 := Lib.hid g3; clear g3
  have G4 := Lib.hid g4; clear g4
  have G5 := Lib.hid g5; clear g5
  go_enter Try.func5, Try.ntmps5
  go_wp2_with fail
  refine (awake _).mono ?_
  rintro e w1 ⟨rfl, hb1⟩
  obtain ⟨hc1, hf1⟩ := bcell hb1
  have hz1 := hb1.size
  try simp at hz1
  have hl1_0 : w.heap.size < w1.heap.size := by omega
  have hl1_1 : w.heap.size + 1 < w1.heap.size := by omega
  go_wp2_with fail
  refine (Plan_good n m a b c _ G1.out).mono ?_
  rintro e w2 ⟨rfl, hb2⟩
  obtain ⟨hc2, hf2⟩ := bcell hb2
  have hz2 := hb2.size
  try simp at hz2
  have hl2_0 : w.heap.size < w2.heap.size := by omega
  have hl2_1 : w.heap.size + 1 < w2.heap.size := by omega
  go_wp2_with fail
  refine (Plan_bad (n + 1) m a b c _ G2.out).mono ?_
  rintro e w3 ⟨er_3, he_3, rfl, hb3⟩
  obtain ⟨hc3, hf3⟩ := bcell hb3
  have hz3 := hb3.size
  try simp at hz3
  have hl3_0 : w.heap.size < w3.heap.size := by omega
  have hl3_1 : w.heap.size + 1 < w3.heap.size := by omega
  have hl3_2 : w2.heap.size < w3.heap.size := by omega
  go_wp2_with fail
  refine (Need_good a b c m _ G3.out).mono ?_
  rintro e w4 ⟨rfl, hb4⟩
  obtain ⟨hc4, hf4⟩ := bcell hb4
  have hz4 := hb4.size
  try simp at hz4
  have hl4_0 : w.heap.size < w4.heap.size := by omega
  have hl4_1 : w.heap.size + 1 < w4.heap.size := by omega
  have hl4_2 : w2.heap.size < w4.heap.size := by omega
  have hl4_3 : w3.heap.size < w4.heap.size := by omega
  go_wp2_with fail
  refine (Need_good ua ub c' m _ G4.out).mono ?_
  rintro e w5 ⟨rfl, hb5⟩
  obtain ⟨hc5, hf5⟩ := bcell hb5
  have hz5 := hb5.size
  try simp at hz5
  have hl5_0 : w.heap.size < w5.heap.size := by omega
  have hl5_1 : w.heap.size + 1 < w5.heap.size := by omega
  have hl5_2 : w2.heap.size < w5.heap.size := by omega
  have hl5_3 : w3.heap.size < w5.heap.size := by omega
  have hl5_4 : w4.heap.size < w5.heap.size := by omega
  go_wp2_with fail
  refine (Need_good a b c' m _ G5.out).mono ?_
  rintro e w6 ⟨rfl, hb6⟩
  obtain ⟨hc6, hf6⟩ := bcell hb6
  have hz6 := hb6.size
  try simp at hz6
  have hl6_0 : w.heap.size < w6.heap.size := by omega
  have hl6_1 : w.heap.size + 1 < w6.heap.size := by omega
  have hl6_2 : w2.heap.size < w6.heap.size := by omega
  have hl6_3 : w3.heap.size < w6.heap.size := by omega
  have hl6_4 : w4.heap.size < w6.heap.size := by omega
  go_wp2_with fail
  go_ret
  refine ⟨rfl, ?_⟩
  repeat (first | with_reducible exact Below.refl _ _ | with_reducible refine ext_alloc ?_ _ | with_reducible refine ext_drew ?_ | with_reducible refine ext_drewN ?_ _ | (refine ext_setCell ?_ (by simp at *; omega) _) | with_reducible refine ext_trans ?_ (by assumption))

set_option maxRecDepth 100000 in
set_option maxHeartbeats 1000000 in
theorem Grows_okbad_gb (n m a b c a' b' c' ua ub : Int) (w : World) (m1 : (if a < a' then a' else a) = ua) (m2 : (if b < b' then b' else b) = ub) (g1 : planOk n m a b c = true) (g2 : planOk (n + 1) m a b c = false) (g3 : needOk a b c m = true) (g4 : needOk ua ub c' m = false) :
    Calls Try.prog 5 #[.int .i64 n, .int .i64 m, .agg #[.int .i64 a, .int .i64 b, .int .i64 c], .agg #[.int .i64 a', .int .i64 b', .int .i64 c']] w fun e w' => e = .returned (.bool true) ∧ Below w.heap.size w w' := by
  obtain ⟨d1, d2, d3⟩ := planOk_yes g1
  obtain ⟨d4, d5, _, d7⟩ := okD_yes d2
  obtain ⟨h1, h2, h3, h4, h5, h6, h7, h8, h9, h10, h11, h12, h13, h14⟩ := okay d1 (okD_yes d2).2.2.1
  clear d1 d2 d3 d7
  have G1 := Lib.hid g1; clear g1
  have G2 := Lib.hid g2; clear g2
  have G3 := Lib.hid g3; clear g3
  have G4 := Lib.hid g4; clear g4
  go_enter Try.func5, Try.ntmps5
  go_wp2_with fail
  refine (awake _).mono ?_
  rintro e w1 ⟨rfl, hb1⟩
  obtain ⟨hc1, hf1⟩ := bcell hb1
  have hz1 := hb1.size
  try simp at hz1
  have hl1_0 : w.heap.size < w1.heap.size := by omega
  have hl1_1 : w.heap.size + 1 < w1.heap.size := by omega
  go_wp2_with fail
  refine (Plan_good n m a b c _ G1.out).mono ?_
  rintro e w2 ⟨rfl, hb2⟩
  obtain ⟨hc2, hf2⟩ := bcell hb2
  have hz2 := hb2.size
  try simp at hz2
  have hl2_0 : w.heap.size < w2.heap.size := by omega
  have hl2_1 : w.heap.size + 1 < w2.heap.size := by omega
  go_wp2_with fail
  refine (Plan_bad (n + 1) m a b c _ G2.out).mono ?_
  rintro e w3 ⟨er_3, he_3, rfl, hb3⟩
  obtain ⟨hc3, hf3⟩ := bcell hb3
  have hz3 := hb3.size
  try simp at hz3
  have hl3_0 : w.heap.size < w3.heap.size := by omega
  have hl3_1 : w.heap.size + 1 < w3.heap.size := by omega
  have hl3_2 : w2.heap.size < w3.heap.size := by omega
  go_wp2_with fail
  refine (Need_good a b c m _ G3.out).mono ?_
  rintro e w4 ⟨rfl, hb4⟩
  obtain ⟨hc4, hf4⟩ := bcell hb4
  have hz4 := hb4.size
  try simp at hz4
  have hl4_0 : w.heap.size < w4.heap.size := by omega
  have hl4_1 : w.heap.size + 1 < w4.heap.size := by omega
  have hl4_2 : w2.heap.size < w4.heap.size := by omega
  have hl4_3 : w3.heap.size < w4.heap.size := by omega
  go_wp2_with fail
  refine (Need_bad ua ub c' m _ G4.out).mono ?_
  rintro e w5 ⟨er_5, he_5, hn_5, rfl, hb5⟩
  obtain ⟨hc5, hf5⟩ := bcell hb5
  have hz5 := hb5.size
  try simp at hz5
  have hl5_0 : w.heap.size < w5.heap.size := by omega
  have hl5_1 : w.heap.size + 1 < w5.heap.size := by omega
  have hl5_2 : w2.heap.size < w5.heap.size := by omega
  have hl5_3 : w3.heap.size < w5.heap.size := by omega
  have hl5_4 : w4.heap.size < w5.heap.size := by omega
  go_wp2_with fail
  go_ret
  refine ⟨rfl, ?_⟩
  repeat (first | with_reducible exact Below.refl _ _ | with_reducible refine ext_alloc ?_ _ | with_reducible refine ext_drew ?_ | with_reducible refine ext_drewN ?_ _ | (refine ext_setCell ?_ (by simp at *; omega) _) | with_reducible refine ext_trans ?_ (by assumption))

set_option maxRecDepth 100000 in
set_option maxHeartbeats 1000000 in
theorem Grows_bad_gg (n m a b c a' b' c' ua ub : Int) (w : World) (m1 : (if a < a' then a' else a) = ua) (m2 : (if b < b' then b' else b) = ub) (g1 : planOk n m a b c = false) (g3 : needOk a b c m = true) (g4 : needOk ua ub c' m = true) :
    Calls Try.prog 5 #[.int .i64 n, .int .i64 m, .agg #[.int .i64 a, .int .i64 b, .int .i64 c], .agg #[.int .i64 a', .int .i64 b', .int .i64 c']] w fun e w' => e = .returned (.bool true) ∧ Below w.heap.size w w' := by
  have g5 := needOk_third g3 g4
  have hq1 : need a b m ≤ need ua ub m := by
    obtain ⟨h1, h2⟩ := needOk_yes g3
    have := okZ_iff.1 h2
    exact need_mono (by split at m1 <;> omega) (by split at m2 <;> omega) (by omega)
  have G1 := Lib.hid g1; clear g1
  have G3 := Lib.hid g3; clear g3
  have G4 := Lib.hid g4; clear g4
  have G5 := Lib.hid g5; clear g5
  go_enter Try.func5, Try.ntmps5
  go_wp2_with fail
  refine (awake _).mono ?_
  rintro e w1 ⟨rfl, hb1⟩
  obtain ⟨hc1, hf1⟩ := bcell hb1
  have hz1 := hb1.size
  try simp at hz1
  have hl1_0 : w.heap.size < w1.heap.size := by omega
  have hl1_1 : w.heap.size + 1 < w1.heap.size := by omega
  go_wp2_with fail
  refine (Plan_bad n m a b c _ G1.out).mono ?_
  rintro e w2 ⟨er_2, he_2, rfl, hb2⟩
  obtain ⟨hc2, hf2⟩ := bcell hb2
  have hz2 := hb2.size
  try simp at hz2
  have hl2_0 : w.heap.size < w2.heap.size := by omega
  have hl2_1 : w.heap.size + 1 < w2.heap.size := by omega
  go_wp2_with fail
  refine (Plan_some _ m a b c _).mono ?_
  rintro e w3 ⟨x0_3, x1_3, x2_3, x3_3, x4_3, x5_3, x6_3, er_3, rfl, hb3⟩
  obtain ⟨hc3, hf3⟩ := bcell hb3
  have hz3 := hb3.size
  try simp at hz3
  have hl3_0 : w.heap.size < w3.heap.size := by omega
  have hl3_1 : w.heap.size + 1 < w3.heap.size := by omega
  have hl3_2 : w2.heap.size < w3.heap.size := by omega
  go_wp2_with fail
  refine (Need_good a b c m _ G3.out).mono ?_
  rintro e w4 ⟨rfl, hb4⟩
  obtain ⟨hc4, hf4⟩ := bcell hb4
  have hz4 := hb4.size
  try simp at hz4
  have hl4_0 : w.heap.size < w4.heap.size := by omega
  have hl4_1 : w.heap.size + 1 < w4.heap.size := by omega
  have hl4_2 : w2.heap.size < w4.heap.size := by omega
  have hl4_3 : w3.heap.size < w4.heap.size := by omega
  go_wp2_with fail
  refine (Need_good ua ub c' m _ G4.out).mono ?_
  rintro e w5 ⟨rfl, hb5⟩
  obtain ⟨hc5, hf5⟩ := bcell hb5
  have hz5 := hb5.size
  try simp at hz5
  have hl5_0 : w.heap.size < w5.heap.size := by omega
  have hl5_1 : w.heap.size + 1 < w5.heap.size := by omega
  have hl5_2 : w2.heap.size < w5.heap.size := by omega
  have hl5_3 : w3.heap.size < w5.heap.size := by omega
  have hl5_4 : w4.heap.size < w5.heap.size := by omega
  go_wp2_with fail
  refine (Need_good a b c' m _ G5.out).mono ?_
  rintro e w6 ⟨rfl, hb6⟩
  obtain ⟨hc6, hf6⟩ := bcell hb6
  have hz6 := hb6.size
  try simp at hz6
  have hl6_0 : w.heap.size < w6.heap.size := by omega
  have hl6_1 : w.heap.size + 1 < w6.heap.size := by omega
  have hl6_2 : w2.heap.size < w6.heap.size := by omega
  have hl6_3 : w3.heap.size < w6.heap.size := by omega
  have hl6_4 : w4.heap.size < w6.heap.size := by omega
  go_wp2_with fail
  go_ret
  refine ⟨rfl, ?_⟩
  repeat (first | with_reducible exact Below.refl _ _ | with_reducible refine ext_alloc ?_ _ | with_reducible refine ext_drew ?_ | with_reducible refine ext_drewN ?_ _ | (refine ext_setCell ?_ (by simp at *; omega) _) | with_reducible refine ext_trans ?_ (by assumption))

set_option maxRecDepth 100000 in
set_option maxHeartbeats 1000000 in
theorem Grows_bad_gb (n m a b c a' b' c' ua ub : Int) (w : World) (m1 : (if a < a' then a' else a) = ua) (m2 : (if b < b' then b' else b) = ub) (g1 : planOk n m a b c = false) (g3 : needOk a b c m = true) (g4 : needOk ua ub c' m = false) :
    Calls Try.prog 5 #[.int .i64 n, .int .i64 m, .agg #[.int .i64 a, .int .i64 b, .int .i64 c], .agg #[.int .i64 a', .int .i64 b', .int .i64 c']] w fun e w' => e = .returned (.bool true) ∧ Below w.heap.size w w' := by
  have G1 := Lib.hid g1; clear g1
  have G3 := Lib.hid g3; clear g3
  have G4 := Lib.hid g4; clear g4
  go_enter Try.func5, Try.ntmps5
  go_wp2_with fail
  refine (awake _).mono ?_
  rintro e w1 ⟨rfl, hb1⟩
  obtain ⟨hc1, hf1⟩ := bcell hb1
  have hz1 := hb1.size
  try simp at hz1
  have hl1_0 : w.heap.size < w1.heap.size := by omega
  have hl1_1 : w.heap.size + 1 < w1.heap.size := by omega
  go_wp2_with fail
  refine (Plan_bad n m a b c _ G1.out).mono ?_
  rintro e w2 ⟨er_2, he_2, rfl, hb2⟩
  obtain ⟨hc2, hf2⟩ := bcell hb2
  have hz2 := hb2.size
  try simp at hz2
  have hl2_0 : w.heap.size < w2.heap.size := by omega
  have hl2_1 : w.heap.size + 1 < w2.heap.size := by omega
  go_wp2_with fail
  refine (Plan_some _ m a b c _).mono ?_
  rintro e w3 ⟨x0_3, x1_3, x2_3, x3_3, x4_3, x5_3, x6_3, er_3, rfl, hb3⟩
  obtain ⟨hc3, hf3⟩ := bcell hb3
  have hz3 := hb3.size
  try simp at hz3
  have hl3_0 : w.heap.size < w3.heap.size := by omega
  have hl3_1 : w.heap.size + 1 < w3.heap.size := by omega
  have hl3_2 : w2.heap.size < w3.heap.size := by omega
  go_wp2_with fail
  refine (Need_good a b c m _ G3.out).mono ?_
  rintro e w4 ⟨rfl, hb4⟩
  obtain ⟨hc4, hf4⟩ := bcell hb4
  have hz4 := hb4.size
  try simp at hz4
  have hl4_0 : w.heap.size < w4.heap.size := by omega
  have hl4_1 : w.heap.size + 1 < w4.heap.size := by omega
  have hl4_2 : w2.heap.size < w4.heap.size := by omega
  have hl4_3 : w3.heap.size < w4.heap.size := by omega
  go_wp2_with fail
  refine (Need_bad ua ub c' m _ G4.out).mono ?_
  rintro e w5 ⟨er_5, he_5, hn_5, rfl, hb5⟩
  obtain ⟨hc5, hf5⟩ := bcell hb5
  have hz5 := hb5.size
  try simp at hz5
  have hl5_0 : w.heap.size < w5.heap.size := by omega
  have hl5_1 : w.heap.size + 1 < w5.heap.size := by omega
  have hl5_2 : w2.heap.size < w5.heap.size := by omega
  have hl5_3 : w3.heap.size < w5.heap.size := by omega
  have hl5_4 : w4.heap.size < w5.heap.size := by omega
  go_wp2_with fail
  go_ret
  refine ⟨rfl, ?_⟩
  repeat (first | with_reducible exact Below.refl _ _ | with_reducible refine ext_alloc ?_ _ | with_reducible refine ext_drew ?_ | with_reducible refine ext_drewN ?_ _ | (refine ext_setCell ?_ (by simp at *; omega) _) | with_reducible refine ext_trans ?_ (by assumption))

set_option maxRecDepth 100000 in
set_option maxHeartbeats 1000000 in
theorem Grows_bad_b (n m a b c a' b' c' ua ub : Int) (w : World) (m1 : (if a < a' then a' else a) = ua) (m2 : (if b < b' then b' else b) = ub) (g1 : planOk n m a b c = false) (g3 : needOk a b c m = false) :
    Calls Try.prog 5 #[.int .i64 n, .int .i64 m, .agg #[.int .i64 a, .int .i64 b, .int .i64 c], .agg #[.int .i64 a', .int .i64 b', .int .i64 c']] w fun e w' => e = .returned (.bool true) ∧ Below w.heap.size w w' := by
  have G1 := Lib.hid g1; clear g1
  have G3 := Lib.hid g3; clear g3
  go_enter Try.func5, Try.ntmps5
  go_wp2_with fail
  refine (awake _).mono ?_
  rintro e w1 ⟨rfl, hb1⟩
  obtain ⟨hc1, hf1⟩ := bcell hb1
  have hz1 := hb1.size
  try simp at hz1
  have hl1_0 : w.heap.size < w1.heap.size := by omega
  have hl1_1 : w.heap.size + 1 < w1.heap.size := by omega
  go_wp2_with fail
  refine (Plan_bad n m a b c _ G1.out).mono ?_
  rintro e w2 ⟨er_2, he_2, rfl, hb2⟩
  obtain ⟨hc2, hf2⟩ := bcell hb2
  have hz2 := hb2.size
  try simp at hz2
  have hl2_0 : w.heap.size < w2.heap.size := by omega
  have hl2_1 : w.heap.size + 1 < w2.heap.size := by omega
  go_wp2_with fail
  refine (Plan_some _ m a b c _).mono ?_
  rintro e w3 ⟨x0_3, x1_3, x2_3, x3_3, x4_3, x5_3, x6_3, er_3, rfl, hb3⟩
  obtain ⟨hc3, hf3⟩ := bcell hb3
  have hz3 := hb3.size
  try simp at hz3
  have hl3_0 : w.heap.size < w3.heap.size := by omega
  have hl3_1 : w.heap.size + 1 < w3.heap.size := by omega
  have hl3_2 : w2.heap.size < w3.heap.size := by omega
  go_wp2_with fail
  refine (Need_bad a b c m _ G3.out).mono ?_
  rintro e w4 ⟨er_4, he_4, hn_4, rfl, hb4⟩
  obtain ⟨hc4, hf4⟩ := bcell hb4
  have hz4 := hb4.size
  try simp at hz4
  have hl4_0 : w.heap.size < w4.heap.size := by omega
  have hl4_1 : w.heap.size + 1 < w4.heap.size := by omega
  have hl4_2 : w2.heap.size < w4.heap.size := by omega
  have hl4_3 : w3.heap.size < w4.heap.size := by omega
  go_wp2_with fail
  refine (Need_some ua ub c' m _).mono ?_
  rintro e w5 ⟨x_5, er_5, rfl, hb5⟩
  obtain ⟨hc5, hf5⟩ := bcell hb5
  have hz5 := hb5.size
  try simp at hz5
  have hl5_0 : w.heap.size < w5.heap.size := by omega
  have hl5_1 : w.heap.size + 1 < w5.heap.size := by omega
  have hl5_2 : w2.heap.size < w5.heap.size := by omega
  have hl5_3 : w3.heap.size < w5.heap.size := by omega
  have hl5_4 : w4.heap.size < w5.heap.size := by omega
  go_wp2_with fail
  go_ret
  refine ⟨rfl, ?_⟩
  repeat (first | with_reducible exact Below.refl _ _ | with_reducible refine ext_alloc ?_ _ | with_reducible refine ext_drew ?_ | with_reducible refine ext_drewN ?_ _ | (refine ext_setCell ?_ (by simp at *; omega) _) | with_reducible refine ext_trans ?_ (by assumption))

theorem Grows (n m a b c a' b' c' : Int) (w : World) :
    Calls Try.prog 5 #[.int .i64 n, .int .i64 m, .agg #[.int .i64 a, .int .i64 b, .int .i64 c], .agg #[.int .i64 a', .int .i64 b', .int .i64 c']] w fun e w' => e = .returned (.bool true) ∧ Below w.heap.size w w' := by
  cases g1 : planOk n m a b c with
  | false =>
    cases g3 : needOk a b c m with
    | false => exact Grows_bad_b n m a b c a' b' c' _ _ w rfl rfl g1 g3
    | true =>
      cases g4 : needOk (if a < a' then a' else a) (if b < b' then b' else b) c' m with
      | false => exact Grows_bad_gb n m a b c a' b' c' _ _ w rfl rfl g1 g3 g4
      | true => exact Grows_bad_gg n m a b c a' b' c' _ _ w rfl rfl g1 g3 g4
  | true =>
    have g3 := needOk_of g1
    cases g2 : planOk (n + 1) m a b c with
    | false =>
      cases g4 : needOk (if a < a' then a' else a) (if b < b' then b' else b) c' m with
      | false => exact Grows_okbad_gb n m a b c a' b' c' _ _ w rfl rfl g1 g2 g3 g4
      | true => exact Grows_okbad_gg n m a b c a' b' c' _ _ w rfl rfl g1 g2 g3 g4
    | true =>
      cases g4 : needOk (if a < a' then a' else a) (if b < b' then b' else b) c' m with
      | false => exact Grows_okok_gb n m a b c a' b' c' _ _ w rfl rfl g1 g2 g3 g4
      | true => exact Grows_okok_gg n m a b c a' b' c' _ _ w rfl rfl g1 g2 g3 g4

end Go.Proofs.Ytkgobemiggbaaaa.Geo
