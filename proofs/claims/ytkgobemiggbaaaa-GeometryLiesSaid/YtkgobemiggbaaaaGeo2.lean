/- The contracts of the geometry layer and of its reference, second part: slots, needs, disks, plans; and the law's own 'awake'. -/
import Derived.Test.YtkgobemiggbaaaaGeo
namespace Go.Proofs.Ytkgobemiggbaaaa.Geo
open Go.RowKit

-- geometry.slot
set_option maxHeartbeats 400000 in
theorem slot_calls (a b c m : Int) (w : World) (h : okS a b c = true) (h' : okZ m = true) :
    Calls Try.prog 20 #[.agg #[.int .i64 a, .int .i64 b, .int .i64 c], .int .i64 m] w fun e w' => e = .returned (.int .i64 (slot a b m)) ∧ Below w.heap.size w w' := by
  obtain ⟨h1, h2, h3, h4, h5, h6, h7, h8, h9, h10, h11, h12, h13, h14⟩ := okay h h'
  clear h h'
  have h15 : 0 ≤ up (image a b) m := by unfold slot at h11; omega
  have h16 : up (image a b) m ≤ 20000 := by unfold slot at h12; omega
  go_enter Try.func20, Try.ntmps20
  go_wp2_with fail
  refine (image_calls a b c _ h1 h2 h3 h4).mono ?_
  rintro e w1 ⟨rfl, hb⟩
  go_wp2_with fail
  refine (up_calls (image a b) m _ (by omega) (by omega) (by omega) h8).mono ?_
  rintro e w2 ⟨rfl, rfl⟩
  go_wp2_with fail
  go_ret
  exact ⟨rfl, ((Below.refl _ _).alloc (Nat.le_refl _) _).trans (hb.mono (by simp))⟩

-- gangwayref09.slot
set_option maxHeartbeats 400000 in
theorem rslot_calls (a b c m : Int) (w : World) (h : okS a b c = true) (h' : okZ m = true) :
    Calls Try.prog 23 #[.agg #[.int .i64 a, .int .i64 b, .int .i64 c], .int .i64 m] w fun e w' => e = .returned (.int .i64 (slot a b m)) ∧ Below w.heap.size w w' := by
  have H := Lib.hid h
  obtain ⟨h1, h2, h3, h4, h5, h6, h7, h8, h9, h10, h11, h12, h13, h14⟩ := okay h h'
  clear h h'
  have h15 : 0 ≤ up (image a b) m := by unfold slot at h11; omega
  have h16 : up (image a b) m ≤ 20000 := by unfold slot at h12; omega
  go_enter Try.func23, Try.ntmps23
  go_wp2_with fail
  refine (rImage_yes a b c _ H.out).mono ?_
  rintro e w1 ⟨rfl, hb⟩
  go_wp2_with fail
  refine (hold (image a b) m _ (by omega) (by omega) (by omega) h8).mono ?_
  rintro e w2 ⟨rfl, rfl⟩
  go_wp2_with fail
  go_ret
  exact ⟨rfl, ((Below.refl _ _).alloc (Nat.le_refl _) _).trans (hb.mono (by simp))⟩

-- geometry.Need
set_option maxHeartbeats 400000 in
theorem Need_yes (a b c m : Int) (w : World) (h : okS a b c = true) (h' : okZ m = true) :
    Calls Try.prog 9 #[.agg #[.int .i64 a, .int .i64 b, .int .i64 c], .int .i64 m] w fun e w' => e = .returned (.tuple #[.int .i64 (need a b m), .int .i64 0]) ∧ Below w.heap.size w w' := by
  have H := Lib.hid h
  have H' := Lib.hid h'
  obtain ⟨h1, h2, h3, h4, h5, h6, h7, h8, h9, h10, h11, h12, h13, h14⟩ := okay h h'
  clear h h'
  go_enter Try.func9, Try.ntmps9
  go_wp2_with fail
  refine (check_yes a b c _ H.out).mono ?_
  rintro e w1 ⟨rfl, hb⟩
  obtain ⟨hc, hf⟩ := bcell hb
  go_wp2_with fail
  refine (sized m _).mono ?_
  rintro e w2 ⟨rfl, rfl⟩
  rw [H'.out]
  go_wp2_with fail
  refine (slot_calls a b c m _ H.out H'.out).mono ?_
  rintro e w2 ⟨rfl, hb2⟩
  go_wp2_with fail
  refine (up_calls 54 m _ (by omega) (by omega) (by omega) h8).mono ?_
  rintro e w3 ⟨rfl, rfl⟩
  go_wp2_with fail
  go_ret2
  exact ⟨rfl, (((Below.refl _ _).alloc (Nat.le_refl _) _).trans (hb.mono (by simp))).trans (hb2.mono (by have := hb.size; simp at this; omega))⟩
set_option maxHeartbeats 400000 in
theorem Need_arg (a b c m : Int) (w : World) (h : okS a b c = true) (h' : okZ m = false) :
    Calls Try.prog 9 #[.agg #[.int .i64 a, .int .i64 b, .int .i64 c], .int .i64 m] w fun e w' => e = .returned (.tuple #[.int .i64 0, .int .i64 2]) ∧ Below w.heap.size w w' := by
  have H := Lib.hid h
  have H' := Lib.hid h'
  clear h h'
  go_enter Try.func9, Try.ntmps9
  go_wp2_with fail
  refine (check_yes a b c _ H.out).mono ?_
  rintro e w1 ⟨rfl, hb⟩
  obtain ⟨hc, hf⟩ := bcell hb
  go_wp2_with fail
  refine (sized m _).mono ?_
  rintro e w2 ⟨rfl, rfl⟩
  rw [H'.out]
  go_wp2_with fail
  go_ret2
  exact ⟨rfl, ((Below.refl _ _).alloc (Nat.le_refl _) _).trans (hb.mono (by simp))⟩
set_option maxHeartbeats 400000 in
theorem Need_shape (a b c m : Int) (w : World) (h : okS a b c = false) :
    Calls Try.prog 9 #[.agg #[.int .i64 a, .int .i64 b, .int .i64 c], .int .i64 m] w fun e w' => e = .returned (.tuple #[.int .i64 0, .int .i64 90]) ∧ Below w.heap.size w w' := by
  have H := Lib.hid h; clear h
  go_enter Try.func9, Try.ntmps9
  go_wp2_with fail
  refine (check_no a b c _ H.out).mono ?_
  rintro e w1 ⟨rfl, hb⟩
  go_wp2_with fail
  go_ret2
  exact ⟨rfl, ((Below.refl _ _).alloc (Nat.le_refl _) _).trans (hb.mono (by simp))⟩

-- gangwayref09.Need
set_option maxHeartbeats 400000 in
theorem rNeed_yes (a b c m : Int) (w : World) (h : okS a b c = true) (h' : okZ m = true) :
    Calls Try.prog 10 #[.agg #[.int .i64 a, .int .i64 b, .int .i64 c], .int .i64 m] w fun e w' => e = .returned (.tuple #[.int .i64 (need a b m), .int .i64 0]) ∧ Below w.heap.size w w' := by
  have H := Lib.hid h
  have H' := Lib.hid h'
  obtain ⟨h1, h2, h3, h4, h5, h6, h7, h8, h9, h10, h11, h12, h13, h14⟩ := okay h h'
  clear h h'
  go_enter Try.func10, Try.ntmps10
  go_wp2_with fail
  refine (rcheck_yes a b c _ H.out).mono ?_
  rintro e w1 ⟨rfl, hb⟩
  obtain ⟨hc, hf⟩ := bcell hb
  go_wp2_with fail
  refine (Size m _).mono ?_
  rintro e w2 ⟨rfl, rfl⟩
  rw [H'.out]
  go_wp2_with fail
  refine (rslot_calls a b c m _ H.out H'.out).mono ?_
  rintro e w2 ⟨rfl, hb2⟩
  go_wp2_with fail
  refine (hold 54 m _ (by omega) (by omega) (by omega) h8).mono ?_
  rintro e w3 ⟨rfl, rfl⟩
  go_wp2_with fail
  go_ret2
  exact ⟨rfl, (((Below.refl _ _).alloc (Nat.le_refl _) _).trans (hb.mono (by simp))).trans (hb2.mono (by have := hb.size; simp at this; omega))⟩
set_option maxHeartbeats 400000 in
theorem rNeed_arg (a b c m : Int) (w : World) (h : okS a b c = true) (h' : okZ m = false) :
    Calls Try.prog 10 #[.agg #[.int .i64 a, .int .i64 b, .int .i64 c], .int .i64 m] w fun e w' => e = .returned (.tuple #[.int .i64 0, .int .i64 2]) ∧ Below w.heap.size w w' := by
  have H := Lib.hid h
  have H' := Lib.hid h'
  clear h h'
  go_enter Try.func10, Try.ntmps10
  go_wp2_with fail
  refine (rcheck_yes a b c _ H.out).mono ?_
  rintro e w1 ⟨rfl, hb⟩
  obtain ⟨hc, hf⟩ := bcell hb
  go_wp2_with fail
  refine (Size m _).mono ?_
  rintro e w2 ⟨rfl, rfl⟩
  rw [H'.out]
  go_wp2_with fail
  go_ret2
  exact ⟨rfl, ((Below.refl _ _).alloc (Nat.le_refl _) _).trans (hb.mono (by simp))⟩
set_option maxHeartbeats 400000 in
theorem rNeed_shape (a b c m : Int) (w : World) (h : okS a b c = false) :
    Calls Try.prog 10 #[.agg #[.int .i64 a, .int .i64 b, .int .i64 c], .int .i64 m] w fun e w' => e = .returned (.tuple #[.int .i64 0, .int .i64 90]) ∧ Below w.heap.size w w' := by
  have H := Lib.hid h; clear h
  go_enter Try.func10, Try.ntmps10
  go_wp2_with fail
  refine (rcheck_no a b c _ H.out).mono ?_
  rintro e w1 ⟨rfl, hb⟩
  go_wp2_with fail
  go_ret2
  exact ⟨rfl, ((Below.refl _ _).alloc (Nat.le_refl _) _).trans (hb.mono (by simp))⟩

-- gangwayref09.Disk
set_option maxHeartbeats 400000 in
theorem Disk (n m : Int) (w : World) :
    Calls Try.prog 25 #[.int .i64 n, .int .i64 m] w fun e w' => e = .returned (.bool (okD n m)) ∧ w = w' := by
  by_cases h1 : 1 ≤ n
  · by_cases h2 : n ≤ 65536
    · cases h3 : okZ m with
      | true =>
        have h4 := okZ_iff.1 h3
        have h5 : m ≤ 4096 := by omega
        have h6 : 64 ≤ m := by omega
        clear h4
        have H3 := Lib.hid h3
        clear h3
        have h7 : n * m ≤ 65536 * 4096 := Int.mul_le_mul h2 h5 (by omega) (by omega)
        have h8 : 0 ≤ n * m := Int.mul_nonneg (by omega) (by omega)
        go_enter Try.func25, Try.ntmps25
        go_wp2_with fail
        refine (Size m _).mono ?_
        rintro e w2 ⟨rfl, rfl⟩
        rw [H3.out]
        go_wp2_with fail
        go_ret
        exact ⟨ret_bool (by simp [okD, H3.out, h1, h2]), rfl⟩
      | false =>
        have H3 := Lib.hid h3
        clear h3
        go_enter Try.func25, Try.ntmps25
        go_wp2_with fail
        refine (Size m _).mono ?_
        rintro e w2 ⟨rfl, rfl⟩
        rw [H3.out]
        go_wp2_with fail
        go_ret
        exact ⟨ret_bool (by simp [okD, H3.out]), rfl⟩
    · go_enter Try.func25, Try.ntmps25
      go_wp2_with fail
      go_ret
      exact ⟨ret_bool (by simp [okD]; omega), rfl⟩
  · go_enter Try.func25, Try.ntmps25
    go_wp2_with fail
    go_ret
    exact ⟨ret_bool (by simp [okD]; omega), rfl⟩

theorem okD_yes {n m : Int} (h : okD n m = true) : 1 ≤ n ∧ n ≤ 65536 ∧ okZ m = true ∧ n * m ≤ 67108864 := by
  simpa [okD] using h

-- geometry.Plan
set_option maxHeartbeats 400000 in
theorem Plan_shape (n m a b c : Int) (w : World) (h : okS a b c = false) :
    Calls Try.prog 12 #[.int .i64 n, .int .i64 m, .agg #[.int .i64 a, .int .i64 b, .int .i64 c]] w fun e w' => e = .returned (.tuple #[.agg #[.int .i64 0, .int .i64 0, .int .i64 0, .int .i64 0, .int .i64 0, .int .i64 0, .int .i64 0], .int .i64 90]) ∧ Below w.heap.size w w' := by
  have H := Lib.hid h; clear h
  go_enter Try.func12, Try.ntmps12
  go_wp2_with fail
  refine (check_no a b c _ H.out).mono ?_
  rintro e w1 ⟨rfl, hb⟩
  obtain ⟨hc, hf⟩ := bcell hb
  have hz := hb.size
  simp at hz
  have hl0 : w.heap.size < w1.heap.size := by omega
  have hl1 : w.heap.size + 1 < w1.heap.size := by omega
  go_wp2_with fail
  refine bodyPost_ret (v := .tuple #[.agg #[.int .i64 0, .int .i64 0, .int .i64 0, .int .i64 0, .int .i64 0, .int .i64 0, .int .i64 0], .int .i64 90]) (by simp [results, Try.results12, go_sem, hc, hl0, hl1]) rfl ⟨rfl, ?_⟩
  iterate 7 refine Below.setCell ?_ (by simp) _
  exact (((Below.refl _ _).alloc (Nat.le_refl _) _).alloc (by simp) _).trans (hb.mono (by simp; omega))

set_option maxHeartbeats 400000 in
theorem Plan_arg (n m a b c : Int) (w : World) (h : okS a b c = true) (h' : okD n m = false) :
    Calls Try.prog 12 #[.int .i64 n, .int .i64 m, .agg #[.int .i64 a, .int .i64 b, .int .i64 c]] w fun e w' => e = .returned (.tuple #[.agg #[.int .i64 0, .int .i64 0, .int .i64 0, .int .i64 0, .int .i64 0, .int .i64 0, .int .i64 0], .int .i64 2]) ∧ Below w.heap.size w w' := by
  have H := Lib.hid h; clear h
  have H' := Lib.hid h'; clear h'
  by_cases h1 : 1 ≤ n
  · by_cases h2 : n ≤ 65536
    · cases h3 : okZ m with
      | true =>
        have h4 := okZ_iff.1 h3
        have h5 : m ≤ 4096 := by omega
        have h6 : 64 ≤ m := by omega
        clear h4
        have H3 := Lib.hid h3
        clear h3
        have h7 : n * m ≤ 65536 * 4096 := Int.mul_le_mul h2 h5 (by omega) (by omega)
        have h8 : 67108864 < n * m := by have := H'.out; simp [okD, H3.out, h1, h2] at this; omega
        go_enter Try.func12, Try.ntmps12
        go_wp2_with fail
        refine (check_yes a b c _ H.out).mono ?_
        rintro e w1 ⟨rfl, hb⟩
        obtain ⟨hc, hf⟩ := bcell hb
        have hz := hb.size
        simp at hz
        have hl0 : w.heap.size < w1.heap.size := by omega
        have hl1 : w.heap.size + 1 < w1.heap.size := by omega
        go_wp2_with fail
        refine (sized m _).mono ?_
        rintro e w2 ⟨rfl, rfl⟩
        rw [H3.out]
        go_wp2_with fail
        refine bodyPost_ret (v := .tuple #[.agg #[.int .i64 0, .int .i64 0, .int .i64 0, .int .i64 0, .int .i64 0, .int .i64 0, .int .i64 0], .int .i64 2]) (by simp [results, Try.results12, go_sem, hc, hl0, hl1]) rfl ⟨rfl, ?_⟩
        iterate 7 refine Below.setCell ?_ (by simp) _
        exact (((Below.refl _ _).alloc (Nat.le_refl _) _).alloc (by simp) _).trans (hb.mono (by simp; omega))
      | false =>
        have H3 := Lib.hid h3
        clear h3
        go_enter Try.func12, Try.ntmps12
        go_wp2_with fail
        refine (check_yes a b c _ H.out).mono ?_
        rintro e w1 ⟨rfl, hb⟩
        obtain ⟨hc, hf⟩ := bcell hb
        have hz := hb.size
        simp at hz
        have hl0 : w.heap.size < w1.heap.size := by omega
        have hl1 : w.heap.size + 1 < w1.heap.size := by omega
        go_wp2_with fail
        refine (sized m _).mono ?_
        rintro e w2 ⟨rfl, rfl⟩
        rw [H3.out]
        go_wp2_with fail
        refine bodyPost_ret (v := .tuple #[.agg #[.int .i64 0, .int .i64 0, .int .i64 0, .int .i64 0, .int .i64 0, .int .i64 0, .int .i64 0], .int .i64 2]) (by simp [results, Try.results12, go_sem, hc, hl0, hl1]) rfl ⟨rfl, ?_⟩
        iterate 7 refine Below.setCell ?_ (by simp) _
        exact (((Below.refl _ _).alloc (Nat.le_refl _) _).alloc (by simp) _).trans (hb.mono (by simp; omega))
    · go_enter Try.func12, Try.ntmps12
      go_wp2_with fail
      refine (check_yes a b c _ H.out).mono ?_
      rintro e w1 ⟨rfl, hb⟩
      obtain ⟨hc, hf⟩ := bcell hb
      have hz := hb.size
      simp at hz
      have hl0 : w.heap.size < w1.heap.size := by omega
      have hl1 : w.heap.size + 1 < w1.heap.size := by omega
      go_wp2_with fail
      refine bodyPost_ret (v := .tuple #[.agg #[.int .i64 0, .int .i64 0, .int .i64 0, .int .i64 0, .int .i64 0, .int .i64 0, .int .i64 0], .int .i64 2]) (by simp [results, Try.results12, go_sem, hc, hl0, hl1]) rfl ⟨rfl, ?_⟩
      iterate 7 refine Below.setCell ?_ (by simp) _
      exact (((Below.refl _ _).alloc (Nat.le_refl _) _).alloc (by simp) _).trans (hb.mono (by simp; omega))
  · go_enter Try.func12, Try.ntmps12
    go_wp2_with fail
    refine (check_yes a b c _ H.out).mono ?_
    rintro e w1 ⟨rfl, hb⟩
    obtain ⟨hc, hf⟩ := bcell hb
    have hz := hb.size
    simp at hz
    have hl0 : w.heap.size < w1.heap.size := by omega
    have hl1 : w.heap.size + 1 < w1.heap.size := by omega
    go_wp2_with fail
    refine bodyPost_ret (v := .tuple #[.agg #[.int .i64 0, .int .i64 0, .int .i64 0, .int .i64 0, .int .i64 0, .int .i64 0, .int .i64 0], .int .i64 2]) (by simp [results, Try.results12, go_sem, hc, hl0, hl1]) rfl ⟨rfl, ?_⟩
    iterate 7 refine Below.setCell ?_ (by simp) _
    exact (((Below.refl _ _).alloc (Nat.le_refl _) _).alloc (by simp) _).trans (hb.mono (by simp; omega))

set_option maxHeartbeats 400000 in
theorem Plan_small (n m a b c : Int) (w : World) (h : okS a b c = true) (h' : okD n m = true) (h'' : n < need a b m) :
    Calls Try.prog 12 #[.int .i64 n, .int .i64 m, .agg #[.int .i64 a, .int .i64 b, .int .i64 c]] w fun e w' => e = .returned (.tuple #[.agg #[.int .i64 0, .int .i64 0, .int .i64 0, .int .i64 0, .int .i64 0, .int .i64 0, .int .i64 0], .int .i64 91]) ∧ Below w.heap.size w w' := by
  have hd := okD_yes h'
  obtain ⟨d1, d2, d3, d4⟩ := hd
  have H3 := Lib.hid d3
  obtain ⟨h1, h2, h3, h4, h5, h6, h7, h8, h9, h10, h11, h12, h13, h14⟩ := okay h d3
  have hm0 : 0 ≤ n * m := Int.mul_nonneg (by omega) (by omega)
  have H := Lib.hid h; clear h
  have H' := Lib.hid h'; clear h' d3
  go_enter Try.func12, Try.ntmps12
  go_wp2_with fail
  refine (check_yes a b c _ H.out).mono ?_
  rintro e w1 ⟨rfl, hb⟩
  obtain ⟨hc, hf⟩ := bcell hb
  have hz := hb.size
  simp at hz
  have hl0 : w.heap.size < w1.heap.size := by omega
  have hl1 : w.heap.size + 1 < w1.heap.size := by omega
  go_wp2_with fail
  refine (sized m _).mono ?_
  rintro e w2 ⟨rfl, rfl⟩
  rw [H3.out]
  go_wp2_with fail
  refine (Need_yes a b c m _ H.out H3.out).mono ?_
  rintro e w2 ⟨rfl, hb2⟩
  obtain ⟨hc2, hf2⟩ := bcell hb2
  have hz2 := hb2.size
  have hl20 : w.heap.size < w2.heap.size := by omega
  have hl21 : w.heap.size + 1 < w2.heap.size := by omega
  go_wp2_with fail
  refine bodyPost_ret (v := .tuple #[.agg #[.int .i64 0, .int .i64 0, .int .i64 0, .int .i64 0, .int .i64 0, .int .i64 0, .int .i64 0], .int .i64 91]) (by simp [results, Try.results12, go_sem, hc, hl0, hl1, hc2, hl20, hl21]) rfl ⟨rfl, ?_⟩
  iterate 7 refine Below.setCell ?_ (by simp) _
  exact ((((Below.refl _ _).alloc (Nat.le_refl _) _).alloc (by simp) _).trans (hb.mono (by simp; omega))).trans (hb2.mono (by omega))

set_option maxHeartbeats 400000 in
theorem Plan_ok (n m a b c : Int) (w : World) (h : okS a b c = true) (h' : okD n m = true) (h'' : need a b m ≤ n) :
    Calls Try.prog 12 #[.int .i64 n, .int .i64 m, .agg #[.int .i64 a, .int .i64 b, .int .i64 c]] w fun e w' => e = .returned (.tuple #[.agg #[.int .i64 m, .int .i64 0, .int .i64 (slot a b m), .int .i64 (slot a b m), .int .i64 (slot a b m), .int .i64 (2 * slot a b m), .int .i64 (n - 2 * slot a b m)], .int .i64 0]) ∧ Below w.heap.size w w' := by
  have hd := okD_yes h'
  obtain ⟨d1, d2, d3, d4⟩ := hd
  have H3 := Lib.hid d3
  obtain ⟨h1, h2, h3, h4, h5, h6, h7, h8, h9, h10, h11, h12, h13, h14⟩ := okay h d3
  have hm0 : 0 ≤ n * m := Int.mul_nonneg (by omega) (by omega)
  have H := Lib.hid h; clear h
  have H' := Lib.hid h'; clear h' d3
  go_enter Try.func12, Try.ntmps12
  go_wp2_with fail
  refine (check_yes a b c _ H.out).mono ?_
  rintro e w1 ⟨rfl, hb⟩
  obtain ⟨hc, hf⟩ := bcell hb
  have hz := hb.size
  simp at hz
  have hl0 : w.heap.size < w1.heap.size := by omega
  have hl1 : w.heap.size + 1 < w1.heap.size := by omega
  go_wp2_with fail
  refine (sized m _).mono ?_
  rintro e w2 ⟨rfl, rfl⟩
  rw [H3.out]
  go_wp2_with fail
  refine (Need_yes a b c m _ H.out H3.out).mono ?_
  rintro e w2 ⟨rfl, hb2⟩
  obtain ⟨hc2, hf2⟩ := bcell hb2
  have hz2 := hb2.size
  have hl20 : w.heap.size < w2.heap.size := by omega
  have hl21 : w.heap.size + 1 < w2.heap.size := by omega
  go_wp2_with fail
  refine (slot_calls a b c m _ H.out H3.out).mono ?_
  rintro e w3 ⟨rfl, hb3⟩
  obtain ⟨hc3, hf3⟩ := bcell hb3
  have hz3 := hb3.size
  have hl30 : w.heap.size < w3.heap.size := by omega
  have hl31 : w.heap.size + 1 < w3.heap.size := by omega
  go_wp2_with fail
  refine bodyPost_ret (v := .tuple #[.agg #[.int .i64 m, .int .i64 0, .int .i64 (slot a b m), .int .i64 (slot a b m), .int .i64 (slot a b m), .int .i64 (2 * slot a b m), .int .i64 (n - 2 * slot a b m)], .int .i64 0]) (by simp [results, Try.results12, go_sem, hc, hl0, hl1, hc2, hl20, hl21, hc3, hl30, hl31]) rfl ⟨rfl, ?_⟩
  iterate 7 refine Below.setCell ?_ (by simp) _
  exact (((((Below.refl _ _).alloc (Nat.le_refl _) _).alloc (by simp) _).trans (hb.mono (by simp; omega))).trans (hb2.mono (by omega))).trans (hb3.mono (by omega))

-- gangwayref09.Plan
set_option maxHeartbeats 400000 in
theorem rPlan_shape (n m a b c : Int) (w : World) (h : okS a b c = false) :
    Calls Try.prog 13 #[.int .i64 n, .int .i64 m, .agg #[.int .i64 a, .int .i64 b, .int .i64 c]] w fun e w' => e = .returned (.tuple #[.agg #[.int .i64 0, .int .i64 0, .int .i64 0, .int .i64 0, .int .i64 0, .int .i64 0, .int .i64 0], .int .i64 90]) ∧ Below w.heap.size w w' := by
  have H := Lib.hid h; clear h
  go_enter Try.func13, Try.ntmps13
  go_wp2_with fail
  refine (rcheck_no a b c _ H.out).mono ?_
  rintro e w1 ⟨rfl, hb⟩
  obtain ⟨hc, hf⟩ := bcell hb
  have hz := hb.size
  simp at hz
  have hl0 : w.heap.size < w1.heap.size := by omega
  have hl1 : w.heap.size + 1 < w1.heap.size := by omega
  go_wp2_with fail
  refine bodyPost_ret (v := .tuple #[.agg #[.int .i64 0, .int .i64 0, .int .i64 0, .int .i64 0, .int .i64 0, .int .i64 0, .int .i64 0], .int .i64 90]) (by simp [results, Try.results13, go_sem, hc, hl0, hl1]) rfl ⟨rfl, ?_⟩
  iterate 7 refine Below.setCell ?_ (by simp) _
  exact (((Below.refl _ _).alloc (Nat.le_refl _) _).alloc (by simp) _).trans (hb.mono (by simp; omega))

set_option maxHeartbeats 400000 in
theorem rPlan_arg (n m a b c : Int) (w : World) (h : okS a b c = true) (h' : okD n m = false) :
    Calls Try.prog 13 #[.int .i64 n, .int .i64 m, .agg #[.int .i64 a, .int .i64 b, .int .i64 c]] w fun e w' => e = .returned (.tuple #[.agg #[.int .i64 0, .int .i64 0, .int .i64 0, .int .i64 0, .int .i64 0, .int .i64 0, .int .i64 0], .int .i64 2]) ∧ Below w.heap.size w w' := by
  have H := Lib.hid h; clear h
  have H' := Lib.hid h'; clear h'
  go_enter Try.func13, Try.ntmps13
  go_wp2_with fail
  refine (rcheck_yes a b c _ H.out).mono ?_
  rintro e w1 ⟨rfl, hb⟩
  obtain ⟨hc, hf⟩ := bcell hb
  have hz := hb.size
  simp at hz
  have hl0 : w.heap.size < w1.heap.size := by omega
  have hl1 : w.heap.size + 1 < w1.heap.size := by omega
  go_wp2_with fail
  refine (Disk n m _).mono ?_
  rintro e w2 ⟨rfl, rfl⟩
  rw [H'.out]
  go_wp2_with fail
  refine bodyPost_ret (v := .tuple #[.agg #[.int .i64 0, .int .i64 0, .int .i64 0, .int .i64 0, .int .i64 0, .int .i64 0, .int .i64 0], .int .i64 2]) (by simp [results, Try.results13, go_sem, hc, hl0, hl1]) rfl ⟨rfl, ?_⟩
  iterate 7 refine Below.setCell ?_ (by simp) _
  exact (((Below.refl _ _).alloc (Nat.le_refl _) _).alloc (by simp) _).trans (hb.mono (by simp; omega))

set_option maxHeartbeats 400000 in
theorem rPlan_small (n m a b c : Int) (w : World) (h : okS a b c = true) (h' : okD n m = true) (h'' : n < need a b m) :
    Calls Try.prog 13 #[.int .i64 n, .int .i64 m, .agg #[.int .i64 a, .int .i64 b, .int .i64 c]] w fun e w' => e = .returned (.tuple #[.agg #[.int .i64 0, .int .i64 0, .int .i64 0, .int .i64 0, .int .i64 0, .int .i64 0, .int .i64 0], .int .i64 91]) ∧ Below w.heap.size w w' := by
  have hd := okD_yes h'
  obtain ⟨d1, d2, d3, d4⟩ := hd
  have H3 := Lib.hid d3
  obtain ⟨h1, h2, h3, h4, h5, h6, h7, h8, h9, h10, h11, h12, h13, h14⟩ := okay h d3
  have hm0 : 0 ≤ n * m := Int.mul_nonneg (by omega) (by omega)
  have H := Lib.hid h; clear h
  have H' := Lib.hid h'; clear h' d3
  go_enter Try.func13, Try.ntmps13
  go_wp2_with fail
  refine (rcheck_yes a b c _ H.out).mono ?_
  rintro e w1 ⟨rfl, hb⟩
  obtain ⟨hc, hf⟩ := bcell hb
  have hz := hb.size
  simp at hz
  have hl0 : w.heap.size < w1.heap.size := by omega
  have hl1 : w.heap.size + 1 < w1.heap.size := by omega
  go_wp2_with fail
  refine (Disk n m _).mono ?_
  rintro e w2 ⟨rfl, rfl⟩
  rw [H'.out]
  go_wp2_with fail
  refine (rNeed_yes a b c m _ H.out H3.out).mono ?_
  rintro e w2 ⟨rfl, hb2⟩
  obtain ⟨hc2, hf2⟩ := bcell hb2
  have hz2 := hb2.size
  have hl20 : w.heap.size < w2.heap.size := by omega
  have hl21 : w.heap.size + 1 < w2.heap.size := by omega
  go_wp2_with fail
  refine bodyPost_ret (v := .tuple #[.agg #[.int .i64 0, .int .i64 0, .int .i64 0, .int .i64 0, .int .i64 0, .int .i64 0, .int .i64 0], .int .i64 91]) (by simp [results, Try.results13, go_sem, hc, hl0, hl1, hc2, hl20, hl21]) rfl ⟨rfl, ?_⟩
  iterate 7 refine Below.setCell ?_ (by simp) _
  exact ((((Below.refl _ _).alloc (Nat.le_refl _) _).alloc (by simp) _).trans (hb.mono (by simp; omega))).trans (hb2.mono (by omega))

set_option maxHeartbeats 400000 in
theorem rPlan_ok (n m a b c : Int) (w : World) (h : okS a b c = true) (h' : okD n m = true) (h'' : need a b m ≤ n) :
    Calls Try.prog 13 #[.int .i64 n, .int .i64 m, .agg #[.int .i64 a, .int .i64 b, .int .i64 c]] w fun e w' => e = .returned (.tuple #[.agg #[.int .i64 m, .int .i64 0, .int .i64 (slot a b m), .int .i64 (slot a b m), .int .i64 (slot a b m), .int .i64 (2 * slot a b m), .int .i64 (n - 2 * slot a b m)], .int .i64 0]) ∧ Below w.heap.size w w' := by
  have hd := okD_yes h'
  obtain ⟨d1, d2, d3, d4⟩ := hd
  have H3 := Lib.hid d3
  obtain ⟨h1, h2, h3, h4, h5, h6, h7, h8, h9, h10, h11, h12, h13, h14⟩ := okay h d3
  have hm0 : 0 ≤ n * m := Int.mul_nonneg (by omega) (by omega)
  have H := Lib.hid h; clear h
  have H' := Lib.hid h'; clear h' d3
  go_enter Try.func13, Try.ntmps13
  go_wp2_with fail
  refine (rcheck_yes a b c _ H.out).mono ?_
  rintro e w1 ⟨rfl, hb⟩
  obtain ⟨hc, hf⟩ := bcell hb
  have hz := hb.size
  simp at hz
  have hl0 : w.heap.size < w1.heap.size := by omega
  have hl1 : w.heap.size + 1 < w1.heap.size := by omega
  go_wp2_with fail
  refine (Disk n m _).mono ?_
  rintro e w2 ⟨rfl, rfl⟩
  rw [H'.out]
  go_wp2_with fail
  refine (rNeed_yes a b c m _ H.out H3.out).mono ?_
  rintro e w2 ⟨rfl, hb2⟩
  obtain ⟨hc2, hf2⟩ := bcell hb2
  have hz2 := hb2.size
  have hl20 : w.heap.size < w2.heap.size := by omega
  have hl21 : w.heap.size + 1 < w2.heap.size := by omega
  go_wp2_with fail
  refine (rslot_calls a b c m _ H.out H3.out).mono ?_
  rintro e w3 ⟨rfl, hb3⟩
  obtain ⟨hc3, hf3⟩ := bcell hb3
  have hz3 := hb3.size
  have hl30 : w.heap.size < w3.heap.size := by omega
  have hl31 : w.heap.size + 1 < w3.heap.size := by omega
  go_wp2_with fail
  refine bodyPost_ret (v := .tuple #[.agg #[.int .i64 m, .int .i64 0, .int .i64 (slot a b m), .int .i64 (slot a b m), .int .i64 (slot a b m), .int .i64 (2 * slot a b m), .int .i64 (n - 2 * slot a b m)], .int .i64 0]) (by simp [results, Try.results13, go_sem, hc, hl0, hl1, hc2, hl20, hl21, hc3, hl30, hl31]) rfl ⟨rfl, ?_⟩
  iterate 7 refine Below.setCell ?_ (by simp) _
  exact (((((Below.refl _ _).alloc (Nat.le_refl _) _).alloc (by simp) _).trans (hb.mono (by simp; omega))).trans (hb2.mono (by omega))).trans (hb3.mono (by omega))

end Go.Proofs.Ytkgobemiggbaaaa.Geo
