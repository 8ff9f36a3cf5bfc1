/- The contracts of the geometry layer and of its reference: what each function returns; the world gets at most new blocks. -/
import Derived.Test.YtkgobemiggbaaaaProg
import Derived.Test.YtkgobemiggbaaaaGeoPlain
import Derived.Test.YtkgobemiggbaaaaKit
namespace Go.Proofs.Ytkgobemiggbaaaa.Geo
open Go.RowKit

-- geometry.sized
set_option maxHeartbeats 400000 in
theorem sized (n : Int) (w : World) :
    Calls Try.prog 19 #[.int .i64 n] w fun e w' => e = .returned (.bool (okZ n)) ∧ w = w' := by
  by_cases h1 : 64 ≤ n
  · by_cases h2 : n ≤ 4096
    · go_enter Try.func19, Try.ntmps19
      go_wp2
      go_ret
      exact ⟨ret_bool (bits_okZ h1 h2), rfl⟩
    · have h3 := @okZ_no_hi n (by omega)
      go_enter Try.func19, Try.ntmps19
      go_wp2
      go_ret
      exact ⟨rfl, rfl⟩
  · have h3 := @okZ_no_lo n (by omega)
    go_enter Try.func19, Try.ntmps19
    go_wp2
    go_ret
    exact ⟨rfl, rfl⟩

-- gangwayref09.Size
set_option maxHeartbeats 400000 in
theorem Size (n : Int) (w : World) :
    Calls Try.prog 22 #[.int .i64 n] w fun e w' => e = .returned (.bool (okZ n)) ∧ w = w' := by
  go_enter Try.func22, Try.ntmps22
  go_wp2
  go_loop [3] (fun v => ∃ k : Int, v = .int .i64 k ∧ (k = 64 ∨ k = 128 ∨ k = 256 ∨ k = 512 ∨ k = 1024 ∨ k = 2048 ∨ k = 4096 ∨ k = 8192) ∧ (okZ n = true → k ≤ n)) (fun v => (8192 - intOf v).toNat)
  case atStart => exact ⟨64, rfl, by omega, fun h => by have := okZ_iff.1 h; omega⟩
  case round =>
    obtain ⟨k, rfl, hk, hz⟩ := hrel
    have hzz : okZ n = true → n = 64 ∨ n = 128 ∨ n = 256 ∨ n = 512 ∨ n = 1024 ∨ n = 2048 ∨ n = 4096 := okZ_iff.1
    have hzk : n = k → k ≤ 4096 → okZ n = true := fun h h' => okZ_iff.2 (by omega)
    have HZ := Lib.hid hz; have HZZ := Lib.hid hzz; have HZK := Lib.hid hzk
    clear hz hzz hzk
    by_cases h1 : k ≤ 4096
    · by_cases h2 : n = k
      · have h3 := Lib.hid (HZK.out h2 h1)
        have h4 : (n == k) = true := by simpa using h2
        have h5 := Lib.hid h2; clear h2
        go_wp2
        go_ret
        exact ⟨ret_bool h3.out.symm, rfl⟩
      · have h4 : (n == k) = false := by simpa using h2
        go_wp2
        go_round
        case rel =>
          refine ⟨2 * k, rfl, by omega, fun h => ?_⟩
          have := HZ.out h; have := HZZ.out h; omega
        case measure => simp [intOf]; omega
    · have hf : okZ n = false := by
        rw [Bool.eq_false_iff]; intro h
        have := HZ.out h; have := HZZ.out h; omega
      have HF := Lib.hid hf; clear hf
      go_wp2
      go_ret
      exact ⟨ret_bool HF.out.symm, rfl⟩

-- geometry.up
set_option maxHeartbeats 400000 in
theorem up_calls (n m : Int) (w : World) (h1 : 0 ≤ n) (h2 : n ≤ 20000) (h3 : 1 ≤ m) (h4 : m ≤ 4096) :
    Calls Try.prog 21 #[.int .i64 n, .int .i64 m] w fun e w' => e = .returned (.int .i64 (up n m)) ∧ w = w' := by
  have h5 : 0 ≤ (n + m - 1) / m := Int.ediv_nonneg (by omega) (by omega)
  have h6 : (n + m - 1) / m ≤ n + m - 1 := Int.ediv_le_self _ (by omega)
  go_enter Try.func21, Try.ntmps21
  go_wp2
  go_ret
  exact ⟨rfl, rfl⟩

-- gangwayref09.hold
set_option maxHeartbeats 400000 in
theorem hold (n m : Int) (w : World) (h1 : 0 ≤ n) (h2 : n ≤ 20000) (h3 : 1 ≤ m) (h4 : m ≤ 4096) :
    Calls Try.prog 24 #[.int .i64 n, .int .i64 m] w fun e w' => e = .returned (.int .i64 (up n m)) ∧ w = w' := by
  have hu := up_hi h1 h3
  have hp : 0 ≤ up n m := by unfold up; exact Int.ediv_nonneg (by omega) (by omega)
  have HL := Lib.hid (fun k : Int => @lt_up k n m h3)
  go_enter Try.func24, Try.ntmps24
  go_wp2
  go_loop [5] (fun v => ∃ k : Int, v = .int .i64 k ∧ 0 ≤ k ∧ k ≤ up n m) (fun v => (up n m - intOf v).toNat)
  case atStart => exact ⟨0, rfl, by omega, hp⟩
  case round =>
    obtain ⟨k, rfl, hk, hz⟩ := hrel
    have hkm : 0 ≤ k * m := Int.mul_nonneg (by omega) (by omega)
    have hkM : k * m ≤ 20000 * 4096 := Int.mul_le_mul (by omega) h4 (by omega) (by omega)
    by_cases h : k < up n m
    · have hl : k * m < n := (HL.out k).1 h
      go_wp2
      go_round
      case rel => exact ⟨k + 1, rfl, by omega, by omega⟩
      case measure => simp [intOf]; omega
    · have hl : ¬ k * m < n := fun hh => h ((HL.out k).2 hh)
      go_wp2
      go_ret
      exact ⟨ret_int (by omega), rfl⟩

-- geometry.image
set_option maxHeartbeats 400000 in
theorem image_calls (a b c : Int) (w : World) (h1 : 1 ≤ a) (h2 : a ≤ 1024) (h3 : 1 ≤ b) (h4 : b ≤ 4096) :
    Calls Try.prog 26 #[.agg #[.int .i64 a, .int .i64 b, .int .i64 c]] w fun e w' => e = .returned (.int .i64 (image a b)) ∧ Below w.heap.size w w' := by
  by_cases h : a ≤ b
  · go_enter Try.func26, Try.ntmps26
    go_wp2
    go_ret
    exact ⟨ret_int (by unfold image; omega), (Below.refl _ _).alloc (Nat.le_refl _) _⟩
  · go_enter Try.func26, Try.ntmps26
    go_wp2
    go_ret
    exact ⟨ret_int (by unfold image; omega), (Below.refl _ _).alloc (Nat.le_refl _) _⟩

-- geometry.Check
set_option maxHeartbeats 400000 in
theorem check_yes (a b c : Int) (w : World) (h : okS a b c = true) :
    Calls Try.prog 16 #[.agg #[.int .i64 a, .int .i64 b, .int .i64 c]] w fun e w' => e = .returned (.int .i64 0) ∧ Below w.heap.size w w' := by
  obtain ⟨h1, h2, h3, h4, h5, h6⟩ := okS_yes h
  clear h
  go_enter Try.func16, Try.ntmps16
  go_wp2
  go_ret
  exact ⟨rfl, (Below.refl _ _).alloc (Nat.le_refl _) _⟩
set_option maxHeartbeats 400000 in
theorem check_no (a b c : Int) (w : World) (h : okS a b c = false) :
    Calls Try.prog 16 #[.agg #[.int .i64 a, .int .i64 b, .int .i64 c]] w fun e w' => e = .returned (.int .i64 90) ∧ Below w.heap.size w w' := by
  have HH := Lib.hid (okS_no h)
  clear h
  go_enter Try.func16, Try.ntmps16
  go_wp2
  all_goals first
    | (go_ret; exact ⟨rfl, (Below.refl _ _).alloc (Nat.le_refl _) _⟩)
    | (exfalso; have := HH.out; (try simp at *); omega)

-- gangwayref09.Check
set_option maxHeartbeats 400000 in
theorem rcheck_yes (a b c : Int) (w : World) (h : okS a b c = true) :
    Calls Try.prog 17 #[.agg #[.int .i64 a, .int .i64 b, .int .i64 c]] w fun e w' => e = .returned (.int .i64 0) ∧ Below w.heap.size w w' := by
  obtain ⟨h1, h2, h3, h4, h5, h6⟩ := okS_yes h
  clear h
  go_enter Try.func17, Try.ntmps17
  go_wp2
  go_ret
  exact ⟨rfl, (Below.refl _ _).alloc (Nat.le_refl _) _⟩
set_option maxHeartbeats 400000 in
theorem rcheck_no (a b c : Int) (w : World) (h : okS a b c = false) :
    Calls Try.prog 17 #[.agg #[.int .i64 a, .int .i64 b, .int .i64 c]] w fun e w' => e = .returned (.int .i64 90) ∧ Below w.heap.size w w' := by
  have HH := Lib.hid (okS_no h)
  clear h
  go_enter Try.func17, Try.ntmps17
  go_wp2
  all_goals first
    | (go_ret; exact ⟨rfl, (Below.refl _ _).alloc (Nat.le_refl _) _⟩)
    | (exfalso; have := HH.out; (try simp at *); omega)

-- geometry.Image
set_option maxHeartbeats 400000 in
theorem Image_yes (a b c : Int) (w : World) (h : okS a b c = true) :
    Calls Try.prog 14 #[.agg #[.int .i64 a, .int .i64 b, .int .i64 c]] w fun e w' => e = .returned (.tuple #[.int .i64 (image a b), .int .i64 0]) ∧ Below w.heap.size w w' := by
  have H := Lib.hid h; clear h
  go_enter Try.func14, Try.ntmps14
  go_wp2_with fail
  refine (check_yes a b c _ H.out).mono ?_
  rintro e w1 ⟨rfl, hb⟩
  obtain ⟨hc, hf⟩ := bcell hb
  go_wp2_with fail
  refine (image_calls a b c _ (okS_yes H.out).1 (okS_yes H.out).2.1 (okS_yes H.out).2.2.1 (okS_yes H.out).2.2.2.1).mono ?_
  rintro e w2 ⟨rfl, hb2⟩
  go_wp2_with fail
  go_ret2
  exact ⟨rfl, (((Below.refl _ _).alloc (Nat.le_refl _) _).trans (hb.mono (by simp))).trans (hb2.mono (by have := hb.size; simp at this; omega))⟩
set_option maxHeartbeats 400000 in
theorem Image_no (a b c : Int) (w : World) (h : okS a b c = false) :
    Calls Try.prog 14 #[.agg #[.int .i64 a, .int .i64 b, .int .i64 c]] w fun e w' => e = .returned (.tuple #[.int .i64 0, .int .i64 90]) ∧ Below w.heap.size w w' := by
  have H := Lib.hid h; clear h
  go_enter Try.func14, Try.ntmps14
  go_wp2_with fail
  refine (check_no a b c _ H.out).mono ?_
  rintro e w1 ⟨rfl, hb⟩
  go_wp2_with fail
  go_ret2
  exact ⟨rfl, ((Below.refl _ _).alloc (Nat.le_refl _) _).trans (hb.mono (by simp))⟩

-- gangwayref09.Image
set_option maxHeartbeats 400000 in
theorem rImage_yes (a b c : Int) (w : World) (h : okS a b c = true) :
    Calls Try.prog 15 #[.agg #[.int .i64 a, .int .i64 b, .int .i64 c]] w fun e w' => e = .returned (.tuple #[.int .i64 (image a b), .int .i64 0]) ∧ Below w.heap.size w w' := by
  have H := Lib.hid h; clear h
  obtain ⟨h1, h2, h3, h4, h5, h6⟩ := okS_yes H.out
  go_enter Try.func15, Try.ntmps15
  go_wp2_with fail
  refine (rcheck_yes a b c _ H.out).mono ?_
  rintro e w1 ⟨rfl, hb⟩
  obtain ⟨hc, hf⟩ := bcell hb
  go_wp2_with fail
  go_loop [4] (fun v => ∃ k : Int, v = .int .i64 k ∧ 0 ≤ k ∧ k ≤ a ∧ k ≤ b) (fun v => (1024 - intOf v).toNat)
  case atStart => exact ⟨0, rfl, by omega, by omega, by omega⟩
  case round =>
    obtain ⟨k, rfl, hk, hka, hkb⟩ := hrel
    by_cases g1 : k < a
    · by_cases g2 : k < b
      · go_wp2
        go_round
        case rel => exact ⟨k + 1, rfl, by omega, by omega, by omega⟩
        case measure => simp [intOf]; omega
      · go_wp2
        refine bodyPost_ret (v := .tuple #[.int .i64 (image a b), .int .i64 0]) ?_ rfl ⟨rfl, ((Below.refl _ _).alloc (Nat.le_refl _) _).trans (hb.mono (by simp))⟩
        have e : image a b = 20 + 14 * k := by unfold image; omega
        rw [e]; simp [results, Try.results15, go_sem]
    · go_wp2
      refine bodyPost_ret (v := .tuple #[.int .i64 (image a b), .int .i64 0]) ?_ rfl ⟨rfl, ((Below.refl _ _).alloc (Nat.le_refl _) _).trans (hb.mono (by simp))⟩
      have e : image a b = 20 + 14 * k := by unfold image; omega
      rw [e]; simp [results, Try.results15, go_sem]
set_option maxHeartbeats 400000 in
theorem rImage_no (a b c : Int) (w : World) (h : okS a b c = false) :
    Calls Try.prog 15 #[.agg #[.int .i64 a, .int .i64 b, .int .i64 c]] w fun e w' => e = .returned (.tuple #[.int .i64 0, .int .i64 90]) ∧ Below w.heap.size w w' := by
  have H := Lib.hid h; clear h
  go_enter Try.func15, Try.ntmps15
  go_wp2_with fail
  refine (rcheck_no a b c _ H.out).mono ?_
  rintro e w1 ⟨rfl, hb⟩
  go_wp2_with fail
  go_ret2
  exact ⟨rfl, ((Below.refl _ _).alloc (Nat.le_refl _) _).trans (hb.mono (by simp))⟩

end Go.Proofs.Ytkgobemiggbaaaa.Geo
