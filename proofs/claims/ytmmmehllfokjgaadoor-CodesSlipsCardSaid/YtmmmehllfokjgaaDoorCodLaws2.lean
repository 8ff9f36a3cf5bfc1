/- The walks of the laws of the codes, second part: CodesNumbers, CodesBack, CodesApart, CodesSlips. -/
import Derived.Test.YtmmmehllfokjgaaDoorCodLaws
namespace Go.Proofs.YtmmmehllfokjgaaDoor.Cod
open Go.RowKit

-- gangwaykit.Pick
set_option maxHeartbeats 400000 in
theorem Pick (x n : Int) (h1 : -9223372036854775808 ≤ x) (h2 : x ≤ 9223372036854775807) (h3 : 1 ≤ n) (h4 : n ≤ 1000000) (w : World) :
    Calls Tryd.prog 17 #[.int .i64 x, .int .i64 n] w fun e w' => e = .returned (.int .i64 (x % n)) ∧ w = w' := by
  have ht := @Int.tmod_eq_emod x n
  have he := Int.emod_nonneg x (show n ≠ 0 by omega)
  have hl := Int.emod_lt_of_pos x (show 0 < n by omega)
  by_cases hx : 0 ≤ x
  · clear ht h1
    have H2 := Lib.hid h2; clear h2
    go_enter Tryd.func17, Tryd.ntmps17
    go_wp2
    go_ret
    exact ⟨rfl, rfl⟩
  · by_cases hd : n ∣ x
    · rw [if_pos (.inr hd)] at ht
      have h0 : x % n = 0 := Int.emod_eq_zero_of_dvd hd
      have HT := Lib.hid (show x.tmod n = 0 by omega)
      have H0 := Lib.hid h0
      have HTT := HT.out
      clear ht hd h0 he hl h1 h2 hx
      go_enter Tryd.func17, Tryd.ntmps17
      go_wp2
      go_ret
      exact ⟨ret_int (by rw [H0.out]), rfl⟩
    · rw [if_neg (by omega)] at ht
      have hab : (n.natAbs : Int) = n := by omega
      have h6 : x.tmod n < 0 := by omega
      have h7 : -1000000 ≤ x.tmod n := by omega
      have HT := Lib.hid (show x.tmod n + n = x % n by omega)
      clear ht hd he hl h1 h2 hx hab
      obtain ⟨y, hy⟩ : ∃ y, x.tmod n = y := ⟨_, rfl⟩
      rw [hy] at HT h6 h7
      have h8 : y < 1000000 := by omega
      go_enter Tryd.func17, Tryd.ntmps17
      go_wp2
      go_ret
      exact ⟨ret_int HT.out, rfl⟩
theorem Pick_at (x n : Int) (i : Nat) (h : x % n = i) (h1 : -9223372036854775808 ≤ x) (h2 : x ≤ 9223372036854775807) (h3 : 1 ≤ n) (h4 : n ≤ 1000000) (w : World) :
    Calls Tryd.prog 17 #[.int .i64 x, .int .i64 n] w fun e w' => e = .returned (.int .i64 (i : Int)) ∧ w = w' := h ▸ Pick x n h1 h2 h3 h4 w

-- CodesBack
set_option maxRecDepth 100000 in
set_option maxHeartbeats 1000000 in
theorem Back (n : Nat) (hn : n < 4294967296) (s : ByteArray) (w : World) (ht : Tab w) :
    Calls Tryd.prog 7 #[.int .u32 (n : Int), .string s] w fun e w' => e = .returned (.bool true) ∧ Below w.heap.size w w' := by
  have HT := Lib.hid ht; clear ht
  have HN := Lib.hid hn; clear hn
  rcases answer_ways s with ⟨p, h, h1, h2⟩ | ⟨m, h, h1, rfl⟩
  · have HA := Lib.hid h; clear h
    have h3 : (p : Int) ≤ 8 := by omega
    have h4 : (p : Int) ≤ (s.size : Int) := by omega
    go_enter Tryd.func7, Tryd.ntmps7
    go_wp2_with fail
    refine (awake _ HT.out).mono ?_
    rintro e w1 ⟨rfl, hb1⟩
    have HT1 := Lib.hid (HT.out.keep hb1)
    go_wp2_with fail
    refine (Text n HN.out _ HT1.out).mono ?_
    rintro e w2 ⟨rfl, hb2⟩
    have HT2 := Lib.hid (HT1.out.keep hb2)
    go_wp2_with fail
    refine (Parse_at _ n 0 0 (answer_txt HN.out) _ HT2.out).mono ?_
    rintro e w3 ⟨rfl, rfl⟩
    go_wp2_with fail
    refine (Parse_at s 0 p 150 HA.out _ HT2.out).mono ?_
    rintro e w3 ⟨rfl, rfl⟩
    go_wp2_with fail
    all_goals
      go_ret
      exact ⟨ret_bool (by simp; omega), ext_trans hb1 hb2⟩
  · have HA := Lib.hid h; clear h
    have H1 := Lib.hid h1; clear h1
    go_enter Tryd.func7, Tryd.ntmps7
    go_wp2_with fail
    refine (awake _ HT.out).mono ?_
    rintro e w1 ⟨rfl, hb1⟩
    have HT1 := Lib.hid (HT.out.keep hb1)
    go_wp2_with fail
    refine (Text n HN.out _ HT1.out).mono ?_
    rintro e w2 ⟨rfl, hb2⟩
    have HT2 := Lib.hid (HT1.out.keep hb2)
    go_wp2_with fail
    refine (Parse_at _ n 0 0 (answer_txt HN.out) _ HT2.out).mono ?_
    rintro e w3 ⟨rfl, rfl⟩
    go_wp2_with fail
    refine (Parse_at _ m 0 0 HA.out _ HT2.out).mono ?_
    rintro e w3 ⟨rfl, rfl⟩
    go_wp2_with fail
    refine (Text m H1.out _ HT2.out).mono ?_
    rintro e w3 ⟨rfl, hb3⟩
    go_wp2_with fail
    go_ret
    exact ⟨rfl, ext_trans (ext_trans hb1 hb2) hb3⟩

-- CodesApart
set_option maxRecDepth 100000 in
set_option maxHeartbeats 1000000 in
theorem Apart (a b c : Nat) (ha : a < 4294967296) (hb : b < 4294967296) (hc : c < 4294967296) (w : World) (ht : Tab w) :
    Calls Tryd.prog 8 #[.int .u32 (a : Int), .int .u32 (b : Int), .int .u32 (c : Int)] w fun e w' => e = .returned (.bool true) ∧ Below w.heap.size w w' := by
  have HT := Lib.hid ht; clear ht
  have HA := Lib.hid ha; have HB := Lib.hid hb; have HC := Lib.hid hc
  obtain ⟨X, hX⟩ : ∃ X, cnt (wor a) (wor b) 8 = X := ⟨_, rfl⟩
  obtain ⟨Y, hY⟩ : ∃ Y, cnt (wor a) (wor c) 8 = Y := ⟨_, rfl⟩
  obtain ⟨Z, hZ⟩ : ∃ Z, cnt (wor b) (wor c) 8 = Z := ⟨_, rfl⟩
  have b1 : X ≤ 8 := hX ▸ cnt_le _ _ 8
  have b2 : Y ≤ 8 := hY ▸ cnt_le _ _ 8
  have b3 : Z ≤ 8 := hZ ▸ cnt_le _ _ 8
  have b4 : Y ≤ X + Z := by rw [← hX, ← hY, ← hZ]; exact cnt_tri _ _ _ 8
  have b5 : ((X : Int) != 1) = true := by
    have := apart_one a b
    unfold apart at this
    rw [hX] at this
    simp; omega
  have b6 : (((X : Int) == 0) == ((a : Int) == (b : Int))) = true := by
    have := apart_zero ha hb
    unfold apart at this
    rw [hX] at this
    by_cases h : a = b
    · have h0 := this.2 h
      simp [h0, h]
    · have h0 : X ≠ 0 := fun e => h (this.1 e)
      have e1 : ((X : Int) == 0) = false := by simp; omega
      have e2 : ((a : Int) == (b : Int)) = false := by simp; omega
      rw [e1, e2]; rfl
  have HX := Lib.hid hX; have HY := Lib.hid hY; have HZ := Lib.hid hZ
  clear ha hb hc hX hY hZ
  go_enter Tryd.func8, Tryd.ntmps8
  go_wp2_with fail
  refine (awake _ HT.out).mono ?_
  rintro e w1 ⟨rfl, hb1⟩
  have HT1 := Lib.hid (HT.out.keep hb1)
  go_wp2_with fail
  refine (Near_at a b HA.out HB.out X HX.out _ HT1.out).mono ?_
  rintro e w2 ⟨rfl, hb2⟩
  have HT2 := Lib.hid (HT1.out.keep hb2)
  go_wp2_with fail
  refine (Text a HA.out _ HT2.out).mono ?_
  rintro e w3 ⟨rfl, hb3⟩
  have HT3 := Lib.hid (HT2.out.keep hb3)
  go_wp2_with fail
  refine (Text b HB.out _ HT3.out).mono ?_
  rintro e w4 ⟨rfl, hb4⟩
  have HT4 := Lib.hid (HT3.out.keep hb4)
  have hbw := ext_trans (ext_trans (ext_trans hb1 hb2) hb3) hb4
  clear hb1 hb2 hb3 hb4
  have hs : ∀ n k (h : k < 8) hh, (((ByteArray.mk (txt n).toArray)[k]'hh).toNat : Int) = (lt (wor n k) : Nat) := fun n k h hh => by
    have h1 := txt_at n k h
    have h2 : (ByteArray.mk (txt n).toArray)[k]'hh = (txt n)[k]'(by rw [txt_len]; exact h) := rfl
    rw [List.getElem?_eq_getElem (by rw [txt_len]; exact h)] at h1
    rw [h2, Option.some.inj h1, ltB_toNat (wor_lt n k)]
  have HS := Lib.hid hs; clear hs
  have hz : ∀ n, (ByteArray.mk (txt n).toArray).size = 8 := fun n => rfl
  go_wp2_with fail
  go_loopw [10, 11] (fun n i wr => ∃ k m : Nat, wr = w4.drewN m ∧ k ≤ 8 ∧ i = .int .i64 k ∧ n = .int .i64 (cnt (wor a) (wor b) k : Nat)) (fun _ i _ => (8 - intOf i).toNat)
  case atStart => exact ⟨0, 0, rfl, by omega, rfl, rfl⟩
  case round =>
    obtain ⟨k, m, rfl, hk, rfl, rfl⟩ := hrel
    have hc := cnt_le (wor a) (wor b) k
    by_cases h : k < 8
    · have h0 : (0 : Int) ≤ (k : Int) := by omega
      have h8 : (k : Int) < 8 := by omega
      have hx := HS.out a k h
      have hy := HS.out b k h
      by_cases he : lt (wor a k) = lt (wor b k)
      · have HE := Lib.hid he
        have hbb : ((lt (wor a k) : Int) != (lt (wor b k) : Int)) = false := by simp [he]
        clear he
        go_wp2_with fail
        go_quiet (fail)
        go_wp2_with fail
        go_roundw
        case rel =>
          refine ⟨k + 1, m + nq, rfl, by omega, by go_num, ?_⟩
          rw [cnt, if_pos HE.out]; rfl
        case measure => simp [intOf]; omega
      · have HE := Lib.hid he
        have hbb : ((lt (wor a k) : Int) != (lt (wor b k) : Int)) = true := by simp; omega
        clear he
        go_wp2_with fail
        go_quiet (fail)
        go_wp2_with fail
        go_roundw
        case rel =>
          refine ⟨k + 1, m + nq, rfl, by omega, by go_num, ?_⟩
          rw [cnt, if_neg HE.out]; rfl
        case measure => simp [intOf]; omega
    · obtain rfl : k = 8 := by omega
      rw [HX.out]
      have HT5 : Hid (Tab (w4.drewN m)) := HT4
      clear hc hz
      go_wp2_with fail
      refine (Near_at b a HB.out HA.out X (by rw [cnt_comm]; exact HX.out) _ HT5.out).mono ?_
      rintro e w5 ⟨rfl, hb5⟩
      have HT6 := Lib.hid (HT5.out.keep hb5)
      go_wp2_with fail
      refine (Near_at a c HA.out HC.out Y HY.out _ HT6.out).mono ?_
      rintro e w6 ⟨rfl, hb6⟩
      have HT7 := Lib.hid (HT6.out.keep hb6)
      go_wp2_with fail
      refine (Near_at b c HB.out HC.out Z HZ.out _ HT7.out).mono ?_
      rintro e w7 ⟨rfl, hb7⟩
      go_wp2_with fail
      go_ret
      exact ⟨ret_bool (by simp; omega), ext_trans (ext_trans (ext_trans (ext_drewN hbw m) hb5) hb6) hb7⟩

-- CodesNumbers
set_option maxRecDepth 100000 in
set_option maxHeartbeats 4000000 in
theorem Numbers (w : World) (ht : Tab w) :
    Calls Tryd.prog 6 #[] w fun e w' => e = .returned (.bool true) ∧ Below w.heap.size w w' := by
  have HT := Lib.hid ht; clear ht
  go_enter Tryd.func6, Tryd.ntmps6
  go_wp2_with fail
  have HT0 := Lib.hid (HT.out.keep (ext_alloc (ext_alloc (Below.refl _ w) (.cells #[.string ⟨#[]⟩, .string ⟨#[50, 50, 50, 50, 50, 50, 51]⟩, .string ⟨#[50, 50, 50, 50, 50, 50, 51, 52, 53]⟩, .string ⟨#[50, 50, 105, 50, 50, 50, 51, 52]⟩, .string ⟨#[50, 50, 73, 50, 50, 50, 51, 52]⟩, .string ⟨#[50, 50, 50, 50, 50, 50, 51, 53]⟩, .string ⟨#[54, 50, 50, 50, 50, 50, 50, 50]⟩, .string ⟨#[90, 90, 90, 90, 90, 90, 90, 90]⟩, .string ⟨#[48]⟩] 9)) (.cells #[.int .i64 0, .int .i64 7, .int .i64 8, .int .i64 2, .int .i64 2, .int .i64 7, .int .i64 0, .int .i64 0, .int .i64 0] 3)))
  go_loop [3] (fun i => ∃ k : Nat, k ≤ 9 ∧ i = .int .i64 k) (fun i => (9 - intOf i).toNat)
  case atStart => exact ⟨0, by omega, rfl⟩
  case round =>
    obtain ⟨k, hk, rfl⟩ := hrel
    obtain rfl | rfl | rfl | rfl | rfl | rfl | rfl | rfl | rfl | rfl : k = 0 ∨ k = 1 ∨ k = 2 ∨ k = 3 ∨ k = 4 ∨ k = 5 ∨ k = 6 ∨ k = 7 ∨ k = 8 ∨ k = 9 := by omega
    · go_wp2_with fail
      refine (Parse_at ⟨#[]⟩ 0 0 150 (by decide +kernel) _ HT0.out).mono ?_
      rintro e w3 ⟨rfl, rfl⟩
      go_wp2_with fail
      go_round
      case rel => exact ⟨1, by omega, rfl⟩
      case measure => simp [intOf]
    · go_wp2_with fail
      refine (Parse_at ⟨#[50, 50, 50, 50, 50, 50, 51]⟩ 0 7 150 (by decide +kernel) _ HT0.out).mono ?_
      rintro e w3 ⟨rfl, rfl⟩
      go_wp2_with fail
      go_round
      case rel => exact ⟨2, by omega, rfl⟩
      case measure => simp [intOf]
    · go_wp2_with fail
      refine (Parse_at ⟨#[50, 50, 50, 50, 50, 50, 51, 52, 53]⟩ 0 8 150 (by decide +kernel) _ HT0.out).mono ?_
      rintro e w3 ⟨rfl, rfl⟩
      go_wp2_with fail
      go_round
      case rel => exact ⟨3, by omega, rfl⟩
      case measure => simp [intOf]
    · go_wp2_with fail
      refine (Parse_at ⟨#[50, 50, 105, 50, 50, 50, 51, 52]⟩ 0 2 150 (by decide +kernel) _ HT0.out).mono ?_
      rintro e w3 ⟨rfl, rfl⟩
      go_wp2_with fail
      go_round
      case rel => exact ⟨4, by omega, rfl⟩
      case measure => simp [intOf]
    · go_wp2_with fail
      refine (Parse_at ⟨#[50, 50, 73, 50, 50, 50, 51, 52]⟩ 0 2 150 (by decide +kernel) _ HT0.out).mono ?_
      rintro e w3 ⟨rfl, rfl⟩
      go_wp2_with fail
      go_round
      case rel => exact ⟨5, by omega, rfl⟩
      case measure => simp [intOf]
    · go_wp2_with fail
      refine (Parse_at ⟨#[50, 50, 50, 50, 50, 50, 51, 53]⟩ 0 7 150 (by decide +kernel) _ HT0.out).mono ?_
      rintro e w3 ⟨rfl, rfl⟩
      go_wp2_with fail
      go_round
      case rel => exact ⟨6, by omega, rfl⟩
      case measure => simp [intOf]
    · go_wp2_with fail
      refine (Parse_at ⟨#[54, 50, 50, 50, 50, 50, 50, 50]⟩ 0 0 150 (by decide +kernel) _ HT0.out).mono ?_
      rintro e w3 ⟨rfl, rfl⟩
      go_wp2_with fail
      go_round
      case rel => exact ⟨7, by omega, rfl⟩
      case measure => simp [intOf]
    · go_wp2_with fail
      refine (Parse_at ⟨#[90, 90, 90, 90, 90, 90, 90, 90]⟩ 0 0 150 (by decide +kernel) _ HT0.out).mono ?_
      rintro e w3 ⟨rfl, rfl⟩
      go_wp2_with fail
      go_round
      case rel => exact ⟨8, by omega, rfl⟩
      case measure => simp [intOf]
    · go_wp2_with fail
      refine (Parse_at ⟨#[48]⟩ 0 0 150 (by decide +kernel) _ HT0.out).mono ?_
      rintro e w3 ⟨rfl, rfl⟩
      go_wp2_with fail
      go_round
      case rel => exact ⟨9, by omega, rfl⟩
      case measure => simp [intOf]
    · go_wp2_with fail
      refine (Text_at 0 (by omega) [50, 50, 50, 50, 50, 50, 50, 50] (by decide +kernel) _ HT0.out).mono ?_
      rintro e x0 ⟨rfl, hb0⟩
      have HX0 := Lib.hid (HT0.out.keep hb0)
      go_wp2_with fail
      refine (Text_at 2 (by omega) [50, 50, 50, 50, 50, 50, 52, 54] (by decide +kernel) _ HX0.out).mono ?_
      rintro e x1 ⟨rfl, hb1⟩
      have HX1 := Lib.hid (HX0.out.keep hb1)
      go_wp2_with fail
      refine (Text_at 31 (by omega) [50, 50, 50, 50, 50, 50, 90, 86] (by decide +kernel) _ HX1.out).mono ?_
      rintro e x2 ⟨rfl, hb2⟩
      have HX2 := Lib.hid (HX1.out.keep hb2)
      go_wp2_with fail
      refine (Text_at 32 (by omega) [50, 50, 50, 50, 50, 51, 50, 54] (by decide +kernel) _ HX2.out).mono ?_
      rintro e x3 ⟨rfl, hb3⟩
      have HX3 := Lib.hid (HX2.out.keep hb3)
      go_wp2_with fail
      refine (Near_at 1 2 (by omega) (by omega) 2 (by decide +kernel) _ HX3.out).mono ?_
      rintro e x4 ⟨rfl, hb4⟩
      have HX4 := Lib.hid (HX3.out.keep hb4)
      go_wp2_with fail
      refine (Near_at 0 4294967295 (by omega) (by omega) 7 (by decide +kernel) _ HX4.out).mono ?_
      rintro e x5 ⟨rfl, hb5⟩
      have HX5 := Lib.hid (HX4.out.keep hb5)
      go_wp2_with fail
      refine (Near_at 5 5 (by omega) (by omega) 0 (by decide +kernel) _ HX5.out).mono ?_
      rintro e x6 ⟨rfl, hb6⟩
      have HX6 := Lib.hid (HX5.out.keep hb6)
      go_wp2_with fail
      refine (awake _ HX6.out).mono ?_
      rintro e x9 ⟨rfl, hb9⟩
      go_wp2_with fail
      go_ret
      exact ⟨rfl, ext_trans (ext_trans (ext_trans (ext_trans (ext_trans (ext_trans (ext_trans (ext_trans (ext_alloc (ext_alloc (Below.refl _ w) _) _) hb0) hb1) hb2) hb3) hb4) hb5) hb6) hb9⟩

end Go.Proofs.YtmmmehllfokjgaaDoor.Cod
