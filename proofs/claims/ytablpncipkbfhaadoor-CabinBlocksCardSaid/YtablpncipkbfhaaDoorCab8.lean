/- The contracts of the cabin's reference, third part: Parse. -/
import Derived.Test.YtablpncipkbfhaaDoorCab7
namespace Go.Proofs.YtablpncipkbfhaaDoor.Cab
open Go.RowKit

-- gangwayref14.Parse, a seat's name
set_option maxRecDepth 100000 in
set_option maxHeartbeats 1000000 in
theorem rParse_seat (r wd : Int) (zs : List Int) (A : Option Addr) (c : Nat) (row col : Nat) (w : World) (hI : Ints w A zs) (hlen : zs.length ≤ 20000000000000) (hok : okC r wd zs = true) (h0 : (row : Int) < r) (h1 : (col : Int) < wd) :
    Calls Tryd.prog 13 #[.agg #[.int .i64 r, .int .i64 wd, .slice A zs.length c], .string ⟨(seatT row col).toArray⟩] w fun e w' => e = .returned (.tuple #[.int .i64 ((row : Int) * wd + col), .int .i64 0]) ∧ Below w.heap.size w w' := by
  have HI := Lib.hid (hI.keep (ext_alloc (Below.refl _ w) (.cells #[.int .i64 r, .int .i64 wd, .slice A zs.length c] 24)))
  have HI0 := Lib.hid hI
  have HOK := Lib.hid hok
  obtain ⟨g0, g1, g2, g3⟩ := rc_seat hok h0 h1
  obtain ⟨⟨o1, o2, o3, o4⟩, _⟩ := okC_yes hok
  have q1 : 0 ≤ r * wd := Int.mul_nonneg (by omega) (by omega)
  have q2 : r * wd ≤ 64 * 16 := Int.mul_le_mul (by omega) (by omega) (by omega) (by omega)
  obtain ⟨k, hk⟩ : ∃ k : Nat, (row : Int) * wd + col = (k : Int) := ⟨((row : Int) * wd + col).toNat, by omega⟩
  rw [hk] at g0 g1 g2 g3 ⊢
  have HG2 := Lib.hid g2; have HG3 := Lib.hid g3
  clear g2 g3 hk
  clear hI hok
  go_enter Tryd.func13, Tryd.ntmps13
  go_wp2_with fail
  refine (rCheck_yes r wd zs A c _ HI.out hlen HOK.out).mono ?_
  rintro e w1 ⟨rfl, hb⟩
  have hbw := ext_trans (ext_alloc (Below.refl _ w) _) hb
  have hA1 : Arr w1 w.heap.size 24 #[.int .i64 r, .int .i64 wd, .slice A zs.length c] := (Arr.fresh w _ _).keep hb
  clear hb
  go_wp2_with fail
  go_loopw [7] (fun i wr => ∃ j : Nat, (j : Int) ≤ (k : Int) ∧ i = .int .i64 j ∧ Arr wr w.heap.size 24 #[.int .i64 r, .int .i64 wd, .slice A zs.length c] ∧ Below w.heap.size w wr) (fun i _ => (r * wd - intOf i).toNat)
  case atStart => exact ⟨0, by omega, rfl, hA1, hbw⟩
  case round =>
    obtain ⟨j, hj, rfl, hA, hb⟩ := hrel
    have x0 : wr.cell? ⟨w.heap.size, 0, none⟩ = some (.int .i64 r) := hA.cell 0
    have x1 : wr.cell? ⟨w.heap.size, 1, none⟩ = some (.int .i64 wd) := hA.cell 1
    have x2 : wr.cell? ⟨w.heap.size, 2, none⟩ = some (.slice A zs.length c) := hA.cell 2
    have HI2 := Lib.hid (HI0.out.keep hb)
    have h2 : (j : Int) < r * wd := by omega
    by_cases h : j < k
    ·
      obtain ⟨rj, cj, e1, e2, e3, e4, e5, e6, e7⟩ := seat_rc HOK.out (show 0 ≤ (j : Int) by omega) h2
      have hne : (seatT rj cj == seatT row col) = false := beq_eq_false_iff_ne.2 (fun he => by
        obtain ⟨f1, f2⟩ := seatT_inj e5 e6 (by omega) (by omega) he
        subst f1 f2
        have f3 := rc_seat HOK.out h0 h1
        have f4 := Int.mul_ediv_add_emod (k : Int) wd
        have f5 := Int.mul_ediv_add_emod (j : Int) wd
        rw [HG2.out, HG3.out] at f4
        rw [e1, e2] at f5
        omega)
      have HJ := Lib.hid e1; have HK := Lib.hid e2
      clear e1 e2 e7
      go_wp2_with fail
      refine (rText_yes r wd zs A c j rj cj _ HI2.out hlen HOK.out (by omega) h2 HJ.out HK.out).mono ?_
      rintro e w2 ⟨rfl, hb2⟩
      have hA2 := hA.keep hb2
      go_wp2_with fail
      go_roundw
      case rel => exact ⟨j + 1, by omega, by go_num, hA2, ext_trans hb hb2⟩
      case measure => simp [intOf]; omega
    · obtain rfl : j = k := by omega
      go_wp2_with fail
      refine (rText_yes r wd zs A c j row col _ HI2.out hlen HOK.out (by omega) h2 HG2.out HG3.out).mono ?_
      rintro e w2 ⟨rfl, hb2⟩
      go_wp2_with fail
      go_ret2
      exact ⟨rfl, ext_trans hb hb2⟩

-- gangwayref14.Parse, no seat's name
set_option maxRecDepth 100000 in
set_option maxHeartbeats 1000000 in
theorem rParse_none (r wd : Int) (zs : List Int) (A : Option Addr) (c : Nat) (l : List UInt8) (w : World) (hI : Ints w A zs) (hlen : zs.length ≤ 20000000000000) (hok : okC r wd zs = true) (hno : ∀ row col : Nat, (row : Int) < r → (col : Int) < wd → seatT row col ≠ l) :
    Calls Tryd.prog 13 #[.agg #[.int .i64 r, .int .i64 wd, .slice A zs.length c], .string ⟨l.toArray⟩] w fun e w' => e = .returned (.tuple #[.int .i64 0, .int .i64 140]) ∧ Below w.heap.size w w' := by
  have HI := Lib.hid (hI.keep (ext_alloc (Below.refl _ w) (.cells #[.int .i64 r, .int .i64 wd, .slice A zs.length c] 24)))
  have HI0 := Lib.hid hI
  have HOK := Lib.hid hok
  obtain ⟨⟨o1, o2, o3, o4⟩, _⟩ := okC_yes hok
  have q1 : 0 ≤ r * wd := Int.mul_nonneg (by omega) (by omega)
  have q2 : r * wd ≤ 64 * 16 := Int.mul_le_mul (by omega) (by omega) (by omega) (by omega)
  have HN := Lib.hid hno
  clear hno
  clear hI hok
  go_enter Tryd.func13, Tryd.ntmps13
  go_wp2_with fail
  refine (rCheck_yes r wd zs A c _ HI.out hlen HOK.out).mono ?_
  rintro e w1 ⟨rfl, hb⟩
  have hbw := ext_trans (ext_alloc (Below.refl _ w) _) hb
  have hA1 : Arr w1 w.heap.size 24 #[.int .i64 r, .int .i64 wd, .slice A zs.length c] := (Arr.fresh w _ _).keep hb
  clear hb
  go_wp2_with fail
  go_loopw [7] (fun i wr => ∃ j : Nat, (j : Int) ≤ r * wd ∧ i = .int .i64 j ∧ Arr wr w.heap.size 24 #[.int .i64 r, .int .i64 wd, .slice A zs.length c] ∧ Below w.heap.size w wr) (fun i _ => (r * wd - intOf i).toNat)
  case atStart => exact ⟨0, by omega, rfl, hA1, hbw⟩
  case round =>
    obtain ⟨j, hj, rfl, hA, hb⟩ := hrel
    have x0 : wr.cell? ⟨w.heap.size, 0, none⟩ = some (.int .i64 r) := hA.cell 0
    have x1 : wr.cell? ⟨w.heap.size, 1, none⟩ = some (.int .i64 wd) := hA.cell 1
    have x2 : wr.cell? ⟨w.heap.size, 2, none⟩ = some (.slice A zs.length c) := hA.cell 2
    have HI2 := Lib.hid (HI0.out.keep hb)
    by_cases h2 : (j : Int) < r * wd
    ·
      obtain ⟨rj, cj, e1, e2, e3, e4, e5, e6, e7⟩ := seat_rc HOK.out (show 0 ≤ (j : Int) by omega) h2
      have hne : (seatT rj cj == l) = false := beq_eq_false_iff_ne.2 (HN.out rj cj e3 e4)
      have HJ := Lib.hid e1; have HK := Lib.hid e2
      clear e1 e2 e7
      go_wp2_with fail
      refine (rText_yes r wd zs A c j rj cj _ HI2.out hlen HOK.out (by omega) h2 HJ.out HK.out).mono ?_
      rintro e w2 ⟨rfl, hb2⟩
      have hA2 := hA.keep hb2
      go_wp2_with fail
      go_roundw
      case rel => exact ⟨j + 1, by omega, by go_num, hA2, ext_trans hb hb2⟩
      case measure => simp [intOf]; omega
    · have h3 : r * wd ≤ (j : Int) := by omega
      go_wp2_with fail
      go_ret2
      exact ⟨rfl, hb⟩

-- gangwayref14.Parse, a cabin that may not be
set_option maxRecDepth 100000 in
set_option maxHeartbeats 1000000 in
theorem rParse_no (r wd : Int) (zs : List Int) (A : Option Addr) (c : Nat) (l : List UInt8) (w : World) (hI : Ints w A zs) (hlen : zs.length ≤ 20000000000000) (hok : okC r wd zs = false) :
    Calls Tryd.prog 13 #[.agg #[.int .i64 r, .int .i64 wd, .slice A zs.length c], .string ⟨l.toArray⟩] w fun e w' => e = .returned (.tuple #[.int .i64 0, .int .i64 2]) ∧ Below w.heap.size w w' := by
  have HI := Lib.hid (hI.keep (ext_alloc (Below.refl _ w) (.cells #[.int .i64 r, .int .i64 wd, .slice A zs.length c] 24)))
  have HI0 := Lib.hid hI
  have HOK := Lib.hid hok
  clear hI hok
  go_enter Tryd.func13, Tryd.ntmps13
  go_wp2_with fail
  refine (rCheck_no r wd zs A c _ HI.out hlen HOK.out).mono ?_
  rintro e w1 ⟨rfl, hb⟩
  have hbw := ext_trans (ext_alloc (Below.refl _ w) _) hb
  go_wp2_with fail
  go_ret2
  exact ⟨rfl, hbw⟩

end Go.Proofs.YtablpncipkbfhaaDoor.Cab
