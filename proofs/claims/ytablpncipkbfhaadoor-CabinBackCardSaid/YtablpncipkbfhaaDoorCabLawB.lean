/- CabinBack: texts there and back. -/
import Derived.Test.YtablpncipkbfhaaDoorCabLawF
namespace Go.Proofs.YtablpncipkbfhaaDoor.Cab
open Go.RowKit

theorem cB_rng : ∀ c : Fin 16, 65 ≤ (cB c.val).toNat ∧ (cB c.val).toNat ≤ 81 ∧ (cB c.val).toNat ≠ 73 := by decide +kernel
theorem seat_glued (row col : Nat) : (⟨(seatT row col).toArray⟩ : ByteArray) = glued (Lib.decDigits (row + 1)) (cB col) := rfl
def Named (wd : Int) (k : Nat) (T : ByteArray) : Prop := ∀ row col : Nat, row < 64 → col < 16 → (row : Int) * wd + col = (k : Int) → seatT row col ≠ T.data.toList

set_option maxRecDepth 100000 in
set_option maxHeartbeats 2000000 in
theorem Back (a0 a1 a2 : Int) (w : World) (hev : EV w) :
    Calls Tryd.prog 4 #[.int .i64 a0, .int .i64 a1, .int .i64 a2] w fun e w' => e = .returned (.bool true) ∧ Below w.heap.size w w' := by
  have HE := Lib.hid hev
  clear hev
  obtain ⟨r, hr⟩ : ∃ r, 1 + a0 % 64 = r := ⟨_, rfl⟩
  obtain ⟨wd, hd⟩ : ∃ wd, 1 + a1 % 16 = wd := ⟨_, rfl⟩
  obtain ⟨r1, r2, r3, r4⟩ := some_bounds hr hd
  have HR := Lib.hid hr; have HD := Lib.hid hd
  clear hr hd
  have q1 : 1 ≤ r * wd := by have := Int.mul_le_mul r1 r3 (by omega) (by omega); omega
  have q2 : r * wd ≤ 64 * 16 := Int.mul_le_mul (by omega) (by omega) (by omega) (by omega)
  have hok := som_ok (t := bitB a2) r1 r2 r3 r4
  have hlen := som_len (t := bitB a2) (wd.toNat - 1)
  obtain ⟨zs, hzs⟩ : ∃ zs, som (bitB a2) (wd.toNat - 1) = zs := ⟨_, rfl⟩
  rw [hzs] at hok hlen
  have HZ := Lib.hid hzs
  have HOK := Lib.hid hok
  clear hzs hok
  have hl : zs.length ≤ 20000000000000 := by omega
  go_enter Tryd.func4, Tryd.ntmps4
  go_wp2_with fail
  refine (Awake _ HE.out).mono ?_
  rintro e w1 ⟨rfl, hb1⟩
  go_wp2_with fail
  refine (SomeAt a0 a1 a2 r wd HR.out HD.out _).mono ?_
  rw [HZ.out]
  rintro e w2 ⟨A, c, rfl, hI, hb⟩
  have hb2 := ext_trans hb1 hb
  have HI := Lib.hid (hI.keep (ext_alloc (Below.refl _ w2) (.cells #[.int .i64 r, .int .i64 wd, .slice A zs.length c] 24)))
  clear hb hb1 hI
  go_wp2_with fail
  refine (Seats_yes r wd zs A c _ HI.out hl HOK.out).mono ?_
  rintro e w3 ⟨rfl, hb⟩
  have hA3 := (Arr.fresh w2 24 #[.int .i64 r, .int .i64 wd, .slice A zs.length c]).keep hb
  have HI3 := Lib.hid (HI.out.keep hb)
  have hb3 := ext_trans (ext_alloc hb2 _) hb
  have HE3 := Lib.hid (HE.out.keep hb3)
  clear hb hb2 HI HE
  have x0 : w3.cell? ⟨w2.heap.size, 0, none⟩ = some (.int .i64 r) := hA3.cell 0
  have x1 : w3.cell? ⟨w2.heap.size, 1, none⟩ = some (.int .i64 wd) := hA3.cell 1
  have x2 : w3.cell? ⟨w2.heap.size, 2, none⟩ = some (.slice A zs.length c) := hA3.cell 2
  go_wp2_with fail
  go_loopw [10, 11] (fun m i wr => ∃ (k : Nat) (T : ByteArray), (k : Int) ≤ r * wd ∧ i = .int .i64 k ∧ m = .string T ∧ Named wd k T ∧ Arr wr w2.heap.size 24 #[.int .i64 r, .int .i64 wd, .slice A zs.length c] ∧ Ints wr A zs ∧ EV wr ∧ Below w.heap.size w wr) (fun _ i _ => (r * wd - intOf i).toNat)
  case atStart =>
    refine ⟨0, ⟨#[]⟩, by omega, rfl, rfl, fun row col h1 h2 h3 h4 => ?_, hA3, HI3.out, HE3.out, hb3⟩
    have := (seatT_len (col := col) h1).1
    rw [h4] at this; simp at this
  case round =>
    obtain ⟨k, T, hk, rfl, rfl, hnm, hA, hI4, hE4, hb4⟩ := hrel
    have HI4 := Lib.hid hI4
    have HE4 := Lib.hid hE4
    clear hI4 hE4
    have x0 : wr.cell? ⟨w2.heap.size, 0, none⟩ = some (.int .i64 r) := hA.cell 0
    have x1 : wr.cell? ⟨w2.heap.size, 1, none⟩ = some (.int .i64 wd) := hA.cell 1
    have x2 : wr.cell? ⟨w2.heap.size, 2, none⟩ = some (.slice A zs.length c) := hA.cell 2
    by_cases h : (k : Int) < r * wd
    · obtain ⟨rj, cj, e1, e2, e3, e4, e5, e6, e7⟩ := seat_rc HOK.out (show 0 ≤ (k : Int) by omega) h
      have hne := hnm rj cj e5 e6 e7
      have hsl := seatT_len (col := cj) e5
      have hrng := cB_rng ⟨cj, e6⟩
      simp only at hrng
      have hdl := dd_len (show rj + 1 < 100 by omega)
      have hix := glued_last (Lib.decDigits (rj + 1)) (cB cj)
      rw [← seat_glued] at hix
      have hnm2 : Named wd (k + 1) ⟨(seatT rj cj).toArray⟩ := fun row col h1 h2 h3 h4 => by
        have h5 : seatT row col = seatT rj cj := h4
        obtain ⟨f1, f2⟩ := seatT_inj h1 h2 e5 e6 h5
        subst f1 f2
        omega
      have hszl : (ByteArray.mk (seatT rj cj).toArray).size = (seatT rj cj).length := by show (seatT rj cj).toArray.size = _; simp
      have hsl3 : (seatT rj cj).length = (Lib.decDigits (rj + 1)).length + 1 := by unfold seatT; simp
      have HT := Lib.hid (fun W (hI : Ints W A zs) => Text_yes r wd zs A c k rj cj W hI hl HOK.out (by omega) h e1 e2)
      have HP := Lib.hid (fun W (hI : Ints W A zs) (hE : EV W) => Parse_seat r wd zs A c rj cj W hI hl HOK.out hE e3 e4)
      have HL := Lib.hid (fun W (hI : Ints W A zs) => Place_yes r wd zs A c k W hI hl HOK.out (by omega) h)
      rw [e7] at HP
      rw [e1, e2] at HL
      have hp1 : 0 ≤ (rj : Int) * wd := Int.mul_nonneg (by omega) (by omega)
      have hp2 : (rj : Int) * wd ≤ 1024 := by omega
      obtain ⟨S, hS⟩ : ∃ S, (⟨(seatT rj cj).toArray⟩ : ByteArray) = S := ⟨_, rfl⟩
      have hne2 : (S.toList == T.toList) = false := by
        rw [beq_eq_false_iff_ne, ByteArray.toList_eq, ByteArray.toList_eq, ← hS]; exact hne
      rw [hS] at hix hnm2 hszl HT HP
      obtain ⟨L, hL⟩ : ∃ L, (Lib.decDigits (rj + 1)).length = L := ⟨_, rfl⟩
      rw [hL] at hsl3 hix hdl
      obtain ⟨x, hx⟩ : ∃ x, (cB cj).toNat = x := ⟨_, rfl⟩
      rw [hx] at hrng hix
      have hS1 : (S.size : Int) = (L : Int) + 1 := by omega
      have hl1 : 1 ≤ L := by omega
      have hl2 : L ≤ 2 := by omega
      have hx1 : ((x : Int) < 65) = False := by simp; omega
      have hx2 : ((81 : Int) < x) = False := by simp; omega
      have hx3 : ((x : Int) == 73) = false := beq_eq_false_iff_ne.2 (by omega)
      have v1 : IntKind.i64.wrap ((L : Int) + 1 - 1) = (L : Int) := by rw [show (L : Int) + 1 - 1 = (L : Int) from by omega]; exact IntWalk.i64_in _ (by omega)
      have v2 : IntKind.i64.wrap ((rj : Int) * wd) = (rj : Int) * wd := IntWalk.i64_in _ (by omega)
      have HNM := Lib.hid hnm2
      clear hne hnm hsl hrng hdl hnm2 hszl hsl3 hS hL hx e1 e2
      go_wp2_with fail
      refine (HT.out _ HI4.out).mono ?_
      rintro e w4 ⟨rfl, hb⟩
      have hA4 := hA.keep hb
      have HI5 := Lib.hid (HI4.out.keep hb)
      have HE5 := Lib.hid (HE4.out.keep hb)
      have hb5 := ext_trans hb4 hb
      clear hb hA HI4 HE4 hb4 x0 x1 x2
      have x0 : w4.cell? ⟨w2.heap.size, 0, none⟩ = some (.int .i64 r) := hA4.cell 0
      have x1 : w4.cell? ⟨w2.heap.size, 1, none⟩ = some (.int .i64 wd) := hA4.cell 1
      have x2 : w4.cell? ⟨w2.heap.size, 2, none⟩ = some (.slice A zs.length c) := hA4.cell 2
      go_wp2_with fail
      refine (HP.out _ HI5.out HE5.out).mono ?_
      rintro e w5 ⟨rfl, hb⟩
      have hA5 := hA4.keep hb
      have HI6 := Lib.hid (HI5.out.keep hb)
      have HE6 := Lib.hid (HE5.out.keep hb)
      have hb6 := ext_trans hb5 hb
      clear hb hA4 HI5 HE5 hb5 x0 x1 x2
      have x0 : w5.cell? ⟨w2.heap.size, 0, none⟩ = some (.int .i64 r) := hA5.cell 0
      have x1 : w5.cell? ⟨w2.heap.size, 1, none⟩ = some (.int .i64 wd) := hA5.cell 1
      have x2 : w5.cell? ⟨w2.heap.size, 2, none⟩ = some (.slice A zs.length c) := hA5.cell 2
      go_wp2_with fail
      refine (HL.out _ HI6.out).mono ?_
      rintro e w6 ⟨rfl, hb⟩
      have hA6 := hA5.keep hb
      have hb7 := ext_trans hb6 hb
      have HI7 := Lib.hid (HI6.out.keep hb)
      have HE7 := Lib.hid (HE6.out.keep hb)
      clear hb hA5 HI6 HE6 hb6 x0 x1 x2
      have x0 : w6.cell? ⟨w2.heap.size, 0, none⟩ = some (.int .i64 r) := hA6.cell 0
      have x1 : w6.cell? ⟨w2.heap.size, 1, none⟩ = some (.int .i64 wd) := hA6.cell 1
      have x2 : w6.cell? ⟨w2.heap.size, 2, none⟩ = some (.slice A zs.length c) := hA6.cell 2
      go_wp2_with fail
      go_roundw
      case rel => exact ⟨k + 1, S, by omega, by go_num, rfl, HNM.out, hA6, HI7.out, HE7.out, hb7⟩
      case measure => simp [intOf]; omega
    · have h' : r * wd ≤ (k : Int) := by omega
      go_wp2_with fail
      refine (Text_seat r wd zs A c (r * wd) _ HI4.out hl HOK.out (.inr (Int.le_refl _))).mono ?_
      rintro e w4 ⟨rfl, hb⟩
      have hA4 := hA.keep hb
      have HI5 := Lib.hid (HI4.out.keep hb)
      have hb5 := ext_trans hb4 hb
      clear hb hA HI4 HE4 hb4 x0 x1 x2
      have x0 : w4.cell? ⟨w2.heap.size, 0, none⟩ = some (.int .i64 r) := hA4.cell 0
      have x1 : w4.cell? ⟨w2.heap.size, 1, none⟩ = some (.int .i64 wd) := hA4.cell 1
      have x2 : w4.cell? ⟨w2.heap.size, 2, none⟩ = some (.slice A zs.length c) := hA4.cell 2
      go_wp2_with fail
      refine (Text_seat r wd zs A c (-1) _ HI5.out hl HOK.out (.inl (by decide))).mono ?_
      rintro e w5 ⟨rfl, hb⟩
      have hb6 := ext_trans hb5 hb
      go_wp2_with fail
      go_ret
      exact ⟨rfl, hb6⟩

end Go.Proofs.YtablpncipkbfhaaDoor.Cab
