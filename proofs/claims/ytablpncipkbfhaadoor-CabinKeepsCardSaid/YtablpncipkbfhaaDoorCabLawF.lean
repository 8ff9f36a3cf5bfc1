/- CabinFar: who is not beside whom. -/
import Derived.Test.YtablpncipkbfhaaDoorCabSome
import Derived.Test.YtablpncipkbfhaaDoorCabAw
namespace Go.Proofs.YtablpncipkbfhaaDoor.Cab
open Go.RowKit

theorem SomeAt (x y bits r wd : Int) (hr : 1 + x % 64 = r) (hd : 1 + y % 16 = wd) (w : World) :
    Calls Tryd.prog 14 #[.int .i64 x, .int .i64 y, .int .i64 bits] w (SomeOut r wd (som (bitB bits) (wd.toNat - 1)) w) := by
  subst hr hd; exact Some x y bits w
theorem some_bounds {x y r wd : Int} (hr : 1 + x % 64 = r) (hd : 1 + y % 16 = wd) : 1 ≤ r ∧ r ≤ 64 ∧ 1 ≤ wd ∧ wd ≤ 16 := by omega
/-- a block behind an allocation and a draw -/
theorem bes_one {wd : Int} {zs : List Int} {a b : Int} (h : besB wd zs a b = true) : a - b = 1 ∨ b - a = 1 := by
  unfold besB at h
  rw [Bool.and_eq_true, decide_eq_true_eq] at h
  obtain ⟨⟨h1, h2⟩, _⟩ := h
  have e1 := Int.mul_ediv_add_emod a wd
  have e2 := Int.mul_ediv_add_emod b wd
  rw [h1] at e1
  omega

set_option maxRecDepth 100000 in
set_option maxHeartbeats 1000000 in
theorem Far (a0 a1 a2 a3 a4 : Int) (w : World) (hev : EV w) :
    Calls Tryd.prog 5 #[.agg #[.int .i64 a0, .int .i64 a1, .int .i64 a2, .int .i64 a3, .int .i64 a4]] w fun e w' => e = .returned (.bool true) ∧ Below w.heap.size w w' := by
  have HE := Lib.hid (hev.keep (ext_alloc (Below.refl _ w) (.cells #[.int .i64 a0, .int .i64 a1, .int .i64 a2, .int .i64 a3, .int .i64 a4] 39)))
  clear hev
  obtain ⟨r, hr⟩ : ∃ r, 1 + a0 % 64 = r := ⟨_, rfl⟩
  obtain ⟨wd, hd⟩ : ∃ wd, 1 + a1 % 16 = wd := ⟨_, rfl⟩
  obtain ⟨r1, r2, r3, r4⟩ := some_bounds hr hd
  have HR := Lib.hid hr; have HD := Lib.hid hd
  clear hr hd
  have q1 : 1 ≤ r * wd := by have := Int.mul_le_mul r1 r3 (by omega) (by omega); omega
  have q2 : r * wd ≤ 64 * 16 := Int.mul_le_mul (by omega) (by omega) (by omega) (by omega)
  have hok := som_ok (t := bitB a2) r1 r2 r3 r4
  have hlen := som_len (t := bitB a2) (wd.toNat - 1)
  obtain ⟨zs, hzs⟩ : ∃ zs, som (bitB a2) (wd.toNat - 1) = zs := ⟨_, rfl⟩
  rw [hzs] at hok hlen
  have HZ := Lib.hid hzs
  have HOK := Lib.hid hok
  clear hzs hok
  have pa0 := Int.emod_nonneg a3 (show r * wd ≠ 0 by omega)
  have pa1 := Int.emod_lt_of_pos a3 (show 0 < r * wd by omega)
  have pb0 := Int.emod_nonneg a4 (show r * wd ≠ 0 by omega)
  have pb1 := Int.emod_lt_of_pos a4 (show 0 < r * wd by omega)
  have q3 : r * wd ≤ 1024 := by omega
  go_enter Tryd.func5, Tryd.ntmps5
  go_wp2_with fail
  refine (Awake _ HE.out).mono ?_
  rintro e w1 ⟨rfl, hb⟩
  have hA1 := (Arr.fresh w 39 #[.int .i64 a0, .int .i64 a1, .int .i64 a2, .int .i64 a3, .int .i64 a4]).keep hb
  have hb1 := ext_trans (ext_alloc (Below.refl _ w) _) hb
  clear hb HE
  have x0 : w1.cell? ⟨w.heap.size, 0, none⟩ = some (.int .i64 a0) := hA1.cell 0
  have x1 : w1.cell? ⟨w.heap.size, 1, none⟩ = some (.int .i64 a1) := hA1.cell 1
  have x2 : w1.cell? ⟨w.heap.size, 2, none⟩ = some (.int .i64 a2) := hA1.cell 2
  go_wp2_with fail
  refine (SomeAt a0 a1 a2 r wd HR.out HD.out _).mono ?_
  rw [HZ.out]
  rintro e w2 ⟨A, c, rfl, hI, hb⟩
  have hA2 := hA1.keep hb
  have hb2 := ext_trans hb1 hb
  have HI := Lib.hid (hI.keep (ext_alloc (Below.refl _ w2) (.cells #[.int .i64 r, .int .i64 wd, .slice A zs.length c] 24)))
  clear hb hb1 hA1 x0 x1 x2 hI
  have x3 : w2.cell? ⟨w.heap.size, 3, none⟩ = some (.int .i64 a3) := hA2.cell 3
  have x4 : w2.cell? ⟨w.heap.size, 4, none⟩ = some (.int .i64 a4) := hA2.cell 4
  have hlt := hA2.lt
  go_wp2_with fail
  refine wp_region_quiet_lit (by kernel_rfl) (by kernel_rfl) ?_
  repeat (first | go_big_quiet_step ((go_at_call 18; exact Calls.quiet_of_same (Pick _ (r * wd) q1 q3 _))) | quiet_step ((go_at_call 18; exact Calls.quiet_of_same (Pick _ (r * wd) q1 q3 _))))
  refine wpQuiet_nil ?_
  intro _ hw'
  obtain ⟨nq, hw''⟩ := hw'
  subst hw''
  generalize a3 % (r * wd) = a at *
  generalize a4 % (r * wd) = b at *
  go_wp2_with fail
  refine (Beside_yes r wd zs A c a b _ (HI.out.keep (ext_drewN (Below.refl _ _) _)) (by omega) HOK.out pa0 pa1 pb0 pb1).mono ?_
  rintro e w3 ⟨rfl, hb⟩
  have hb3 := ext_trans (ext_drewN (ext_alloc hb2 _) _) hb
  cases hbs : besB wd zs a b with
  | false =>
    go_wp2_with fail
    go_ret
    exact ⟨rfl, hb3⟩
  | true =>
    have h1 := bes_one hbs
    clear hbs
    by_cases h2 : a - b = 1
    · go_wp2_with fail
      go_ret
      exact ⟨rfl, hb3⟩
    · have h3 : b - a = 1 := by omega
      go_wp2_with fail
      go_ret
      exact ⟨rfl, hb3⟩

end Go.Proofs.YtablpncipkbfhaaDoor.Cab
