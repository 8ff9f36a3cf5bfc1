/- The contracts of the cabin's reference: Check, Wrong, aisle, number. -/
import Derived.Test.YtablpncipkbfhaaDoorCab2
import Derived.Test.YtablpncipkbfhaaDoorCabPlain2
import Derived.IntWalk
import Derived.Lib.SmallJoins
namespace Go.Proofs.YtablpncipkbfhaaDoor.Cab
open Go.RowKit

def cE (b : Bool) : Int := match b with | true => 0 | false => 2

-- gangwayref14.Check, rows or width out of bounds
set_option maxRecDepth 100000 in
set_option maxHeartbeats 1000000 in
theorem rCheck_out (r wd : Int) (S : Value) (w : World) (hrw : okRW r wd = false) :
    Calls Tryd.prog 27 #[.agg #[.int .i64 r, .int .i64 wd, S]] w fun e w' => e = .returned (.int .i64 2) ∧ Below w.heap.size w w' := by
  have H0 := Lib.hid (okRW_no hrw)
  clear hrw
  go_enter Tryd.func27, Tryd.ntmps27
  by_cases g1 : r < 1
  · go_wp2_with fail
    go_ret
    exact ⟨rfl, ext_alloc (Below.refl _ w) _⟩
  · by_cases g2 : 64 < r
    · go_wp2_with fail
      go_ret
      exact ⟨rfl, ext_alloc (Below.refl _ w) _⟩
    · by_cases g3 : wd < 1
      · go_wp2_with fail
        go_ret
        exact ⟨rfl, ext_alloc (Below.refl _ w) _⟩
      · have g4 : 16 < wd := by have := H0.out; omega
        go_wp2_with fail
        go_ret
        exact ⟨rfl, ext_alloc (Below.refl _ w) _⟩

set_option maxRecDepth 100000 in
set_option maxHeartbeats 1000000 in
theorem rCheck_in (r wd : Int) (zs : List Int) (A : Option Addr) (c : Nat) (w : World) (hI : Ints w A zs) (hlen : zs.length ≤ 20000000000000) (hrw : okRW r wd = true) :
    Calls Tryd.prog 27 #[.agg #[.int .i64 r, .int .i64 wd, .slice A zs.length c]] w fun e w' => e = .returned (.int .i64 (cE (okZs wd 0 zs))) ∧ Below w.heap.size w w' := by
  obtain ⟨h1, h2, h3, h4⟩ := okRW_yes hrw
  clear hrw
  have HI := Lib.hid (hI.keep (ext_alloc (Below.refl _ w) (.cells #[.int .i64 r, .int .i64 wd, .slice A zs.length c] 24)))
  clear hI
  go_enter Tryd.func27, Tryd.ntmps27
  go_wp2_with fail
  go_loopw [3, 4] (fun la i wr => ∃ k n : Nat, k ≤ zs.length ∧ i = .int .i64 k ∧ la = .int .i64 (lastOf zs k) ∧ okTo wd zs k ∧ wr = (w.alloc (.cells #[.int .i64 r, .int .i64 wd, .slice A zs.length c] 24)).drewN n) (fun _ i _ => (zs.length - intOf i).toNat)
  case atStart => exact ⟨0, 0, by omega, rfl, rfl, fun j hj => absurd hj (by omega), rfl⟩
  case round =>
    obtain ⟨k, n, hk, rfl, rfl, hto, rfl⟩ := hrel
    by_cases h : k < zs.length
    · obtain ⟨b, off, hA, hblk, hcell⟩ := HI.out (by intro e; subst e; simp at h)
      have hv := hcell k h
      subst hA
      clear hcell
      have hl := okTo_last hto
      have h0 : (0 : Int) ≤ (k : Int) := by omega
      have h9 : (k : Int) < (zs.length : Int) := by omega
      generalize hL : lastOf zs k = L at *
      generalize hX : zs.getD k 0 = X at *
      have HL := Lib.hid hL; have HX := Lib.hid hX; have HTO := Lib.hid hto
      clear hL hX hto
      by_cases g1 : X ≤ L
      · have hbad := okTo_not h (show ¬ (lastOf zs k < zs.getD k 0 ∧ zs.getD k 0 < wd) from by rw [HL.out, HX.out]; omega)
        have HBAD := Lib.hid hbad
        clear hbad
        go_wp2_with fail
        refine wp_region_quiet_lit (by kernel_rfl) (by kernel_rfl) ?_
        repeat (first | go_big_quiet_step ((fail)) | quiet_step ((fail)))
        refine wpQuiet_nil ?_
        intro _ hw'
        obtain ⟨nq, hw''⟩ := hw'
        subst hw''
        go_wp2_with fail
        go_ret
        exact ⟨ret_int (by rw [HBAD.out]; rfl), by repeat (first | with_reducible exact Below.refl _ _ | with_reducible refine ext_alloc ?_ _ | with_reducible refine ext_drew ?_ | with_reducible refine ext_drewN ?_ _ | (refine ext_setCell ?_ (by simp at *; omega) _) | with_reducible refine ext_trans ?_ (by assumption))⟩
      · by_cases g2 : X < wd
        · go_wp2_with fail
          refine wp_region_quiet_lit (by kernel_rfl) (by kernel_rfl) ?_
          repeat (first | go_big_quiet_step ((fail)) | quiet_step ((fail)))
          refine wpQuiet_nil ?_
          intro _ hw'
          obtain ⟨nq, hw''⟩ := hw'
          subst hw''
          go_wp2_with fail
          go_roundw
          case rel =>
            exact ⟨k + 1, _, by omega, by go_num, by simp only [lastOf]; rw [HX.out], okTo_next HTO.out (by rw [HL.out, HX.out]; omega) (by rw [HX.out]; exact g2), rfl⟩
          case measure => simp [intOf]; omega
        · have hbad := okTo_not h (show ¬ (lastOf zs k < zs.getD k 0 ∧ zs.getD k 0 < wd) from by rw [HL.out, HX.out]; omega)
          have HBAD := Lib.hid hbad
          clear hbad
          go_wp2_with fail
          refine wp_region_quiet_lit (by kernel_rfl) (by kernel_rfl) ?_
          repeat (first | go_big_quiet_step ((fail)) | quiet_step ((fail)))
          refine wpQuiet_nil ?_
          intro _ hw'
          obtain ⟨nq, hw''⟩ := hw'
          subst hw''
          go_wp2_with fail
          go_ret
          exact ⟨ret_int (by rw [HBAD.out]; rfl), by repeat (first | with_reducible exact Below.refl _ _ | with_reducible refine ext_alloc ?_ _ | with_reducible refine ext_drew ?_ | with_reducible refine ext_drewN ?_ _ | (refine ext_setCell ?_ (by simp at *; omega) _) | with_reducible refine ext_trans ?_ (by assumption))⟩
    · obtain rfl : k = zs.length := by omega
      have hok : okZs wd 0 zs = true := okZs_to.2 hto
      have HOK := Lib.hid hok
      clear hok hto HI
      go_wp2_with fail
      go_ret
      exact ⟨ret_int (by rw [HOK.out]; rfl), by repeat (first | with_reducible exact Below.refl _ _ | with_reducible refine ext_alloc ?_ _ | with_reducible refine ext_drew ?_ | with_reducible refine ext_drewN ?_ _ | (refine ext_setCell ?_ (by simp at *; omega) _) | with_reducible refine ext_trans ?_ (by assumption))⟩

theorem rCheck (r wd : Int) (zs : List Int) (A : Option Addr) (c : Nat) (w : World) (hI : Ints w A zs) (hlen : zs.length ≤ 20000000000000) :
    Calls Tryd.prog 27 #[.agg #[.int .i64 r, .int .i64 wd, .slice A zs.length c]] w fun e w' => e = .returned (.int .i64 (cE (okC r wd zs))) ∧ Below w.heap.size w w' := by
  cases hrw : okRW r wd with
  | false =>
    rw [show okC r wd zs = false from by rw [okC, hrw]; rfl]
    exact rCheck_out r wd (.slice A zs.length c) w hrw
  | true =>
    rw [show okC r wd zs = okZs wd 0 zs from by rw [okC, hrw]; rfl]
    exact rCheck_in r wd zs A c w hI hlen hrw
theorem rCheck_yes (r wd : Int) (zs : List Int) (A : Option Addr) (c : Nat) (w : World) (hI : Ints w A zs) (hlen : zs.length ≤ 20000000000000) (hok : okC r wd zs = true) :
    Calls Tryd.prog 27 #[.agg #[.int .i64 r, .int .i64 wd, .slice A zs.length c]] w fun e w' => e = .returned (.int .i64 0) ∧ Below w.heap.size w w' := by
  have h := rCheck r wd zs A c w hI hlen
  rw [hok] at h; exact h
theorem rCheck_no (r wd : Int) (zs : List Int) (A : Option Addr) (c : Nat) (w : World) (hI : Ints w A zs) (hlen : zs.length ≤ 20000000000000) (hok : okC r wd zs = false) :
    Calls Tryd.prog 27 #[.agg #[.int .i64 r, .int .i64 wd, .slice A zs.length c]] w fun e w' => e = .returned (.int .i64 2) ∧ Below w.heap.size w w' := by
  have h := rCheck r wd zs A c w hI hlen
  rw [hok] at h; exact h

-- gangwayref14.aisle
set_option maxRecDepth 100000 in
set_option maxHeartbeats 1000000 in
theorem rAisle (r wd : Int) (zs : List Int) (A : Option Addr) (c : Nat) (a : Int) (w : World) (hI : Ints w A zs) (hlen : zs.length ≤ 20000000000000) :
    Calls Tryd.prog 42 #[.agg #[.int .i64 r, .int .i64 wd, .slice A zs.length c], .int .i64 a] w fun e w' => e = .returned (.bool (lieAt zs a)) ∧ Below w.heap.size w w' := by
  have HI := Lib.hid (hI.keep (ext_alloc (Below.refl _ w) (.cells #[.int .i64 r, .int .i64 wd, .slice A zs.length c] 24)))
  clear hI
  go_enter Tryd.func42, Tryd.ntmps42
  go_wp2_with fail
  go_loopw [5] (fun i wr => ∃ k n : Nat, k ≤ zs.length ∧ i = .int .i64 k ∧ (∀ j, j < k → zs.getD j 0 ≠ a) ∧ wr = (w.alloc (.cells #[.int .i64 r, .int .i64 wd, .slice A zs.length c] 24)).drewN n) (fun i _ => (zs.length - intOf i).toNat)
  case atStart => exact ⟨0, 0, by omega, rfl, fun j hj => absurd hj (by omega), rfl⟩
  case round =>
    obtain ⟨k, n, hk, rfl, hto, rfl⟩ := hrel
    by_cases h : k < zs.length
    · obtain ⟨b, off, hA, hblk, hcell⟩ := HI.out (by intro e; subst e; simp at h)
      have hv := hcell k h
      subst hA
      clear hcell
      have h0 : (0 : Int) ≤ (k : Int) := by omega
      have h9 : (k : Int) < (zs.length : Int) := by omega
      generalize hX : zs.getD k 0 = X at *
      have HX := Lib.hid hX; have HTO := Lib.hid hto
      clear hX hto
      by_cases g1 : X = a
      · have hbad : lieAt zs a = true := by
          have h5 : zs[k] = a := by rw [← g1, ← HX.out, List.getD_eq_getElem?_getD, List.getElem?_eq_getElem h]; rfl
          unfold lieAt; rw [List.contains_iff_mem, ← h5]; exact List.getElem_mem h
        have HBAD := Lib.hid hbad
        subst g1
        clear hbad
        go_wp2_with fail
        go_ret
        exact ⟨ret_bool (by rw [HBAD.out]), by repeat (first | with_reducible exact Below.refl _ _ | with_reducible refine ext_alloc ?_ _ | with_reducible refine ext_drew ?_ | with_reducible refine ext_drewN ?_ _ | (refine ext_setCell ?_ (by simp at *; omega) _) | with_reducible refine ext_trans ?_ (by assumption))⟩
      · go_wp2_with fail
        go_roundw
        case rel =>
          refine ⟨k + 1, _, by omega, by go_num, fun j hj => ?_, rfl⟩
          rcases Nat.lt_or_ge j k with h6 | h6
          · exact HTO.out j h6
          · obtain rfl : j = k := by omega
            rw [HX.out]; exact g1
        case measure => simp [intOf]; omega
    · obtain rfl : k = zs.length := by omega
      have hok : lieAt zs a = false := by
        rw [Bool.eq_false_iff]
        intro h5
        unfold lieAt at h5
        rw [List.contains_iff_mem] at h5
        obtain ⟨j, hj, h6⟩ := List.mem_iff_getElem.1 h5
        exact hto j hj (by rw [← h6, List.getD_eq_getElem?_getD, List.getElem?_eq_getElem hj]; rfl)
      have HOK := Lib.hid hok
      clear hok hto HI
      go_wp2_with fail
      go_ret
      exact ⟨ret_bool (by rw [HOK.out]), by repeat (first | with_reducible exact Below.refl _ _ | with_reducible refine ext_alloc ?_ _ | with_reducible refine ext_drew ?_ | with_reducible refine ext_drewN ?_ _ | (refine ext_setCell ?_ (by simp at *; omega) _) | with_reducible refine ext_trans ?_ (by assumption))⟩

end Go.Proofs.YtablpncipkbfhaaDoor.Cab
