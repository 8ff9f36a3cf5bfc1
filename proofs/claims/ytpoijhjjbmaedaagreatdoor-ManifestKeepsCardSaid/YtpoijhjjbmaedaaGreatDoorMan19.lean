/- The reference's book: may the book be (May); Sound. -/
import Derived.Test.YtpoijhjjbmaedaaGreatDoorManB
import Derived.OwnWalk
set_option linter.unusedVariables false
set_option linter.unusedSimpArgs false
namespace Go.Proofs.YtpoijhjjbmaedaaGreatDoor.Man
open Go.RowKit
open Go.Proofs.YtpoijhjjbmaedaaGreatDoor.Bk (Bkg Raw rawL Raws bookOf ofR mayR toB)

theorem bool_info : (Tryz.prog.info? 4).map (fun i => (i.zero, i.size, i.bytes)) = some (some (.bool false), 1, 1) := by kernel_rfl
/-- is a seat taken? -/
def tkn (L : List Bkg) (j : Nat) : Bool := !(L.all fun y => !decide ((y.seat : Int) = (j : Int)))
theorem tkn_nil (j : Nat) : tkn [] j = false := rfl
theorem tkn_snoc (L : List Bkg) (x : Bkg) (j : Nat) : tkn (L ++ [x]) j = (tkn L j || decide ((x.seat : Int) = (j : Int))) := by
  simp [tkn, List.all_append, Bool.not_and]
theorem own_arr1 {w : World} {base n g : Nat} {e : TypeId} {xs : List Value} (h : w.ownsRow base e 1 (.slice (some ⟨g, 0, none⟩) n n) n xs) : ∃ cs : Array Value, Arr w g e cs ∧ cs.size = n ∧ ∀ j, j < n → cs[j]? = xs[j]? := by
  rcases h.2 with ⟨h0, _⟩ | ⟨g', cap, cur, hv, hb, hh, hnc, hcm, hcs, ht⟩
  · cases h0
  · injection hv with e1 _ e2
    injection e1 with e1
    injection e1 with e1
    subst e1 e2
    refine ⟨cur, hh, by rw [hcs]; omega, fun j hj => ?_⟩
    rw [← ht, List.getElem?_take, if_pos (by omega), Array.getElem?_toList]
theorem mayR_no {n : Nat} {next clock : Int} {L : List Bkg} {last id seat til : Int} (h : id ≤ last ∨ next ≤ id ∨ seat < 0 ∨ (n : Int) ≤ seat ∨ (∃ y ∈ L, (y.seat : Int) = seat) ∨ (til ≠ 0 ∧ (til ≤ clock ∨ 1099511627776 < til))) : mayR n next clock L last ⟨id, seat, til⟩ = false := by
  cases hm : mayR n next clock L last ⟨id, seat, til⟩ with
  | false => rfl
  | true =>
    obtain ⟨h1, h2, h3, h4, h5, h6⟩ := Bk.mayR_yes hm
    simp only at h1 h2 h3 h4 h5 h6
    rcases h with h | h | h | h | ⟨y, hy, e⟩ | ⟨h7, h8⟩
    · omega
    · omega
    · omega
    · omega
    · exact absurd e (h5 y hy)
    · omega
theorem tkn_yes {L : List Bkg} {j : Nat} (h : tkn L j = true) : ∃ y ∈ L, (y.seat : Int) = (j : Int) := by
  unfold tkn at h
  rw [Bool.not_eq_true', List.all_eq_false] at h
  obtain ⟨y, hy, e⟩ := h
  exact ⟨y, hy, by simpa using e⟩
theorem tkn_no {L : List Bkg} {j : Nat} (h : tkn L j = false) : ∀ y ∈ L, (y.seat : Int) ≠ (j : Int) := fun y hy e => by
  unfold tkn at h
  rw [Bool.not_eq_false', List.all_eq_true] at h
  have := h y hy
  simp [e] at this
theorem mayR_ok {n : Nat} {next clock : Int} {L : List Bkg} {last id til : Int} {j : Nat} (h1 : last < id) (h2 : id < next) (h4 : j < n) (h5 : tkn L j = false) (h6 : til = 0 ∨ clock < til ∧ til ≤ 1099511627776) : mayR n next clock L last ⟨id, (j : Int), til⟩ = true := by
  have h7 := tkn_no h5
  simp only [mayR, Bool.and_eq_true, Bool.or_eq_true, decide_eq_true_eq, List.all_eq_true, Bool.not_eq_true', decide_eq_false_iff_not, beq_iff_eq]
  exact ⟨h1, h2, by omega, by omega, h7, h6⟩
/-- the cells of the reference's book -/
def rbC (th : Bool) (n codes : Nat) (group next clock : Int) (v : Value) : Array Value := #[.bool th, .int .i64 n, .int .i64 codes, .int .i64 group, v, .int .u32 next, .int .i64 clock]

set_option maxRecDepth 100000 in
set_option maxHeartbeats 4000000 in
theorem rMay_in (b n codes : Nat) (group next clock : Int) (l : List Raw) (A : Option Addr) (c : Nat) (w : World) (hB : Arr w b 52 (rbC true n codes group next clock (.slice A l.length c))) (hI : Raws w A l) (hn : n ≤ 1024) (hcd : codes ≤ 4096) (hl : l.length ≤ 17592186043904) (hnx : 0 ≤ next ∧ next < 4294967296) (hids : ∀ x ∈ l, 0 ≤ x.id ∧ x.id < 4294967296) :
    Calls Tryz.prog 42 #[.pointer (some ⟨b, 0, none⟩)] w fun e w' => e = .returned (.bool (bookOf n codes next clock l).isSome) ∧ Below w.heap.size w w' := by
  have y1 : w.cell? ⟨b, 1, none⟩ = some (.int .i64 n) := hB.cell 1
  have y2 : w.cell? ⟨b, 2, none⟩ = some (.int .i64 codes) := hB.cell 2
  have y4 : w.cell? ⟨b, 4, none⟩ = some (.slice A l.length c) := hB.cell 4
  have y5 : w.cell? ⟨b, 5, none⟩ = some (.int .u32 next) := hB.cell 5
  have y6 : w.cell? ⟨b, 6, none⟩ = some (.int .i64 clock) := hB.cell 6
  have HB := Lib.hid hB; have HI := Lib.hid hI; have HIDS := Lib.hid hids
  obtain ⟨BO, hBO⟩ : ∃ BO, bookOf n codes next clock l = BO := ⟨_, rfl⟩
  rw [hBO]
  have HBO := Lib.hid hBO
  clear hB hI hids hBO
  go_enter Tryz.func42, Tryz.ntmps42
  by_cases c1 : next < 1
  · have d1 : decide (next < 1) = true := by simpa using c1
    have HN := Lib.hid (show BO = none by rw [← HBO.out]; unfold bookOf; rw [if_pos (.inl c1)])
    go_wp2_with fail
    refine wp_region_quiet_lit (by kernel_rfl) (by kernel_rfl) ?_
    repeat (first | go_big_quiet_step ((fail)) | quiet_step ((fail)))
    refine wpQuiet_nil ?_
    intro _ hw'
    obtain ⟨nq, hw''⟩ := hw'
    subst hw''
    go_wp2_with fail
    go_ret
    exact ⟨by rw [HN.out]; rfl, by repeat (first | with_reducible exact Below.refl _ _ | with_reducible refine ext_alloc ?_ _ | with_reducible refine ext_drew ?_ | with_reducible refine ext_drewN ?_ _ | (refine ext_setCell ?_ (by simp at *; omega) _) | with_reducible refine ext_trans ?_ (by assumption))⟩
  have d1 : decide (next < 1) = false := by simpa using c1
  by_cases c2 : clock < 0
  · have d2 : decide (clock < 0) = true := by simpa using c2
    have HN := Lib.hid (show BO = none by rw [← HBO.out]; unfold bookOf; rw [if_pos (.inr (.inl c2))])
    go_wp2_with fail
    refine wp_region_quiet_lit (by kernel_rfl) (by kernel_rfl) ?_
    repeat (first | go_big_quiet_step ((fail)) | quiet_step ((fail)))
    refine wpQuiet_nil ?_
    intro _ hw'
    obtain ⟨nq, hw''⟩ := hw'
    subst hw''
    go_wp2_with fail
    go_ret
    exact ⟨by rw [HN.out]; rfl, by repeat (first | with_reducible exact Below.refl _ _ | with_reducible refine ext_alloc ?_ _ | with_reducible refine ext_drew ?_ | with_reducible refine ext_drewN ?_ _ | (refine ext_setCell ?_ (by simp at *; omega) _) | with_reducible refine ext_trans ?_ (by assumption))⟩
  have d2 : decide (clock < 0) = false := by simpa using c2
  by_cases c3 : 1099511627776 < clock
  · have d3 : decide (1099511627776 < clock) = true := by simpa using c3
    have HN := Lib.hid (show BO = none by rw [← HBO.out]; unfold bookOf; rw [if_pos (.inr (.inr (.inl c3)))])
    go_wp2_with fail
    refine wp_region_quiet_lit (by kernel_rfl) (by kernel_rfl) ?_
    repeat (first | go_big_quiet_step ((fail)) | quiet_step ((fail)))
    refine wpQuiet_nil ?_
    intro _ hw'
    obtain ⟨nq, hw''⟩ := hw'
    subst hw''
    go_wp2_with fail
    go_ret
    exact ⟨by rw [HN.out]; rfl, by repeat (first | with_reducible exact Below.refl _ _ | with_reducible refine ext_alloc ?_ _ | with_reducible refine ext_drew ?_ | with_reducible refine ext_drewN ?_ _ | (refine ext_setCell ?_ (by simp at *; omega) _) | with_reducible refine ext_trans ?_ (by assumption))⟩
  have d3 : decide (1099511627776 < clock) = false := by simpa using c3
  by_cases c4 : (codes : Int) < (l.length : Int)
  · have d4 : decide ((codes : Int) < (l.length : Int)) = true := by simpa using c4
    have HN := Lib.hid (show BO = none by rw [← HBO.out]; unfold bookOf; rw [if_pos (.inr (.inr (.inr (by omega))))])
    go_wp2_with fail
    refine wp_region_quiet_lit (by kernel_rfl) (by kernel_rfl) ?_
    repeat (first | go_big_quiet_step ((fail)) | quiet_step ((fail)))
    refine wpQuiet_nil ?_
    intro _ hw'
    obtain ⟨nq, hw''⟩ := hw'
    subst hw''
    go_wp2_with fail
    go_ret
    exact ⟨by rw [HN.out]; rfl, by repeat (first | with_reducible exact Below.refl _ _ | with_reducible refine ext_alloc ?_ _ | with_reducible refine ext_drew ?_ | with_reducible refine ext_drewN ?_ _ | (refine ext_setCell ?_ (by simp at *; omega) _) | with_reducible refine ext_trans ?_ (by assumption))⟩
  have d4 : decide ((codes : Int) < (l.length : Int)) = false := by simpa using c4
  have HBO2 := Lib.hid (show BO = ofR n next clock [] 0 l by rw [← HBO.out]; unfold bookOf; rw [if_neg (by omega)])
  clear HBO
  go_wp2_with fail
  refine wp_region_quiet_lit (by kernel_rfl) (by kernel_rfl) ?_
  repeat (first | go_big_quiet_step ((fail)) | quiet_step ((fail)))
  refine wpQuiet_nil ?_
  intro _ hw'
  obtain ⟨nq, hw''⟩ := hw'
  subst hw''
  obtain ⟨i1, hi1, hz01, hz11, hz21⟩ := info_parts bool_info
  go_wp2_with (refine wpList_make_full _ rfl _ _ 157 rfl w.heap.size 4 i1 (.bool false) 1 Tryz.underlying157 hi1 hz01 hz11 .i64 .i64 _ _ n rfl rfl rfl rfl (by rw [hz21]; omega) (by unfold maxLen; omega) (Nat.le_refl _) ?_; intro w1 hown1 hg1; have HO1 := Lib.hid hown1; have HG1 := Lib.hid hg1; clear hown1 hg1)
  obtain ⟨cs0, ha0, hs0, hc0⟩ := own_arr1 HO1.out
  have hb1 : Below w.heap.size w w1 := Below.grown (ext_drewN (Below.refl _ _) _) HG1.out (Nat.le_refl _) (fun _ h => by cases h)
  replace ha0 : Arr w1 w.heap.size 4 cs0 := ha0
  obtain ⟨sb, hsb⟩ : ∃ sb, w.heap.size = sb := ⟨_, rfl⟩
  rw [hsb] at ha0 ⊢
  have HSB := Lib.hid hsb
  have HC0 := Lib.hid (show ∀ j, j < n → cs0[j]? = some (.bool (tkn [] j)) from fun j hj => by
    rw [hc0 j hj, tkn_nil, show (Value.bool false).cells = #[.bool false] from rfl]
    simp [madeCells, hj, Nat.mod_one])
  have HA0 := Lib.hid ha0; have HB1 := Lib.hid hb1; have HS0 := Lib.hid hs0
  clear y1 y2 y4 y5 y6 HO1 HG1 ha0 hb1 hsb hc0 hs0
  go_wp2_with fail
  go_loopw [3, 5] (fun lv iv wr => ∃ (k : Nat) (L : List Bkg) (last : Int) (cs : Array Value), k ≤ l.length ∧ lv = .int .u32 last ∧ iv = .int .i64 k ∧ Arr wr sb 4 cs ∧ cs.size = n ∧ (∀ j, j < n → cs[j]? = some (.bool (tkn L j))) ∧ Below w.heap.size w wr ∧ ofR n next clock L last (l.drop k) = ofR n next clock [] 0 l) (fun _ iv _ => (l.length - intOf iv).toNat)
  case atStart => exact ⟨0, [], 0, cs0, Nat.zero_le _, rfl, rfl, HA0.out, HS0.out, HC0.out, HB1.out, by rw [List.drop_zero]⟩
  case round =>
    obtain ⟨k, L, last, cs, hk, rfl, rfl, hA, hS, hC, hBl, hof⟩ := hrel
    have hBr := HB.out.keep hBl
    have y1 : wr.cell? ⟨b, 1, none⟩ = some (.int .i64 n) := hBr.cell 1
    have y4 : wr.cell? ⟨b, 4, none⟩ = some (.slice A l.length c) := hBr.cell 4
    have y5 : wr.cell? ⟨b, 5, none⟩ = some (.int .u32 next) := hBr.cell 5
    have y6 : wr.cell? ⟨b, 6, none⟩ = some (.int .i64 clock) := hBr.cell 6
    have HA := Lib.hid hA; have HS := Lib.hid hS; have HC := Lib.hid hC; have HBL := Lib.hid hBl; have HOF := Lib.hid hof
    clear hBr hA hS hC hBl hof HA0 HB1 HS0 HC0
    by_cases hkl : k < l.length
    · have hk1 : (k : Int) < (l.length : Int) := by omega
      have hk0 : (0 : Int) ≤ (k : Int) := by omega
      have hne : l ≠ [] := by intro e; subst e; simp at hkl
      obtain ⟨g2, off2, hA2, hgl2, hr2⟩ := (HI.out.keep HBL.out) hne
      subst hA2
      have q2 := hr2 k hkl
      have hdrop : l.drop k = l.getD k ⟨0, 0, 0⟩ :: l.drop (k + 1) := by
        rw [List.getD_eq_getElem?_getD, List.getElem?_eq_getElem hkl, List.drop_eq_getElem_cons hkl]; rfl
      have hid := HIDS.out (l.getD k ⟨0, 0, 0⟩) (by rw [List.getD_eq_getElem?_getD, List.getElem?_eq_getElem hkl]; exact List.getElem_mem hkl)
      obtain ⟨x, hx⟩ : ∃ x, l.getD k ⟨0, 0, 0⟩ = x := ⟨_, rfl⟩
      rw [hx] at q2 hdrop hid
      have HOF2 := Lib.hid (show (if mayR n next clock L last x = true then ofR n next clock (L ++ [toB x]) x.id (l.drop (k + 1)) else none) = BO from by
        rw [HBO2.out, ← HOF.out, hdrop]; rfl)
      obtain ⟨id, seat, til⟩ := x
      have z0 : wr.cell? ⟨g2, off2 + k * 3, none⟩ = some (.int .u32 id) := q2 0 _ rfl
      have z1 : wr.cell? ⟨g2, off2 + k * 3 + 1, none⟩ = some (.int .i64 seat) := q2 1 _ rfl
      have z2 : wr.cell? ⟨g2, off2 + k * 3 + 2, none⟩ = some (.int .i64 til) := q2 2 _ rfl
      clear q2 hr2 hdrop hx hne HOF
      go_wp2_with fail
      obtain ⟨w5, hw5⟩ : ∃ w5, wr.alloc (.cells #[.int .u32 id, .int .i64 seat, .int .i64 til] 78) = w5 := ⟨_, rfl⟩
      obtain ⟨xb, hxb⟩ : ∃ xb, wr.heap.size = xb := ⟨_, rfl⟩
      have hb5 : Below wr.heap.size wr w5 := by rw [← hw5]; exact ext_alloc (Below.refl _ _) _
      have hX : Arr w5 xb 78 #[.int .u32 id, .int .i64 seat, .int .i64 til] := by rw [← hw5, ← hxb]; exact Arr.fresh _ _ _
      have hA5 := HA.out.keep hb5
      have hB5 := (HB.out.keep HBL.out).keep hb5
      have HB5 := Lib.hid (ext_trans HBL.out hb5)
      rw [hw5, hxb]
      clear z0 z1 z2 y1 y4 y5 y6 hw5 hb5
      have y1 : w5.cell? ⟨b, 1, none⟩ = some (.int .i64 n) := hB5.cell 1
      have y5 : w5.cell? ⟨b, 5, none⟩ = some (.int .u32 next) := hB5.cell 5
      have y6 : w5.cell? ⟨b, 6, none⟩ = some (.int .i64 clock) := hB5.cell 6
      have x0 : w5.cell? ⟨xb, 0, none⟩ = some (.int .u32 id) := hX.cell 0
      have x1 : w5.cell? ⟨xb, 1, none⟩ = some (.int .i64 seat) := hX.cell 1
      have x2 : w5.cell? ⟨xb, 2, none⟩ = some (.int .i64 til) := hX.cell 2
      have HX := Lib.hid hX; have HA5 := Lib.hid hA5
      have hne1 : ¬ xb = sb := by have := HA.out.lt; omega
      have hne2 : ¬ sb = xb := fun e => hne1 e.symm
      clear hX hA5 hB5 hxb
      by_cases c1 : id ≤ last
      · have d1 : decide (id ≤ last) = true := by simpa using c1
        have HN := Lib.hid (show BO = none by rw [← HOF2.out, mayR_no (.inl c1)]; rfl)
        go_wp2_with fail
        refine wp_region_quiet_lit (by kernel_rfl) (by kernel_rfl) ?_
        repeat (first | go_big_quiet_step ((fail)) | quiet_step ((fail)))
        refine wpQuiet_nil ?_
        intro _ hw'
        obtain ⟨nq, hw''⟩ := hw'
        subst hw''
        go_wp2_with fail
        go_ret
        exact ⟨by rw [HN.out]; rfl, by first | exact ext_drewN HB5.out _ | exact ext_drewN (ext_drewN HB5.out _) _⟩
      have d1 : decide (id ≤ last) = false := by simpa using c1
      by_cases c2 : next ≤ id
      · have d2 : decide (next ≤ id) = true := by simpa using c2
        have HN := Lib.hid (show BO = none by rw [← HOF2.out, mayR_no (.inr (.inl c2))]; rfl)
        go_wp2_with fail
        refine wp_region_quiet_lit (by kernel_rfl) (by kernel_rfl) ?_
        repeat (first | go_big_quiet_step ((fail)) | quiet_step ((fail)))
        refine wpQuiet_nil ?_
        intro _ hw'
        obtain ⟨nq, hw''⟩ := hw'
        subst hw''
        go_wp2_with fail
        go_ret
        exact ⟨by rw [HN.out]; rfl, by first | exact ext_drewN HB5.out _ | exact ext_drewN (ext_drewN HB5.out _) _⟩
      have d2 : decide (next ≤ id) = false := by simpa using c2
      by_cases c3 : seat < 0
      · have d3 : decide (seat < 0) = true := by simpa using c3
        have HN := Lib.hid (show BO = none by rw [← HOF2.out, mayR_no (.inr (.inr (.inl c3)))]; rfl)
        go_wp2_with fail
        refine wp_region_quiet_lit (by kernel_rfl) (by kernel_rfl) ?_
        repeat (first | go_big_quiet_step ((fail)) | quiet_step ((fail)))
        refine wpQuiet_nil ?_
        intro _ hw'
        obtain ⟨nq, hw''⟩ := hw'
        subst hw''
        go_wp2_with fail
        go_ret
        exact ⟨by rw [HN.out]; rfl, by first | exact ext_drewN HB5.out _ | exact ext_drewN (ext_drewN HB5.out _) _⟩
      have d3 : decide (seat < 0) = false := by simpa using c3
      by_cases c4 : (n : Int) ≤ seat
      · have d4 : decide ((n : Int) ≤ seat) = true := by simpa using c4
        have HN := Lib.hid (show BO = none by rw [← HOF2.out, mayR_no (.inr (.inr (.inr (.inl c4))))]; rfl)
        go_wp2_with fail
        refine wp_region_quiet_lit (by kernel_rfl) (by kernel_rfl) ?_
        repeat (first | go_big_quiet_step ((fail)) | quiet_step ((fail)))
        refine wpQuiet_nil ?_
        intro _ hw'
        obtain ⟨nq, hw''⟩ := hw'
        subst hw''
        go_wp2_with fail
        go_ret
        exact ⟨by rw [HN.out]; rfl, by first | exact ext_drewN HB5.out _ | exact ext_drewN (ext_drewN HB5.out _) _⟩
      have d4 : decide ((n : Int) ≤ seat) = false := by simpa using c4
      obtain ⟨j, rfl⟩ : ∃ j : Nat, seat = (j : Int) := ⟨seat.toNat, by omega⟩
      have hjn : j < n := by omega
      have hjn1 : (j : Int) < (n : Int) := by omega
      have hj0 : (0 : Int) ≤ (j : Int) := by omega
      have x3 : w5.cell? ⟨sb, j, none⟩ = some (.bool (tkn L j)) := (HA5.out.cell j).trans (HC.out j hjn)
      have m3 : w5.frozen? ⟨sb, j, none⟩ = false := HA5.out.mark j
      cases c5 : tkn L j with
      | true =>
        rw [c5] at x3
        have HN := Lib.hid (show BO = none by rw [← HOF2.out, mayR_no (.inr (.inr (.inr (.inr (.inl (tkn_yes c5))))))]; rfl)
        go_wp2_with fail
        refine wp_region_quiet_lit (by kernel_rfl) (by kernel_rfl) ?_
        repeat (first | go_big_quiet_step ((fail)) | quiet_step ((fail)))
        refine wpQuiet_nil ?_
        intro _ hw'
        obtain ⟨nq, hw''⟩ := hw'
        subst hw''
        go_wp2_with fail
        go_ret
        exact ⟨by rw [HN.out]; rfl, by first | exact ext_drewN HB5.out _ | exact ext_drewN (ext_drewN HB5.out _) _⟩
      | false =>
        rw [c5] at x3
        have x4 : ∀ q, (w5.drewN q).cell? ⟨sb, j, none⟩ = some (.bool false) := fun _ => x3
        have m4 : ∀ q, (w5.drewN q).frozen? ⟨sb, j, none⟩ = false := fun _ => m3
        go_wp2_with fail
        refine wp_region_quiet_lit (by kernel_rfl) (by kernel_rfl) ?_
        repeat (first | go_big_quiet_step ((fail)) | quiet_step ((fail)))
        refine wpQuiet_nil ?_
        intro _ hw'
        obtain ⟨nq, hw''⟩ := hw'
        subst hw''
        go_wp2_with fail
        by_cases c6 : til = 0
        · subst c6
          have HSTEP := Lib.hid (show ofR n next clock (L ++ [⟨id, j, 0⟩]) id (l.drop (k + 1)) = ofR n next clock [] 0 l by
            rw [← HBO2.out, ← HOF2.out, mayR_ok (by omega) (by omega) hjn c5 (.inl rfl), if_pos rfl]; simp [toB])
          have hcs : ∀ j', j' < n → (cs.setIfInBounds j (.bool true))[j']? = some (.bool (tkn (L ++ [⟨id, j, 0⟩]) j')) := fun j' hj' => by
            rw [tkn_snoc, Array.getElem?_setIfInBounds]
            by_cases e : j = j'
            · subst e; rw [if_pos rfl, if_pos (by rw [HS.out]; exact hjn)]; simp
            · rw [if_neg e, HC.out j' hj']
              have : decide ((j : Int) = (j' : Int)) = false := decide_eq_false (by omega)
              simp [this]
          go_wp2_with fail
          refine wp_region_quiet_lit (by kernel_rfl) (by kernel_rfl) ?_
          repeat (first | go_big_quiet_step ((fail)) | quiet_step ((fail)))
          refine wpQuiet_nil ?_
          intro _ hw'
          obtain ⟨nq, hw''⟩ := hw'
          subst hw''
          go_wp2_with fail
          go_roundw
          case rel => exact ⟨k + 1, L ++ [⟨id, j, 0⟩], id, cs.setIfInBounds j (.bool true), by omega, rfl, by go_num, Arr.put (Arr.drewN HA5.out _) j _, by simp [HS.out], hcs, (ext_drewN HB5.out _).setCell (p := ⟨sb, j, none⟩) (by rw [← HSB.out]; exact Nat.le_refl _) _, HSTEP.out⟩
          case measure => simp [intOf]; omega
        have d6 : (til != 0) = true := by simpa using c6
        have d6' : (til == 0) = false := by simpa using c6
        by_cases c7 : til ≤ clock
        · have d7 : decide (til ≤ clock) = true := by simpa using c7
          have HN := Lib.hid (show BO = none by rw [← HOF2.out, mayR_no (.inr (.inr (.inr (.inr (.inr ⟨c6, .inl c7⟩)))))]; rfl)
          go_wp2_with fail
          refine wp_region_quiet_lit (by kernel_rfl) (by kernel_rfl) ?_
          repeat (first | go_big_quiet_step ((fail)) | quiet_step ((fail)))
          refine wpQuiet_nil ?_
          intro _ hw'
          obtain ⟨nq, hw''⟩ := hw'
          subst hw''
          go_wp2_with fail
          go_ret
          exact ⟨by rw [HN.out]; rfl, by first | exact ext_drewN HB5.out _ | exact ext_drewN (ext_drewN HB5.out _) _⟩
        have d7 : decide (til ≤ clock) = false := by simpa using c7
        by_cases c8 : 1099511627776 < til
        · have d8 : decide (1099511627776 < til) = true := by simpa using c8
          have HN := Lib.hid (show BO = none by rw [← HOF2.out, mayR_no (.inr (.inr (.inr (.inr (.inr ⟨c6, .inr c8⟩)))))]; rfl)
          go_wp2_with fail
          refine wp_region_quiet_lit (by kernel_rfl) (by kernel_rfl) ?_
          repeat (first | go_big_quiet_step ((fail)) | quiet_step ((fail)))
          refine wpQuiet_nil ?_
          intro _ hw'
          obtain ⟨nq, hw''⟩ := hw'
          subst hw''
          go_wp2_with fail
          go_ret
          exact ⟨by rw [HN.out]; rfl, by first | exact ext_drewN HB5.out _ | exact ext_drewN (ext_drewN HB5.out _) _⟩
        have d8 : decide (1099511627776 < til) = false := by simpa using c8
        have HSTEP := Lib.hid (show ofR n next clock (L ++ [⟨id, j, til⟩]) id (l.drop (k + 1)) = ofR n next clock [] 0 l by
          rw [← HBO2.out, ← HOF2.out, mayR_ok (by omega) (by omega) hjn c5 (.inr (by omega)), if_pos rfl]; simp [toB])
        have hcs : ∀ j', j' < n → (cs.setIfInBounds j (.bool true))[j']? = some (.bool (tkn (L ++ [⟨id, j, til⟩]) j')) := fun j' hj' => by
          rw [tkn_snoc, Array.getElem?_setIfInBounds]
          by_cases e : j = j'
          · subst e; rw [if_pos rfl, if_pos (by rw [HS.out]; exact hjn)]; simp
          · rw [if_neg e, HC.out j' hj']
            have : decide ((j : Int) = (j' : Int)) = false := decide_eq_false (by omega)
            simp [this]
        go_wp2_with fail
        refine wp_region_quiet_lit (by kernel_rfl) (by kernel_rfl) ?_
        repeat (first | go_big_quiet_step ((fail)) | quiet_step ((fail)))
        refine wpQuiet_nil ?_
        intro _ hw'
        obtain ⟨nq, hw''⟩ := hw'
        subst hw''
        go_wp2_with fail
        go_roundw
        case rel => exact ⟨k + 1, L ++ [⟨id, j, til⟩], id, cs.setIfInBounds j (.bool true), by omega, rfl, by go_num, Arr.put (Arr.drewN HA5.out _) j _, by simp [HS.out], hcs, (ext_drewN HB5.out _).setCell (p := ⟨sb, j, none⟩) (by rw [← HSB.out]; exact Nat.le_refl _) _, HSTEP.out⟩
        case measure => simp [intOf]; omega
    · obtain rfl : k = l.length := by omega
      have hfin : BO = some L := by rw [HBO2.out, ← HOF.out, List.drop_length]; rfl
      have HFIN := Lib.hid hfin
      clear hfin
      go_wp2_with fail
      go_ret
      exact ⟨by rw [HFIN.out]; rfl, HBL.out⟩

end Go.Proofs.YtpoijhjjbmaedaaGreatDoor.Man
