/- Copies of lists of bookings and of lines; the reference's book: New, Of, taken, At. -/
import Derived.Test.YtpoijhjjbmaedaaGreatDoorMan17
import Derived.Test.YtpoijhjjbmaedaaGreatDoorMan19
set_option linter.unusedVariables false
set_option linter.unusedSimpArgs false
namespace Go.Proofs.YtpoijhjjbmaedaaGreatDoor.Man
open Go.RowKit
open Go.Proofs.YtpoijhjjbmaedaaGreatDoor.Bk (Bkg Raw rawL Raws bookOf ofR mayR toB)

theorem RowIn.raws {S : Nat → Prop} {w : World} {A : Option Addr} {c : Nat} {l : List Raw} (h : RowIn S w 78 3 (.slice A l.length c) l.length (rowR l)) : Raws w A l := fun hne => by
  have hpos : 0 < l.length := by
    rcases Nat.eq_zero_or_pos l.length with h0 | h0
    · exact absurd (List.eq_nil_of_length_eq_zero h0) hne
    · exact h0
  obtain ⟨g, cap, hv, _, _, _, hg⟩ := RowIn.form h hpos
  injection hv with h1 _ h2
  subst h1 h2
  exact ⟨g, 0, rfl, hg, fun k hk => by rw [Nat.zero_add]; exact RowIn.range h (rowR_len l) hk⟩

def CopyLnOut (l : List Ln) (w : World) (e : Ending) (w' : World) : Prop := ∃ (VA : Option Addr) (vc : Nat), e = .returned (.slice VA l.length vc) ∧ RowIn (fun k => w.heap.size ≤ k) w' 74 3 (.slice VA l.length vc) l.length (rowC l) ∧ Below w.heap.size w w'
set_option maxRecDepth 100000 in
set_option maxHeartbeats 2000000 in
theorem CopyLines_in (l : List Ln) (A : Option Addr) (c : Nat) (w : World) (hI : Lines w A l) (hA : A = none → l = [] ∧ c = 0) (hlen : l.length * 40 ≤ 140737488351232) :
    Calls Tryz.prog 30 #[.slice A l.length c] w (CopyLnOut l w) := by
  obtain ⟨i0, hi, hz0, hz1, hz2⟩ := info_parts line_info
  cases A with
  | none =>
    obtain ⟨rfl, rfl⟩ := hA rfl
    clear hI hA
    go_enter Tryz.func30, Tryz.ntmps30
    go_wp2_with (at_builtin; refine wpList_append_own_none rfl (.tmp 4) (.tmp 5) 39 rfl w.heap.size 74 i0 3 Tryz.underlying39 hi hz1 _ 0 [] rfl (own_nil w w.heap.size 3 74) rfl ?_)
    go_ret
    exact ⟨none, 0, rfl, RowIn.nil _ _ _ _ _, by first | exact Below.refl _ _ | exact ext_drewN (Below.refl _ _) _⟩
  | some ad =>
    obtain ⟨L, hL⟩ : ∃ L, l.length = L := ⟨_, rfl⟩
    have HII := Lib.hid hI
    rw [hL] at hlen ⊢
    have HL := Lib.hid hL
    clear hI hL hA
    go_enter Tryz.func30, Tryz.ntmps30
    go_wp2_with (at_builtin; refine wpList_append_own _ rfl (.tmp 4) (.tmp 5) 39 rfl w.heap.size 74 i0 (.agg #[.string ⟨#[]⟩, .string ⟨#[]⟩, .bool false]) 3 40 Tryz.underlying39 hi hz0 hz1 hz2 rfl (by decide) (.slice none 0 0) 0 [] rfl (own_nil w w.heap.size 3 74) ad L c (flat (rowC l) L) rfl (by rw [flat_length (rowC_len l)]) (by have := lines_read HII.out; rw [HL.out] at this; exact this) (flat_ones (rowC_len l) (fun i => lineL_one _) L) (by unfold maxLen; omega) (by omega) (by omega) ?_; intro v2 w2 hown2 hg2 hnil2; have HW2 := Lib.hid hown2; have HG2 := Lib.hid hg2; obtain ⟨VA, vc, hv2⟩ := own_slice hown2; subst hv2; clear hown2 hg2 hnil2)
    have hw2 := HW2.out
    rw [Nat.zero_add, List.nil_append] at hw2
    have hr2 : RowIn (fun j => w.heap.size ≤ j) w2 74 3 (.slice VA L vc) L (rowC l) :=
      ⟨own_base_le hw2 (Nat.zero_le _), fun g hg => (own_lt hw2 hg).2⟩
    go_ret
    refine ⟨VA, vc, ?_, by rw [HL.out]; exact hr2, Below.grown (Below.refl _ _) HG2.out (Nat.le_refl _) (fun k hk => by simp [Value.ownBlock] at hk)⟩
    rw [HL.out]
    simp

def CopyRwOut (l : List Raw) (w : World) (e : Ending) (w' : World) : Prop := ∃ (VA : Option Addr) (vc : Nat), e = .returned (.slice VA l.length vc) ∧ RowIn (fun k => w.heap.size ≤ k) w' 78 3 (.slice VA l.length vc) l.length (rowR l) ∧ Below w.heap.size w w'
set_option maxRecDepth 100000 in
set_option maxHeartbeats 2000000 in
theorem CopyBookings_in (l : List Raw) (A : Option Addr) (c : Nat) (w : World) (hI : Raws w A l) (hA : A = none → l = [] ∧ c = 0) (hlen : l.length * 24 ≤ 140737488351232) :
    Calls Tryz.prog 12 #[.slice A l.length c] w (CopyRwOut l w) := by
  obtain ⟨i0, hi, hz0, hz1, hz2⟩ := info_parts Bk.bkg_info
  cases A with
  | none =>
    obtain ⟨rfl, rfl⟩ := hA rfl
    clear hI hA
    go_enter Tryz.func12, Tryz.ntmps12
    go_wp2_with (at_builtin; refine wpList_append_own_none rfl (.tmp 4) (.tmp 5) 27 rfl w.heap.size 78 i0 3 Tryz.underlying27 hi hz1 _ 0 [] rfl (own_nil w w.heap.size 3 78) rfl ?_)
    go_ret
    exact ⟨none, 0, rfl, RowIn.nil _ _ _ _ _, by first | exact Below.refl _ _ | exact ext_drewN (Below.refl _ _) _⟩
  | some ad =>
    obtain ⟨L, hL⟩ : ∃ L, l.length = L := ⟨_, rfl⟩
    have HII := Lib.hid hI
    rw [hL] at hlen ⊢
    have HL := Lib.hid hL
    clear hI hL hA
    go_enter Tryz.func12, Tryz.ntmps12
    go_wp2_with (at_builtin; refine wpList_append_own _ rfl (.tmp 4) (.tmp 5) 27 rfl w.heap.size 78 i0 (.agg #[.int .u32 0, .int .i64 0, .int .i64 0]) 3 24 Tryz.underlying27 hi hz0 hz1 hz2 rfl (by decide) (.slice none 0 0) 0 [] rfl (own_nil w w.heap.size 3 78) ad L c (flat (rowR l) L) rfl (by rw [flat_length (rowR_len l)]) (by have := raws_read HII.out; rw [HL.out] at this; exact this) (flat_ones (rowR_len l) (fun i => raw_one _) L) (by unfold maxLen; omega) (by omega) (by omega) ?_; intro v2 w2 hown2 hg2 hnil2; have HW2 := Lib.hid hown2; have HG2 := Lib.hid hg2; obtain ⟨VA, vc, hv2⟩ := own_slice hown2; subst hv2; clear hown2 hg2 hnil2)
    have hw2 := HW2.out
    rw [Nat.zero_add, List.nil_append] at hw2
    have hr2 : RowIn (fun j => w.heap.size ≤ j) w2 78 3 (.slice VA L vc) L (rowR l) :=
      ⟨own_base_le hw2 (Nat.zero_le _), fun g hg => (own_lt hw2 hg).2⟩
    go_ret
    refine ⟨VA, vc, ?_, by rw [HL.out]; exact hr2, Below.grown (Below.refl _ _) HG2.out (Nat.le_refl _) (fun k hk => by simp [Value.ownBlock] at hk)⟩
    rw [HL.out]
    simp

/-- a book of the reference that is not there -/
abbrev rb0 : Array Value := #[.bool false, .int .i64 0, .int .i64 0, .int .i64 0, .slice none 0 0, .int .u32 0, .int .i64 0]
-- gangwayref17.New
set_option maxRecDepth 100000 in
set_option maxHeartbeats 2000000 in
theorem rNew_no (a b c : Int) (w : World) (h : Geo.okS a b c = false) : Calls Tryz.prog 41 #[.agg #[.int .i64 a, .int .i64 b, .int .i64 c]] w fun e w' => ∃ nb, e = .returned (.tuple #[.pointer (some ⟨nb, 0, none⟩), .int .i64 90]) ∧ Arr w' nb 52 rb0 ∧ Below w.heap.size w w' := by
  have HC := Lib.hid (fun W => Geo.rcheck_no a b c W h)
  clear h
  go_enter Tryz.func41, Tryz.ntmps41
  go_wp2_with fail
  refine (HC.out _).mono ?_
  rintro e w1 ⟨rfl, hb⟩
  have HB := Lib.hid (ext_trans (ext_alloc (Below.refl w.heap.size w) (.cells #[.int .i64 a, .int .i64 b, .int .i64 c] 26)) hb)
  clear hb
  go_wp2_with fail
  go_ret2
  exact ⟨w1.heap.size, rfl, Arr.fresh w1 _ _, ext_alloc HB.out _⟩
set_option maxRecDepth 100000 in
set_option maxHeartbeats 2000000 in
theorem rNew_yes (n codes : Nat) (group : Int) (w : World) (h : Geo.okS n codes group = true) : Calls Tryz.prog 41 #[.agg #[.int .i64 n, .int .i64 codes, .int .i64 group]] w fun e w' => ∃ nb, e = .returned (.tuple #[.pointer (some ⟨nb, 0, none⟩), .int .i64 0]) ∧ Arr w' nb 52 #[.bool true, .int .i64 n, .int .i64 codes, .int .i64 group, .slice none 0 0, .int .u32 1, .int .i64 0] ∧ w.heap.size ≤ nb ∧ Below w.heap.size w w' := by
  have HC := Lib.hid (fun W => Geo.rcheck_yes n codes group W h)
  have hb0 := ext_alloc (Below.refl w.heap.size w) (.cells #[.int .i64 n, .int .i64 codes, .int .i64 group] 26)
  have hA0 := Arr.fresh w 26 #[.int .i64 n, .int .i64 codes, .int .i64 group]
  have HB0 := Lib.hid hb0; have HA0 := Lib.hid hA0
  clear h hb0 hA0
  go_enter Tryz.func41, Tryz.ntmps41
  go_wp2_with fail
  refine (HC.out _).mono ?_
  rintro e w1 ⟨rfl, hb1⟩
  have hA1 := HA0.out.keep hb1
  have HB1 := Lib.hid (ext_trans HB0.out hb1)
  have x0 : w1.cell? ⟨w.heap.size, 0, none⟩ = some (.int .i64 n) := hA1.cell 0
  have x1 : w1.cell? ⟨w.heap.size, 1, none⟩ = some (.int .i64 codes) := hA1.cell 1
  have x2 : w1.cell? ⟨w.heap.size, 2, none⟩ = some (.int .i64 group) := hA1.cell 2
  clear hb1 hA1
  go_wp2_with fail
  go_ret2
  exact ⟨w1.heap.size, rfl, Arr.fresh w1 _ _, HB1.out.size, ext_alloc HB1.out _⟩

/-- what the reference's Of answers -/
def rOfOut (n codes : Nat) (group next clock : Int) (l : List Raw) (w : World) (e : Ending) (w' : World) : Prop := Below w.heap.size w w' ∧
  match bookOf n codes next clock l with
  | none => ∃ b, e = .returned (.tuple #[.pointer (some ⟨b, 0, none⟩), .int .i64 180]) ∧ Arr w' b 52 rb0
  | some _ => ∃ b VA vc, e = .returned (.tuple #[.pointer (some ⟨b, 0, none⟩), .int .i64 0]) ∧ Arr w' b 52 (rbC true n codes group next clock (.slice VA l.length vc)) ∧ Raws w' VA l
-- gangwayref17.Of
set_option maxRecDepth 100000 in
set_option maxHeartbeats 2000000 in
theorem rOf_no (a b c next clock : Int) (A : Option Addr) (len cap : Nat) (w : World) (h : Geo.okS a b c = false) : Calls Tryz.prog 13 #[.agg #[.int .i64 a, .int .i64 b, .int .i64 c], .int .u32 next, .int .i64 clock, .slice A len cap] w fun e w' => (∃ nb, e = .returned (.tuple #[.pointer (some ⟨nb, 0, none⟩), .int .i64 90]) ∧ Arr w' nb 52 rb0) ∧ Below w.heap.size w w' := by
  have HC := Lib.hid (fun W => rNew_no a b c W h)
  clear h
  go_enter Tryz.func13, Tryz.ntmps13
  go_wp2_with fail
  refine (HC.out _).mono ?_
  rintro e w1 ⟨nb, rfl, hA, hb⟩
  have HB := Lib.hid (ext_trans (ext_alloc (Below.refl w.heap.size w) (.cells #[.int .i64 a, .int .i64 b, .int .i64 c] 26)) hb)
  have HA := Lib.hid hA
  clear hb hA
  go_wp2_with fail
  go_ret2
  exact ⟨⟨nb, rfl, HA.out⟩, HB.out⟩
set_option maxRecDepth 100000 in
set_option maxHeartbeats 2000000 in
theorem rOf_in (n codes : Nat) (group next clock : Int) (l : List Raw) (A : Option Addr) (cap : Nat) (w : World) (h : Geo.okS n codes group = true) (hr : Raws w A l) (hA : A = none → l = [] ∧ cap = 0) (hl : l.length * 24 ≤ 140737488351232) (hnx : 0 ≤ next ∧ next < 4294967296) (hids : ∀ x ∈ l, 0 ≤ x.id ∧ x.id < 4294967296) :
    Calls Tryz.prog 13 #[.agg #[.int .i64 n, .int .i64 codes, .int .i64 group], .int .u32 next, .int .i64 clock, .slice A l.length cap] w (rOfOut n codes group next clock l w) := by
  obtain ⟨i0, hi, hz0, hz1, hz2⟩ := info_parts Bk.bkg_info
  have hok := Geo.okS_yes h
  have hn : n ≤ 1024 := by omega
  have hcd : codes ≤ 4096 := by omega
  have HC := Lib.hid (fun W => rNew_yes n codes group W h)
  have HR := Lib.hid hr; have HIDS := Lib.hid hids; have HAA := Lib.hid hA
  clear h hok hr hids hA
  go_enter Tryz.func13, Tryz.ntmps13
  go_wp2_with fail
  refine (HC.out _).mono ?_
  rintro e w1 ⟨nb, rfl, hA1, hnb, hb1⟩
  have HB1 := Lib.hid (ext_trans (ext_alloc (Below.refl w.heap.size w) (.cells #[.int .i64 n, .int .i64 codes, .int .i64 group] 26)) hb1)
  have HA1 := Lib.hid hA1
  have HNB := Lib.hid (show w.heap.size ≤ nb by simp at hnb; omega)
  have x0 : w1.cell? ⟨nb, 5, none⟩ = some (.int .u32 1) := hA1.cell 5
  have x1 : w1.cell? ⟨nb, 6, none⟩ = some (.int .i64 0) := hA1.cell 6
  have x2 : w1.cell? ⟨nb, 4, none⟩ = some (.slice none 0 0) := hA1.cell 4
  have m0 := hA1.mark 5
  have m1 := hA1.mark 6
  have m2 := hA1.mark 4
  have hbl := hA1.lt
  clear hb1 hA1 hnb
  have hB2 : Below w.heap.size w ((w1.setCell ⟨nb, 5, none⟩ (.int .u32 next)).setCell ⟨nb, 6, none⟩ (.int .i64 clock)) := (HB1.out.setCell (p := ⟨nb, 5, none⟩) HNB.out _).setCell (p := ⟨nb, 6, none⟩) HNB.out _
  have hA2 : Arr ((w1.setCell ⟨nb, 5, none⟩ (.int .u32 next)).setCell ⟨nb, 6, none⟩ (.int .i64 clock)) nb 52 #[.bool true, .int .i64 n, .int .i64 codes, .int .i64 group, .slice none 0 0, .int .u32 next, .int .i64 clock] := Arr.put (Arr.put HA1.out 5 _) 6 _
  have HB2 := Lib.hid hB2; have HA2 := Lib.hid hA2
  clear hB2 hA2
  cases A with
  | none =>
    obtain ⟨rfl, rfl⟩ := HAA.out rfl
    go_wp2_with (at_builtin; refine wpList_append_own_none rfl (.tmp 33) (.tmp 34) 27 rfl w.heap.size 78 i0 3 Tryz.underlying27 hi hz1 _ 0 [] rfl (own_nil _ w.heap.size 3 78) rfl ?_)
    have HA5 := HA2; have HB5 := HB2
    have hA6 : Arr (((w1.setCell ⟨nb, 5, none⟩ (.int .u32 next)).setCell ⟨nb, 6, none⟩ (.int .i64 clock)).setCell ⟨nb, 4, none⟩ (.slice none 0 0)) nb 52 (rbC true n codes group next clock (.slice none 0 0)) := Arr.put HA5.out 4 _
    have hB6 : Below w.heap.size w (((w1.setCell ⟨nb, 5, none⟩ (.int .u32 next)).setCell ⟨nb, 6, none⟩ (.int .i64 clock)).setCell ⟨nb, 4, none⟩ (.slice none 0 0)) := HB5.out.setCell (p := ⟨nb, 4, none⟩) HNB.out _
    have hR6 : Raws (((w1.setCell ⟨nb, 5, none⟩ (.int .u32 next)).setCell ⟨nb, 6, none⟩ (.int .i64 clock)).setCell ⟨nb, 4, none⟩ (.slice none 0 0)) none [] := fun h => absurd rfl h
    have HA6 := Lib.hid hA6; have HB6 := Lib.hid hB6; have HR6 := Lib.hid hR6
    clear hA6 hB6 hR6
    go_wp2_with fail
    refine (rMay_in nb n codes group next clock [] none 0 _ HA6.out HR6.out hn hcd (by simp) hnx HIDS.out).mono ?_
    rintro e w7 ⟨rfl, hb7⟩
    have HA7 := Lib.hid (HA6.out.keep hb7); have HB7 := Lib.hid (ext_trans HB6.out hb7); have HR7 := Lib.hid (HR6.out.keep hb7)
    clear hb7
    cases hbo : bookOf n codes next clock [] with
    | none =>
      simp only [Option.isSome_none]
      go_wp2_with fail
      go_ret2
      refine ⟨ext_alloc HB7.out _, ?_⟩
      rw [hbo]
      exact ⟨_, rfl, Arr.fresh w7 _ _⟩
    | some L2 =>
      simp only [Option.isSome_some]
      go_wp2_with fail
      go_ret2
      refine ⟨HB7.out, ?_⟩
      rw [hbo]
      exact ⟨nb, none, 0, rfl, HA7.out, HR7.out⟩
  | some ad =>
    have hnews := raws_read (HR.out.keep HB2.out)
    have HNEWS := Lib.hid hnews
    clear hnews
    go_wp2_with (at_builtin; refine wpList_append_own _ rfl (.tmp 33) (.tmp 34) 27 rfl w.heap.size 78 i0 (.agg #[.int .u32 0, .int .i64 0, .int .i64 0]) 3 24 Tryz.underlying27 hi hz0 hz1 hz2 rfl (by decide) (.slice none 0 0) 0 [] rfl (own_nil _ w.heap.size 3 78) ad l.length cap (flat (rowR l) l.length) rfl (by rw [flat_length (rowR_len l)]) HNEWS.out (flat_ones (rowR_len l) (fun i => raw_one _) l.length) (by unfold maxLen; omega) (by omega) HB2.out.size ?_; intro v2 w5 hown2 hg2 hnil2; have HW2 := Lib.hid hown2; have HG2 := Lib.hid hg2; obtain ⟨VA, vc, hv2⟩ := own_slice hown2; subst hv2; have hA5 : Arr w5 nb 52 _ := Arr.grownTo HA2.out HG2.out (fun e => by simp [Value.ownBlock] at e); have HB5 := Lib.hid (HB2.out.grown HG2.out HB2.out.size (fun k hk => by simp [Value.ownBlock] at hk)); have x3 : w5.cell? ⟨nb, 4, none⟩ = some (.slice none 0 0) := hA5.cell 4; have m3 := hA5.mark 4; have hbl5 := hA5.lt; have HA5 := Lib.hid hA5; clear hown2 hg2 hnil2 hA5)
    have hw2 := HW2.out
    rw [Nat.zero_add, List.nil_append] at hw2
    have hr2 : RowIn (fun j => w.heap.size ≤ j) w5 78 3 (.slice VA l.length vc) l.length (rowR l) :=
      ⟨own_base_le hw2 (Nat.zero_le _), fun g hg => (own_lt hw2 hg).2⟩
    have HR2 := Lib.hid hr2
    clear hw2 hr2
    have hA6 : Arr (w5.setCell ⟨nb, 4, none⟩ (.slice VA l.length vc)) nb 52 (rbC true n codes group next clock (.slice VA l.length vc)) := Arr.put HA5.out 4 _
    have hB6 : Below w.heap.size w (w5.setCell ⟨nb, 4, none⟩ (.slice VA l.length vc)) := HB5.out.setCell (p := ⟨nb, 4, none⟩) HNB.out _
    have hR6 : Raws (w5.setCell ⟨nb, 4, none⟩ (.slice VA l.length vc)) VA l := RowIn.raws (RowIn.put HR2.out (fun g hg => RowIn.ne_arr HR2.out hg HA5.out (by decide)) _)
    have HA6 := Lib.hid hA6; have HB6 := Lib.hid hB6; have HR6 := Lib.hid hR6
    clear hA6 hB6 hR6
    go_wp2_with fail
    refine (rMay_in nb n codes group next clock l VA vc _ HA6.out HR6.out hn hcd (by omega) hnx HIDS.out).mono ?_
    rintro e w7 ⟨rfl, hb7⟩
    have HA7 := Lib.hid (HA6.out.keep hb7); have HB7 := Lib.hid (ext_trans HB6.out hb7); have HR7 := Lib.hid (HR6.out.keep hb7)
    clear hb7
    cases hbo : bookOf n codes next clock l with
    | none =>
      simp only [Option.isSome_none]
      go_wp2_with fail
      go_ret2
      refine ⟨ext_alloc HB7.out _, ?_⟩
      rw [hbo]
      exact ⟨_, rfl, Arr.fresh w7 _ _⟩
    | some L2 =>
      simp only [Option.isSome_some]
      go_wp2_with fail
      go_ret2
      refine ⟨HB7.out, ?_⟩
      rw [hbo]
      exact ⟨nb, VA, vc, rfl, HA7.out, HR7.out⟩

/-- a book of the reference, made -/
structure RBk (w : World) (b n codes : Nat) (group next clock : Int) (l : List Raw) (VA : Option Addr) (vc : Nat) : Prop where
  arr : Arr w b 52 (rbC true n codes group next clock (.slice VA l.length vc))
  list : Raws w VA l
theorem RBk.keep {w w' : World} {b n codes : Nat} {group next clock : Int} {l : List Raw} {VA : Option Addr} {vc : Nat} (h : RBk w b n codes group next clock l VA vc) (hb : Below w.heap.size w w') : RBk w' b n codes group next clock l VA vc := ⟨h.arr.keep hb, h.list.keep hb⟩
def TakenIs (l : List Raw) (s : Int) (r : Int) : Prop := (r = -1 ∧ ∀ i, i < l.length → (l.getD i r0).seat ≠ s) ∨ ∃ i : Nat, i < l.length ∧ r = (i : Int) ∧ (l.getD i r0).seat = s
-- gangwayref17.taken
set_option maxRecDepth 100000 in
set_option maxHeartbeats 2000000 in
theorem rTaken (b n codes : Nat) (group next clock : Int) (l : List Raw) (VA : Option Addr) (vc : Nat) (s : Int) (w : World) (h : RBk w b n codes group next clock l VA vc) (hl : l.length ≤ 1000000) :
    Calls Tryz.prog 88 #[.pointer (some ⟨b, 0, none⟩), .int .i64 s] w fun e w' => (∃ r, e = .returned (.int .i64 r) ∧ TakenIs l s r) ∧ Below w.heap.size w w' := by
  have y4 : w.cell? ⟨b, 4, none⟩ = some (.slice VA l.length vc) := h.arr.cell 4
  have HL := Lib.hid h.list
  clear h
  go_enter Tryz.func88, Tryz.ntmps88
  go_wp2_with fail
  go_loopw [5] (fun i wr => ∃ k n : Nat, k ≤ l.length ∧ i = .int .i64 k ∧ wr = w.drewN n ∧ ∀ j, j < k → (l.getD j r0).seat ≠ s) (fun i _ => (l.length - intOf i).toNat)
  case atStart => exact ⟨0, 0, by omega, rfl, rfl, fun j hj => by omega⟩
  case round =>
    obtain ⟨k, n, hk, rfl, rfl, hno⟩ := hrel
    have HNO := Lib.hid hno
    clear hno
    by_cases hkl : k < l.length
    · have hk1 : (k : Int) < (l.length : Int) := by omega
      have hk0 : (0 : Int) ≤ (k : Int) := by omega
      have hne : l ≠ [] := by intro e; subst e; simp at hkl
      obtain ⟨g2, off2, hA2, hgl2, hr2⟩ := HL.out hne
      subst hA2
      have q2 := hr2 k hkl
      obtain ⟨x, hx⟩ : ∃ x, l.getD k r0 = x := ⟨_, rfl⟩
      rw [show l.getD k ⟨0, 0, 0⟩ = x from hx] at q2
      have HX := Lib.hid hx
      have z1 : w.cell? ⟨g2, off2 + k * 3 + 1, none⟩ = some (.int .i64 x.seat) := q2 1 _ rfl
      clear q2 hr2 hx hne
      by_cases hs : x.seat = s
      · have hs1 : (x.seat == s) = true := by simpa using hs
        go_wp2_with fail
        go_ret
        exact ⟨⟨_, rfl, .inr ⟨k, hkl, rfl, by rw [HX.out]; exact hs⟩⟩, by repeat (first | with_reducible exact Below.refl _ _ | with_reducible refine ext_alloc ?_ _ | with_reducible refine ext_drew ?_ | with_reducible refine ext_drewN ?_ _ | (refine ext_setCell ?_ (by simp at *; omega) _) | with_reducible refine ext_trans ?_ (by assumption))⟩
      · have hs1 : (x.seat == s) = false := by simpa using hs
        go_wp2_with fail
        go_roundw
        case rel =>
          refine ⟨k + 1, _, by omega, by go_num, rfl, fun j hj => ?_⟩
          rcases Nat.lt_or_ge j k with h1 | h1
          · exact HNO.out j h1
          · obtain rfl : j = k := by omega
            rw [HX.out]; exact hs
        case measure => simp [intOf]; omega
    · obtain rfl : k = l.length := by omega
      go_wp2_with fail
      go_ret
      exact ⟨⟨_, rfl, .inl ⟨rfl, HNO.out⟩⟩, by repeat (first | with_reducible exact Below.refl _ _ | with_reducible refine ext_alloc ?_ _ | with_reducible refine ext_drew ?_ | with_reducible refine ext_drewN ?_ _ | (refine ext_setCell ?_ (by simp at *; omega) _) | with_reducible refine ext_trans ?_ (by assumption))⟩
-- gangwayref17.At
def AtIs (l : List Raw) (s : Int) (e : Ending) : Prop := (e = .returned (.tuple #[.agg #[.int .u32 0, .int .i64 0, .int .i64 0], .int .i64 171]) ∧ ∀ i, i < l.length → (l.getD i r0).seat ≠ s) ∨ ∃ i : Nat, i < l.length ∧ (l.getD i r0).seat = s ∧ e = .returned (.tuple #[.agg #[.int .u32 (l.getD i r0).id, .int .i64 (l.getD i r0).seat, .int .i64 (l.getD i r0).til], .int .i64 0])
set_option maxRecDepth 100000 in
set_option maxHeartbeats 2000000 in
theorem rAt (b n codes : Nat) (group next clock : Int) (l : List Raw) (VA : Option Addr) (vc : Nat) (s : Nat) (w : World) (h : RBk w b n codes group next clock l VA vc) (hl : l.length ≤ 1000000) (hs : s < n) (hn : n ≤ 1024) :
    Calls Tryz.prog 49 #[.pointer (some ⟨b, 0, none⟩), .int .i64 s] w fun e w' => AtIs l s e ∧ Below w.heap.size w w' := by
  have HH := Lib.hid h
  clear h
  have hs0 : (0 : Int) ≤ (s : Int) := by omega
  have hs1 : (s : Int) < (n : Int) := by omega
  have hs2 : decide ((s : Int) < 0) = false := decide_eq_false (by omega)
  have hs3 : decide ((n : Int) ≤ (s : Int)) = false := decide_eq_false (by omega)
  have hb1 := ext_alloc (Below.refl w.heap.size w) (.cells #[.int .u32 0, .int .i64 0, .int .i64 0] 78)
  have hH1 := HH.out.keep hb1
  have y0 : (w.alloc (.cells #[.int .u32 0, .int .i64 0, .int .i64 0] 78)).cell? ⟨b, 0, none⟩ = some (.bool true) := hH1.arr.cell 0
  have y1 : (w.alloc (.cells #[.int .u32 0, .int .i64 0, .int .i64 0] 78)).cell? ⟨b, 1, none⟩ = some (.int .i64 n) := hH1.arr.cell 1
  have HB1 := Lib.hid hb1; have HH1 := Lib.hid hH1
  clear hb1 hH1
  go_enter Tryz.func49, Tryz.ntmps49
  go_wp2_with fail
  refine (rTaken b n codes group next clock l VA vc s _ HH1.out hl).mono ?_
  rintro e w2 ⟨⟨r, rfl, ht⟩, hb2⟩
  have hA2 := (Arr.fresh w 78 #[.int .u32 0, .int .i64 0, .int .i64 0]).keep hb2
  have HB2 := Lib.hid (ext_trans HB1.out hb2)
  have hH2 := HH1.out.keep hb2
  have HA2 := Lib.hid hA2
  have z4 : w2.cell? ⟨b, 4, none⟩ = some (.slice VA l.length vc) := hH2.arr.cell 4
  have HL2 := Lib.hid hH2.list
  clear hb2 hA2 y0 y1 hH2
  rcases ht with ⟨rfl, hno⟩ | ⟨i, hi, rfl, hse⟩
  · have HNO := Lib.hid hno
    clear hno
    go_wp2_with (refine wpList_store_blk rfl 78 _ _ rfl w.heap.size 78 _ #[.int .u32 0, .int .i64 0, .int .i64 0] HA2.out rfl rfl rfl Bk.bkg_size (by simp [Value.oneCell']) ?_; intro wz hAz hgz hsz; have HAZ := Lib.hid hAz; have HGZ := Lib.hid hgz; clear hAz hgz hsz)
    exact bodyPost_ret (results_cell_tmp Tryz.results49 _ (by rfl) (run_load_blk 78 HAZ.out _ Tryz.underlying78 rfl Bk.bkg_size)) rfl ⟨.inl ⟨rfl, HNO.out⟩, ext_only HB2.out HGZ.out (Nat.le_refl _)⟩
  · have hi1 : (i : Int) < (l.length : Int) := by omega
    have hi0 : (0 : Int) ≤ (i : Int) := by omega
    have hi2 : ¬ (i : Int) < 0 := by omega
    have hne : l ≠ [] := by intro e; subst e; simp at hi
    obtain ⟨g2, off2, hA3, hgl2, hr2⟩ := HL2.out hne
    subst hA3
    have q2 := hr2 i hi
    have HSE := Lib.hid hse
    have hq : w2.rangeAt g2 (off2 + i * 3) [.int .u32 (l.getD i r0).id, .int .i64 (l.getD i r0).seat, .int .i64 (l.getD i r0).til] := q2
    have HQ := Lib.hid hq
    clear q2 hr2 hne hse hq
    go_wp2_with (first | (refine wpList_load_mid rfl 78 _ rfl g2 (off2 + i * 3) rfl _ _ HQ.out Tryz.underlying78 rfl rfl ?_) | (refine wpList_store_blk rfl 78 _ _ rfl w.heap.size 78 _ #[.int .u32 (l.getD i r0).id, .int .i64 (l.getD i r0).seat, .int .i64 (l.getD i r0).til] HA2.out rfl rfl rfl Bk.bkg_size (by simp [Value.oneCell']) ?_; intro wz hAz hgz hsz; have HAZ := Lib.hid hAz; have HGZ := Lib.hid hgz; clear hAz hgz hsz))
    exact bodyPost_ret (results_cell_tmp Tryz.results49 _ (by rfl) (run_load_blk 78 HAZ.out _ Tryz.underlying78 rfl Bk.bkg_size)) rfl ⟨.inr ⟨i, hi, HSE.out, rfl⟩, ext_only HB2.out HGZ.out (Nat.le_refl _)⟩
end Go.Proofs.YtpoijhjjbmaedaaGreatDoor.Man
