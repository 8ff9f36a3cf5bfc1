/- The law of new memory (ManifestKeeps). -/
import Derived.Test.YtpoijhjjbmaedaaGreatDoorMan22
import Derived.Test.YtpoijhjjbmaedaaGreatDoorMan30
import Derived.Test.YtpoijhjjbmaedaaGreatDoorManB
set_option linter.unusedVariables false
set_option linter.unusedSimpArgs false
namespace Go.Proofs.YtpoijhjjbmaedaaGreatDoor.Man
open Go.RowKit
open Go.Proofs.YtpoijhjjbmaedaaGreatDoor.Bk (Bkg BookAt Parts Comp)
open Go.Proofs.YtpoijhjjbmaedaaGreatDoor.Fl (At Lists inG ApartLines Blk)

def untrip (y : List UInt8 × List UInt8 × Bool) : Ln := ⟨⟨y.1.toArray⟩, ⟨y.2.1.toArray⟩, y.2.2⟩
theorem trip_untrip (ys : List (List UInt8 × List UInt8 × Bool)) : (ys.map untrip).map trip = ys := by
  rw [List.map_map]
  conv => rhs; rw [← List.map_id ys]
  apply List.map_congr_left
  rintro ⟨a, b, c⟩ _
  rfl
/-- what Parse answers of a text, each time -/
def ParseFix (s : ByteArray) (ls : List Ln) (r1 r2 : Int) (w : World) (e : Ending) (w' : World) : Prop :=
  (∃ v, e = .returned (.tuple #[v, .int .i64 r1, .int .i64 r2]) ∧ RowIn (fun k => w.heap.size ≤ k) w' 74 3 v ls.length (rowC ls)) ∧ Below w.heap.size w w'
theorem parse_fix (s : ByteArray) (hs : s.size ≤ 20000) : ∃ (ls : List Ln) (r1 r2 : Int), ∀ w e w', ParseOut s w e w' → ls.length ≤ 20000 ∧ ParseFix s ls r1 r2 w e w' := by
  rcases hz : sumL 0 (linesL s.data.toList) with ⟨ys, _ | k⟩
  · refine ⟨ys.map untrip, 0, 0, fun w e w' h => ?_⟩
    have hz2 : sumL 0 (linesL s.data.toList) = ((ys.map untrip).map trip, 0) := by rw [trip_untrip]; exact hz
    obtain ⟨hg, hb⟩ := ParseOut.good h hz2
    refine ⟨?_, hg, hb⟩
    obtain ⟨h, _⟩ := h
    rcases h with ⟨ls', v, h1, _, _⟩ | ⟨p, x, r, ls', h1, h2, h3, _⟩
    · have := good_sum h1
      rw [hz2] at this
      injection this with this _
      rw [map_trip_inj this]
      have hlen := congrArg List.length h1
      have hnl : (linesB s).length ≤ s.size := lineList_len s.size s
      simp only [List.length_map] at hlen
      omega
    · have := bad_sum h1 h2 h3
      rw [hz2] at this
      injection this with _ this
      omega
  · refine ⟨[], (k : Int) + 1, 150, fun w e w' h => ?_⟩
    obtain ⟨he, hb⟩ := ParseOut.bad h hz
    exact ⟨by simp, ⟨_, he, RowIn.nil _ _ _ _ _⟩, hb⟩
/-- a row's form -/
def Form (w : World) (lo : Nat) (A : Option Addr) (n cap : Nat) : Prop := n ≤ cap ∧ ((A = none ∧ n = 0 ∧ cap = 0) ∨ ∃ g, A = some ⟨g, 0, none⟩ ∧ lo ≤ g ∧ g < w.heap.size ∧ ∀ q, Blk w g cap q 0)
theorem Form.keep {w w' : World} {lo n cap : Nat} {A : Option Addr} (h : Form w lo A n cap) (hb : Below w.heap.size w w') : (∀ g, A = some ⟨g, 0, none⟩ → lo ≤ g ∧ g < w.heap.size ∧ ∀ q, Blk w' g cap q 0) := fun g hg => by
  rcases h.2 with ⟨h1, _⟩ | ⟨g2, h1, h2, h3, h4⟩
  · rw [h1] at hg; cases hg
  · rw [h1] at hg
    injection hg with hg
    injection hg with hg
    subst hg
    exact ⟨h2, h3, fun q => (h4 q).keep hb⟩
theorem row_form {w : World} {lo n : Nat} {v : Value} {c : Nat → List Value} (h : RowIn (fun k => lo ≤ k) w 74 3 v n c) : ∃ (A : Option Addr) (cap : Nat), v = .slice A n cap ∧ Form w lo A n cap := by
  rcases h.own.2 with ⟨hv, h0⟩ | ⟨g, cap, cur, hv, _, hh, h1, h2, h3, _⟩
  · subst h0
    exact ⟨none, 0, hv, Nat.le_refl _, .inl ⟨rfl, rfl, rfl⟩⟩
  · subst hv
    exact ⟨_, cap, rfl, h1, .inr ⟨g, rfl, h.block g rfl, (Array.getElem?_eq_some_iff.1 hh).1, fun q => ⟨cur, hh, h3, fun i hi => absurd hi (by omega)⟩⟩⟩
def pick4 {α : Type} (a b c d : α) : Nat → α
  | 0 => a
  | 1 => b
  | 2 => c
  | _ => d
theorem lists4 {w w2 w3 w4 w5 : World} {lo0 lo1 lo2 lo3 : Nat} {A0 A1 A2 A3 : Option Addr} {n0 n1 n2 n3 c0 c1 c2 c3 hd : Nat} (f0 : Form w2 lo0 A0 n0 c0) (f1 : Form w3 lo1 A1 n1 c1) (f2 : Form w4 lo2 A2 n2 c2) (f3 : Form w5 lo3 A3 n3 c3)
    (b0 : Below w2.heap.size w2 w) (b1 : Below w3.heap.size w3 w) (b2 : Below w4.heap.size w4 w) (b3 : Below w5.heap.size w5 w) (h1 : w2.heap.size ≤ lo1) (h2 : w3.heap.size ≤ lo2) (h3 : w4.heap.size ≤ lo3) (h4 : w5.heap.size ≤ hd) (l0 : lo0 ≤ w2.heap.size) (l1 : lo1 ≤ w3.heap.size) (l2 : lo2 ≤ w4.heap.size) (l3 : lo3 ≤ w5.heap.size)
    (s0 : n0 ≤ 30000) (s1 : n1 ≤ 30000) (s2 : n2 ≤ 30000) (s3 : n3 ≤ 30000)
    (hA : Arr w hd 39 #[.slice A0 n0 c0, .slice A1 n1 c1, .slice A2 n2 c2, .slice A3 n3 c3]) :
    Lists w hd 4 (pick4 A0 A1 A2 A3) (pick4 n0 n1 n2 n3) (pick4 c0 c1 c2 c3) ∧ ∀ g, inG (pick4 A0 A1 A2 A3) 4 g → (lo0 ≤ g ∧ g < w3.heap.size) ∨ (lo2 ≤ g ∧ g < w5.heap.size) := by
  have k0 := f0.keep b0
  have k1 := f1.keep b1
  have k2 := f2.keep b2
  have k3 := f3.keep b3
  have four : ∀ q, q < 4 → q = 0 ∨ q = 1 ∨ q = 2 ∨ q = 3 := fun q hq => by omega
  have hrange : ∀ q g, q < 4 → At (pick4 A0 A1 A2 A3) q g → (q = 0 ∧ lo0 ≤ g ∧ g < w2.heap.size) ∨ (q = 1 ∧ lo1 ≤ g ∧ g < w3.heap.size) ∨ (q = 2 ∧ lo2 ≤ g ∧ g < w4.heap.size) ∨ (q = 3 ∧ lo3 ≤ g ∧ g < w5.heap.size) := fun q g hq hg => by
    rcases four q hq with rfl | rfl | rfl | rfl
    · have := k0 g hg; exact .inl ⟨rfl, this.1, this.2.1⟩
    · have := k1 g hg; exact .inr (.inl ⟨rfl, this.1, this.2.1⟩)
    · have := k2 g hg; exact .inr (.inr (.inl ⟨rfl, this.1, this.2.1⟩))
    · have := k3 g hg; exact .inr (.inr (.inr ⟨rfl, this.1, this.2.1⟩))
  refine ⟨⟨fun q hq => ?_, fun q hq => ?_, fun p q g hp hq hpg hqg => ?_, fun ⟨q, hq, hqg⟩ => ?_, hA.lt, by omega, fun q hq => ?_⟩, fun g ⟨q, hq, hqg⟩ => ?_⟩
  · rcases four q hq with rfl | rfl | rfl | rfl
    · exact hA.cell 0
    · exact hA.cell 1
    · exact hA.cell 2
    · exact hA.cell 3
  · rcases four q hq with rfl | rfl | rfl | rfl
    · rcases f0.2 with h | ⟨g, h, _⟩
      · exact .inl h
      · exact .inr ⟨g, h, (k0 g h).2.2 0⟩
    · rcases f1.2 with h | ⟨g, h, _⟩
      · exact .inl h
      · exact .inr ⟨g, h, (k1 g h).2.2 1⟩
    · rcases f2.2 with h | ⟨g, h, _⟩
      · exact .inl h
      · exact .inr ⟨g, h, (k2 g h).2.2 2⟩
    · rcases f3.2 with h | ⟨g, h, _⟩
      · exact .inl h
      · exact .inr ⟨g, h, (k3 g h).2.2 3⟩
  · have r1 := hrange p g hp hpg
    have r2 := hrange q g hq hqg
    omega
  · have r1 := hrange q hd hq hqg
    omega
  · rcases four q hq with rfl | rfl | rfl | rfl
    · exact ⟨f0.1, s0⟩
    · exact ⟨f1.1, s1⟩
    · exact ⟨f2.1, s2⟩
    · exact ⟨f3.1, s3⟩
  · have r1 := hrange q g hq hqg
    omega
theorem Form.nil_cap {w : World} {lo n cap : Nat} {A : Option Addr} (h : Form w lo A n cap) (ls : List Ln) (hn : ls.length = n) : A = none → ls = [] ∧ cap = 0 := fun e => by
  rcases h.2 with ⟨_, h2, h3⟩ | ⟨g, h1, _⟩
  · exact ⟨List.eq_nil_of_length_eq_zero (by omega), h3⟩
  · rw [e] at h1; cases h1
/-- a row whose block is not touched -/
theorem RowIn.tch {S T : Nat → Prop} {w w' : World} {e : TypeId} {sz n : Nat} {v : Value} {c : Nat → List Value} (h : RowIn S w e sz v n c) (ht : Tch T w w') (hST : ∀ g, S g → g < w.heap.size → ¬ T g) : RowIn S w' e sz v n c :=
  h.same fun g hS hg => ht.block g hg (hST g hS hg)

set_option maxRecDepth 100000 in
set_option maxHeartbeats 4000000 in
theorem Keeps_in (s : ByteArray) (w : World) (hw : Wd w) (hs : s.size ≤ 140737488355328) :
    Calls Tryz.prog 8 #[.string s] w fun e w' => e = .returned (.bool true) ∧ Below w.heap.size w w' := by
  have HW := Lib.hid hw
  have hs1 : (s.size : Int) ≤ 140737488355328 := by omega
  clear hw hs
  go_enter Tryz.func8, Tryz.ntmps8
  go_wp2_with fail
  refine (awake_in w HW.out).mono ?_
  rintro e w1 ⟨rfl, hb1⟩
  have HB1 := Lib.hid hb1
  clear hb1
  by_cases hbig : (20000 : Int) < (s.size : Int)
  · go_wp2_with fail
    go_ret
    exact ⟨rfl, HB1.out⟩
  have hle : (s.size : Int) ≤ 20000 := by omega
  have HLE := Lib.hid (show s.size ≤ 20000 by omega)
  obtain ⟨ls, r1, r2, hfix⟩ := parse_fix s HLE.out
  have HFIX := Lib.hid hfix
  clear hfix
  go_wp2_with fail
  refine (Parse_at s w1 (HW.out.keep HB1.out) HLE.out).mono ?_
  rintro e w2 hp2
  obtain ⟨hlsl, ⟨v2, rfl, hr2⟩, hb2⟩ := HFIX.out _ _ _ hp2
  obtain ⟨A0, c0, rfl, f0⟩ := row_form hr2
  have HB2 := Lib.hid (ext_trans HB1.out hb2)
  have HR2 := Lib.hid hr2; have HF0 := Lib.hid f0
  have HS2 := Lib.hid hb2.size
  clear hp2 hb2 hr2 f0
  go_wp2_with fail
  refine (Parse_at s w2 (HW.out.keep HB2.out) HLE.out).mono ?_
  rintro e w3 hp3
  obtain ⟨_, ⟨v3, rfl, hr3⟩, hb3⟩ := HFIX.out _ _ _ hp3
  obtain ⟨A1, c1, rfl, f1⟩ := row_form hr3
  have HB3 := Lib.hid (ext_trans HB2.out hb3)
  have HQ3 := Lib.hid hb3
  have HR3 := Lib.hid hr3; have HF1 := Lib.hid f1
  clear hp3 hb3 hr3 f1
  go_wp2_with fail
  refine (six_in w3).mono ?_
  rintro e w4 ⟨⟨b, S, q, rfl, hbk, hS⟩, hb4⟩
  have HB4 := Lib.hid (ext_trans HB3.out hb4)
  have HQ4 := Lib.hid hb4
  have HBK4 := Lib.hid hbk; have HSS := Lib.hid hS
  clear hb4 hbk hS
  go_wp2_with fail
  refine (six_of HBK4.out (HW.out.tab.keep HB4.out)).mono ?_
  rintro e w5 ⟨v5, rfl, hr5, hb5⟩
  obtain ⟨A2, c2, rfl, f2⟩ := row_form hr5
  have HB5 := Lib.hid (ext_trans HB4.out hb5)
  have HQ5 := Lib.hid hb5
  have HR5 := Lib.hid hr5; have HF2 := Lib.hid f2
  have HBK5 := Lib.hid (HBK4.out.below hb5)
  clear hb5 hr5 f2
  go_wp2_with fail
  refine (six_of HBK5.out (HW.out.tab.keep HB5.out)).mono ?_
  rintro e w6 ⟨v6, rfl, hr6, hb6⟩
  obtain ⟨A3, c3, rfl, f3⟩ := row_form hr6
  have HB6 := Lib.hid (ext_trans HB5.out hb6)
  have HQ6 := Lib.hid hb6
  have HR6 := Lib.hid hr6; have HF3 := Lib.hid f3
  have HBK6 := Lib.hid (HBK5.out.below hb6)
  clear hb6 hr6 f3
  have H26 := Lib.hid (show Below w2.heap.size w2 w6 from ext_trans (ext_trans (ext_trans HQ3.out HQ4.out) HQ5.out) HQ6.out)
  have H36 := Lib.hid (show Below w3.heap.size w3 w6 from ext_trans (ext_trans HQ4.out HQ5.out) HQ6.out)
  go_wp2_with fail
  refine (CopyLines_in ls A0 c0 w6 (RowIn.lines (HR2.out.keep H26.out)) (HF0.out.nil_cap ls rfl) (by omega)).mono ?_
  rintro e w7 ⟨K0, kc0, rfl, hk7, hb7⟩
  have HK7 := Lib.hid hk7
  have HQ7 := Lib.hid hb7
  clear hk7 hb7
  go_wp2_with fail
  refine (CopyLines_in sixL A2 c2 w7 (RowIn.lines (HR5.out.keep (ext_trans HQ6.out HQ7.out))) (HF2.out.nil_cap sixL rfl) (by decide)).mono ?_
  rintro e w8 ⟨K1, kc1, rfl, hk8, hb8⟩
  have HK8 := Lib.hid hk8
  have HQ8 := Lib.hid hb8
  have H68 := Lib.hid (ext_trans HQ7.out hb8)
  clear hk8 hb8
  go_wp2_with fail
  refine (SameLines_in ls A0 A1 c0 c1 w8 (RowIn.lines (HR2.out.keep (ext_trans H26.out H68.out))) (RowIn.lines (HR3.out.keep (ext_trans H36.out H68.out))) (by omega)).mono ?_
  rintro e w9 ⟨rfl, hb9⟩
  have H69 := Lib.hid (ext_trans H68.out hb9)
  have HQ9 := Lib.hid hb9
  clear hb9
  go_wp2_with fail
  have hb10 := ext_alloc (Below.refl w9.heap.size w9) (.cells #[.slice A0 ls.length c0, .slice A1 ls.length c1, .slice A2 sixL.length c2, .slice A3 sixL.length c3] 39)
  have hA10 := Arr.fresh w9 39 #[.slice A0 ls.length c0, .slice A1 ls.length c1, .slice A2 sixL.length c2, .slice A3 sixL.length c3]
  obtain ⟨w10, hw10⟩ : ∃ w10, w9.alloc (.cells #[.slice A0 ls.length c0, .slice A1 ls.length c1, .slice A2 sixL.length c2, .slice A3 sixL.length c3] 39) = w10 := ⟨_, rfl⟩
  obtain ⟨hd, hhd⟩ : ∃ hd, w9.heap.size = hd := ⟨_, rfl⟩
  rw [hw10] at hb10 hA10 ⊢
  rw [hhd] at hA10 ⊢
  have H610 := Lib.hid (ext_trans H69.out hb10)
  have H510 := Lib.hid (ext_trans HQ6.out H610.out)
  obtain ⟨hL4, hG4⟩ := lists4 HF0.out HF1.out HF2.out HF3.out (ext_trans H26.out H610.out) (ext_trans H36.out H610.out) H510.out H610.out (Nat.le_refl _) HQ4.out.size (Nat.le_refl _) (by have := H69.out.size; omega) HS2.out HQ3.out.size HQ5.out.size HQ6.out.size (by omega) (by omega) (by decide) (by decide) hA10
  have HL4 := Lib.hid hL4; have HG4 := Lib.hid hG4
  clear hL4 hG4 hA10 hw10
  refine (ApartLines hd 4 4 _ _ _ w10 HL4.out (by omega)).mono ?_
  rintro e w11 ⟨rfl, hT⟩
  -- what stands behind the lists' writing over
  have hsz := H610.out.size
  have h3s := HQ4.out.size
  have h4s := HQ5.out.size
  have h5s := HQ6.out.size
  have hB11 : Below w.heap.size w w11 := Tch.to_below (ext_trans HB6.out H610.out) hT (fun g hg => by
    have h1 := HB1.out.size
    have h2 := HS2.out
    have h9 := HB4.out.size
    rcases HG4.out g hg with h | h <;> omega)
  have hBK11 : BookAt S w11 b 6 6 1 3 0 [⟨1, 4, 0⟩, ⟨2, 0, 9⟩] q := by
    have h10 := HBK6.out.below H610.out
    exact h10.turn (h10.comp.same hT.size (fun k hk hlt => hT.block k hlt (fun hg => by
      have h1 := HSS.out k hk
      have h2 := HBK4.out.comp.lt k hk
      rcases HG4.out k hg with h | h <;> omega)))
  have hK11 := RowIn.tch (HK7.out.keep (ext_trans (ext_trans HQ8.out HQ9.out) hb10)) hT (fun g hg _ hi => by
    rcases HG4.out g hi with h | h <;> omega)
  have hM11 := RowIn.tch (HK8.out.keep (ext_trans HQ9.out hb10)) hT (fun g hg _ hi => by
    have := HQ7.out.size
    rcases HG4.out g hi with h | h <;> omega)
  have HB11 := Lib.hid hB11; have HBK11 := Lib.hid hBK11; have HK11 := Lib.hid (RowIn.lines hK11); have HM11 := Lib.hid (RowIn.lines hM11)
  clear hT hB11 hBK11 hK11 hM11 hb10 hsz h3s h4s h5s
  go_wp2_with fail
  refine (Parse_at s w11 (HW.out.keep HB11.out) HLE.out).mono ?_
  rintro e w12 hp12
  obtain ⟨_, ⟨v12, rfl, hr12⟩, hb12⟩ := HFIX.out _ _ _ hp12
  obtain ⟨A5, c5, rfl, _⟩ := row_form hr12
  have HB12 := Lib.hid (ext_trans HB11.out hb12)
  have HR12 := Lib.hid (RowIn.lines hr12)
  have HBK12 := Lib.hid (HBK11.out.below hb12)
  have HK12 := Lib.hid (HK11.out.keep hb12); have HM12 := Lib.hid (HM11.out.keep hb12)
  clear hp12 hb12 hr12
  go_wp2_with fail
  refine (six_of HBK12.out (HW.out.tab.keep HB12.out)).mono ?_
  rintro e w13 ⟨v13, rfl, hr13, hb13⟩
  obtain ⟨A6, c6, rfl, _⟩ := row_form hr13
  have HB13 := Lib.hid (ext_trans HB12.out hb13)
  have HR13 := Lib.hid (RowIn.lines hr13)
  have HR12' := Lib.hid (HR12.out.keep hb13)
  have HK13 := Lib.hid (HK12.out.keep hb13); have HM13 := Lib.hid (HM12.out.keep hb13)
  clear hb13 hr13
  go_wp2_with fail
  refine (SameLines_in ls A5 K0 c5 kc0 w13 HR12'.out HK13.out (by omega)).mono ?_
  rintro e w14 ⟨rfl, hb14⟩
  have HB14 := Lib.hid (ext_trans HB13.out hb14)
  have HR14 := Lib.hid (HR13.out.keep hb14); have HM14 := Lib.hid (HM13.out.keep hb14)
  clear hb14
  go_wp2_with fail
  refine (SameLines_in sixL A6 K1 c6 kc1 w14 HR14.out HM14.out (by decide)).mono ?_
  rintro e w15 ⟨rfl, hb15⟩
  go_wp2_with fail
  go_ret
  exact ⟨rfl, ext_trans HB14.out hb15⟩

end Go.Proofs.YtpoijhjjbmaedaaGreatDoor.Man
