/- ApartLines: the bag of lists, and whether they lie apart. -/
import Derived.Test.YtpoijhjjbmaedaaGreatDoorMan28
import Derived.Test.YtpoijhjjbmaedaaGreatDoorMan29
set_option linter.unusedVariables false
set_option linter.unusedSimpArgs false
namespace Go.Proofs.YtpoijhjjbmaedaaGreatDoor.Fl
open Go.RowKit

def bagC (v : Value) : Array Value := #[.slice none 0 0, .slice none 0 0, .slice none 0 0, .slice none 0 0, .slice none 0 0, .slice none 0 0, .slice none 0 0, .slice none 0 0, .slice none 0 0, .slice none 0 0, .slice none 0 0, .slice none 0 0, .slice none 0 0, .slice none 0 0, .slice none 0 0, .slice none 0 0, v, .slice none 0 0, .slice none 0 0]
theorem Lists.keep {w w' : World} {hd m : Nat} {AD : Nat → Option Addr} {N C : Nat → Nat} (h : Lists w hd m AD N C) (hb : Below w.heap.size w w') : Lists w' hd m AD N C where
  hdr := fun q hq => (hb.cell (p := ⟨hd, q, none⟩) h.lt).trans (h.hdr q hq)
  form := fun q hq => by
    rcases h.form q hq with h1 | ⟨g, h1, h2⟩
    · exact .inl h1
    · exact .inr ⟨g, h1, h2.keep hb⟩
  ne := h.ne
  apart := h.apart
  lt := Nat.lt_of_lt_of_le h.lt hb.size
  few := h.few
  small := h.small

-- (*gangwaykit.bag).putLines
set_option maxRecDepth 100000 in
set_option maxHeartbeats 4000000 in
theorem PutLines (gb n : Nat) (v : Value) (base : Nat) (xs : List Value) (ao : Option Addr) (N C : Nat) (w : World) (hA : Arr w gb 131 (bagC v)) (hown : w.ownsRow base 39 1 v n xs) (hb : gb < base) (hbw : base ≤ w.heap.size) (hn : n ≤ 1000) :
    Calls Tryz.prog 63 #[.pointer (some ⟨gb, 0, none⟩), .slice ao N C] w fun e w' => (∃ u, e = .returned u) ∧ ∃ v', Arr w' gb 131 (bagC v') ∧ w'.ownsRow base 39 1 v' (n + 1) (xs ++ [.slice ao N C]) ∧ (∀ k, k < w.heap.size → k ≠ gb → k < base → w'.heap[k]? = w.heap[k]?) ∧ w'.os = w.os ∧ w'.tape = w.tape ∧ w'.output = w.output ∧ w.heap.size ≤ w'.heap.size := by
  obtain ⟨i1, hi1, hz01, hz11, hz21⟩ := info_parts sl_info
  obtain ⟨A, c, rfl⟩ := own_slice hown
  have x7 : w.cell? ⟨gb, 16, none⟩ = some (.slice A n c) := hA.cell 16
  have HA := Lib.hid hA
  have HO := Lib.hid hown
  have hgl := hA.lt
  clear hA hown
  have hnews : ∀ i u, [Value.slice ao N C][i]? = some u → (w.alloc (.cells #[.slice ao N C] 39)).cell? ((⟨w.heap.size, 0, none⟩ : Addr).add i) = some u := fun i u hu => by
    rw [add_zero_off, (Arr.fresh w 39 #[.slice ao N C]).cell i]
    simpa using hu
  have HNW := Lib.hid hnews
  clear hnews
  go_enter Tryz.func63, Tryz.ntmps63
  go_wp2_with (at_builtin; refine wpList_append_own _ rfl (.tmp 8) (.tmp 10) 68 rfl base 39 i1 (.slice none 0 0) 1 24 Tryz.underlying68 hi1 hz01 hz11 hz21 rfl (by decide) (.slice A n c) _ _ rfl (own_alloc HO.out _) ⟨w.heap.size, 0, none⟩ 1 1 [.slice ao N C] rfl rfl HNW.out (by intro u hu; rw [List.mem_singleton.1 hu]; rfl) (by unfold maxLen; omega) (by omega) (by simp; omega) ?_; intro v1 w1 hown1 hg hnil; obtain ⟨g1, c1, rfl⟩ := own_succ hown1; have hA1 := (HA.out.alloc _).app (own_alloc HO.out _) hg hb; have y7 : w1.cell? ⟨gb, 16, none⟩ = some (.slice A n c) := hA1.cell 16; have m7 := hA1.mark 16; have HA1 := Lib.hid hA1; have HO1 := Lib.hid hown1; have HG := Lib.hid hg; clear hown1 hg hnil hA1)
  have hgz := HG.out.size
  refine bodyPost_end (results_none Tryz.results63 _ _ _) rfl ⟨⟨_, rfl⟩, _, HA1.out.put 16 (.slice (some ⟨g1, 0, none⟩) (n + 1) c1), own_put HO1.out hb _, fun k h1 h2 h3 => ?_, HG.out.os, HG.out.tape, HG.out.output, by simp at hgz ⊢; omega⟩
  have e1 := Below.heap_setCell w1 ⟨gb, 16, none⟩ (.slice (some ⟨g1, 0, none⟩) (n + 1) c1) k h2
  have e2 := HG.out.block k (by simp; omega) (fun e => by have := own_lt HO.out e.symm; omega)
  exact (e1.trans e2).trans (heap_alloc_old w _ h1)

-- (*gangwaykit.bag).apart
set_option maxRecDepth 100000 in
set_option maxHeartbeats 4000000 in
theorem BagApart (gb hd m hc : Nat) (AD : Nat → Option Addr) (N C : Nat → Nat) (w : World) (h : Lists w hd m AD N C) (hA : Arr w gb 131 (bagC (.slice (some ⟨hd, 0, none⟩) m hc))) (hgb : ¬ inG AD m gb) :
    Calls Tryz.prog 64 #[.pointer (some ⟨gb, 0, none⟩)] w fun e w' => e = .returned (.bool true) ∧ Tch (inG AD m) w w' := by
  have HL := Lib.hid h; have HGB := Lib.hid hgb
  clear h hgb
  have hb0 := Below.refl w.heap.size w
  have hA0 := hA
  have x0 : w.cell? ⟨gb, 0, none⟩ = some (.slice none 0 0) := hA.cell 0
  clear hA
  go_enter Tryz.func64, Tryz.ntmps64
  go_wp2_with fail
  refine (FlatNil_Limbs _).mono ?_
  rintro e w1 ⟨rfl, hb⟩
  have hA1 := hA0.keep hb
  have hb1 := ext_trans hb0 hb
  clear hb0 hA0 x0 hb
  have x1 : w1.cell? ⟨gb, 1, none⟩ = some (.slice none 0 0) := hA1.cell 1
  go_wp2_with fail
  refine (FlatNil_Ints _).mono ?_
  rintro e w2 ⟨rfl, hb⟩
  have hA2 := hA1.keep hb
  have hb2 := ext_trans hb1 hb
  clear hb1 hA1 x1 hb
  have x2 : w2.cell? ⟨gb, 2, none⟩ = some (.slice none 0 0) := hA2.cell 2
  go_wp2_with fail
  refine (FlatNil_Longs _).mono ?_
  rintro e w3 ⟨rfl, hb⟩
  have hA3 := hA2.keep hb
  have hb3 := ext_trans hb2 hb
  clear hb2 hA2 x2 hb
  have x3 : w3.cell? ⟨gb, 3, none⟩ = some (.slice none 0 0) := hA3.cell 3
  go_wp2_with fail
  refine (FlatNil_Texts _).mono ?_
  rintro e w4 ⟨rfl, hb⟩
  have hA4 := hA3.keep hb
  have hb4 := ext_trans hb3 hb
  clear hb3 hA3 x3 hb
  have x4 : w4.cell? ⟨gb, 4, none⟩ = some (.slice none 0 0) := hA4.cell 4
  go_wp2_with fail
  refine (FlatNil_Bytes _).mono ?_
  rintro e w5 ⟨rfl, hb⟩
  have hA5 := hA4.keep hb
  have hb5 := ext_trans hb4 hb
  clear hb4 hA4 x4 hb
  have x5 : w5.cell? ⟨gb, 5, none⟩ = some (.slice none 0 0) := hA5.cell 5
  go_wp2_with fail
  refine (FlatNil_Reals _).mono ?_
  rintro e w6 ⟨rfl, hb⟩
  have hA6 := hA5.keep hb
  have hb6 := ext_trans hb5 hb
  clear hb5 hA5 x5 hb
  have x6 : w6.cell? ⟨gb, 6, none⟩ = some (.slice none 0 0) := hA6.cell 6
  go_wp2_with fail
  refine (FlatNil_Fates _).mono ?_
  rintro e w7 ⟨rfl, hb⟩
  have hA7 := hA6.keep hb
  have hb7 := ext_trans hb6 hb
  clear hb6 hA6 x6 hb
  have x7 : w7.cell? ⟨gb, 7, none⟩ = some (.slice none 0 0) := hA7.cell 7
  go_wp2_with fail
  refine (FlatNil_Spans _).mono ?_
  rintro e w8 ⟨rfl, hb⟩
  have hA8 := hA7.keep hb
  have hb8 := ext_trans hb7 hb
  clear hb7 hA7 x7 hb
  have x8 : w8.cell? ⟨gb, 8, none⟩ = some (.slice none 0 0) := hA8.cell 8
  go_wp2_with fail
  refine (FlatNil_Frames _).mono ?_
  rintro e w9 ⟨rfl, hb⟩
  have hA9 := hA8.keep hb
  have hb9 := ext_trans hb8 hb
  clear hb8 hA8 x8 hb
  have x9 : w9.cell? ⟨gb, 9, none⟩ = some (.slice none 0 0) := hA9.cell 9
  go_wp2_with fail
  refine (FlatNil_Cabins _).mono ?_
  rintro e w10 ⟨rfl, hb⟩
  have hA10 := hA9.keep hb
  have hb10 := ext_trans hb9 hb
  clear hb9 hA9 x9 hb
  have x10 : w10.cell? ⟨gb, 10, none⟩ = some (.slice none 0 0) := hA10.cell 10
  go_wp2_with fail
  refine (FlatNil_Records _).mono ?_
  rintro e w11 ⟨rfl, hb⟩
  have hA11 := hA10.keep hb
  have hb11 := ext_trans hb10 hb
  clear hb10 hA10 x10 hb
  have x11 : w11.cell? ⟨gb, 11, none⟩ = some (.slice none 0 0) := hA11.cell 11
  go_wp2_with fail
  refine (FlatNil_Bookings _).mono ?_
  rintro e w12 ⟨rfl, hb⟩
  have hA12 := hA11.keep hb
  have hb12 := ext_trans hb11 hb
  clear hb11 hA11 x11 hb
  have x12 : w12.cell? ⟨gb, 12, none⟩ = some (.slice none 0 0) := hA12.cell 12
  go_wp2_with fail
  refine (FlatNil_Requests _).mono ?_
  rintro e w13 ⟨rfl, hb⟩
  have hA13 := hA12.keep hb
  have hb13 := ext_trans hb12 hb
  clear hb12 hA12 x12 hb
  have x13 : w13.cell? ⟨gb, 13, none⟩ = some (.slice none 0 0) := hA13.cell 13
  go_wp2_with fail
  refine (FlatNil_Replies _).mono ?_
  rintro e w14 ⟨rfl, hb⟩
  have hA14 := hA13.keep hb
  have hb14 := ext_trans hb13 hb
  clear hb13 hA13 x13 hb
  have x14 : w14.cell? ⟨gb, 14, none⟩ = some (.slice none 0 0) := hA14.cell 14
  go_wp2_with fail
  refine (FlatNil_Fares _).mono ?_
  rintro e w15 ⟨rfl, hb⟩
  have hA15 := hA14.keep hb
  have hb15 := ext_trans hb14 hb
  clear hb14 hA14 x14 hb
  have x15 : w15.cell? ⟨gb, 15, none⟩ = some (.slice none 0 0) := hA15.cell 15
  go_wp2_with fail
  refine (FlatNil_Waits _).mono ?_
  rintro e w16 ⟨rfl, hb⟩
  have hA16 := hA15.keep hb
  have hb16 := ext_trans hb15 hb
  clear hb15 hA15 x15 hb
  have x16 : w16.cell? ⟨gb, 16, none⟩ = some (.slice (some ⟨hd, 0, none⟩) m hc) := hA16.cell 16
  go_wp2_with fail
  refine (FlatLines hd m hc AD N C _ (HL.out.keep hb16)).mono ?_
  rintro e w17 ⟨rfl, ht⟩
  have hA17 := ht.arr hA16 HGB.out
  have ht17 : Tch (inG AD m) w w17 := ((Tch.refl _ w).below hb16).trans ht
  clear ht hb16 hA16 x16
  have x17 : w17.cell? ⟨gb, 17, none⟩ = some (.slice none 0 0) := hA17.cell 17
  go_wp2_with fail
  refine (FlatNil_Turns _).mono ?_
  rintro e w18 ⟨rfl, hb⟩
  have hA18 := hA17.keep hb
  have ht18 := ht17.below hb
  clear ht17 hA17 x17 hb
  have x18 : w18.cell? ⟨gb, 18, none⟩ = some (.slice none 0 0) := hA18.cell 18
  go_wp2_with fail
  refine (FlatNil_Commands _).mono ?_
  rintro e w19 ⟨rfl, hb⟩
  have hA19 := hA18.keep hb
  have ht19 := ht18.below hb
  clear ht18 hA18 x18 hb
  go_wp2_with fail
  go_ret
  exact ⟨rfl, ht19⟩

def hdrs (AD : Nat → Option Addr) (N C : Nat → Nat) (j : Nat) : List Value := (List.range j).map fun q => .slice (AD q) (N q) (C q)
theorem hdrs_next (AD : Nat → Option Addr) (N C : Nat → Nat) (j : Nat) : hdrs AD N C (j + 1) = hdrs AD N C j ++ [.slice (AD j) (N j) (C j)] := by simp [hdrs, List.range_succ]
theorem hdrs_at {AD : Nat → Option Addr} {N C : Nat → Nat} {j q : Nat} (h : q < j) : (hdrs AD N C j)[q]? = some (.slice (AD q) (N q) (C q)) := by simp [hdrs, List.getElem?_map, List.getElem?_range h]
-- gangwaykit.ApartLines
set_option maxRecDepth 100000 in
set_option maxHeartbeats 4000000 in
theorem ApartLines (hd m hc : Nat) (AD : Nat → Option Addr) (N C : Nat → Nat) (w : World) (hLS : Lists w hd m AD N C) (hm0 : 0 < m) :
    Calls Tryz.prog 31 #[.slice (some ⟨hd, 0, none⟩) m hc] w fun e w' => e = .returned (.bool true) ∧ Tch (inG AD m) w w' := by
  have hm := hLS.few
  have hdl := hLS.lt
  have HL := Lib.hid hLS
  clear hLS
  go_enter Tryz.func31, Tryz.ntmps31
  go_wp2_with fail
  obtain ⟨gb, hgb⟩ : ∃ gb, gb = w.heap.size := ⟨_, rfl⟩
  have HGB := Lib.hid hgb
  have hAg := Arr.new (w := w) (t := 131) (cs := bagC (.slice none 0 0)) hgb
  rw [← hgb]
  clear hgb
  go_loopw [4] (fun i wr => ∃ (j : Nat) (v : Value), j ≤ m ∧ i = .int .i64 j ∧ Arr wr gb 131 (bagC v) ∧ wr.ownsRow (gb + 1) 39 1 v j (hdrs AD N C j) ∧ Below w.heap.size w wr) (fun i _ => (m - intOf i).toNat)
  case atStart => exact ⟨0, .slice none 0 0, by omega, rfl, hAg, own_nil _ _ _ _, ext_alloc (Below.refl _ _) _⟩
  case round =>
    obtain ⟨j, v, hj, rfl, hA, hown, hb⟩ := hrel
    by_cases h : j < m
    · have x0 : wr.cell? ⟨hd, j, none⟩ = some (.slice (AD j) (N j) (C j)) := (hb.cell (p := ⟨hd, j, none⟩) hdl).trans (HL.out.hdr j h)
      have hj1 : (j : Int) < (m : Int) := by omega
      have hgl := hA.lt
      have HA := Lib.hid hA; have HO := Lib.hid hown; have HBB := Lib.hid hb
      clear hA hown hb
      go_wp2_with fail
      refine (PutLines gb j v (gb + 1) _ (AD j) (N j) (C j) _ HA.out HO.out (by omega) (by omega) (by omega)).mono ?_
      rintro e w4 ⟨⟨u, rfl⟩, v', hA', hown', hk, ho, htp, hop, hsz⟩
      have hA4 := Lib.hid hA'; have hO4 := Lib.hid hown'
      have hb4 : Below w.heap.size w w4 := ⟨ho.trans HBB.out.os, htp.trans HBB.out.tape, hop.trans HBB.out.output, Nat.le_trans HBB.out.size hsz, fun k hk1 => (hk k (by have := HBB.out.size; omega) (by have := HGB.out; omega) (by have := HGB.out; omega)).trans (HBB.out.block k hk1)⟩
      clear hA' hown' hk ho htp hop hsz
      go_wp2_with fail
      go_roundw
      case rel => exact ⟨j + 1, v', by omega, by go_num, hA4.out, by rw [hdrs_next]; exact hO4.out, hb4⟩
      case measure => simp [intOf]; omega
    · obtain rfl : j = m := by omega
      obtain ⟨k, rfl⟩ : ∃ k, j = k + 1 := ⟨j - 1, by omega⟩
      obtain ⟨g2, c2, rfl⟩ := own_succ hown
      have hl2 := own_lt (g := g2) hown rfl
      have hin : ∀ x, inG AD (k + 1) x → x < w.heap.size := fun x ⟨q, hq, hx⟩ => by
        rcases HL.out.form q hq with ⟨h1, _⟩ | ⟨g, h1, h2⟩
        · unfold At at hx; rw [h1] at hx; cases hx
        · rw [hx.eq h1]; exact h2.lt
      have hL0 := HL.out.keep hb
      have hL2 : Lists wr g2 (k + 1) AD N C := ⟨fun q hq => by rw [hown.cellAt q (by omega)]; exact hdrs_at hq, hL0.form, hL0.ne, fun hx => by have h1 := hin g2 hx; have h2 := HGB.out; omega, hl2.1, hm, hL0.small⟩
      have HG2 := Lib.hid (show ¬ inG AD (k + 1) gb from fun hx => by have h1 := hin gb hx; have h2 := HGB.out; omega)
      have HL2 := Lib.hid hL2; have HA := Lib.hid hA; have HBB := Lib.hid hb
      clear hin hL0 hL2 hA hb hown
      go_wp2_with fail
      refine (BagApart gb g2 (k + 1) c2 AD N C _ HL2.out HA.out HG2.out).mono ?_
      rintro e w5 ⟨rfl, ht⟩
      have ht5 := ((Tch.refl (inG AD (k + 1)) w).below HBB.out).trans ht
      go_wp2_with fail
      go_ret
      exact ⟨rfl, ht5⟩

end Go.Proofs.YtpoijhjjbmaedaaGreatDoor.Fl
