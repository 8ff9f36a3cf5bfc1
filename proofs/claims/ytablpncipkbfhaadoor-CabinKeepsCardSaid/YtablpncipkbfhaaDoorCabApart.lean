/- ApartSpans: the bag of lists, and whether they lie apart; CopySpans. -/
import Derived.Test.YtablpncipkbfhaaDoorCabFlat
import Derived.Test.YtablpncipkbfhaaDoorCabFlatNil
namespace Go.Proofs.YtablpncipkbfhaaDoor.Cab
open Go.RowKit

def bagC (v : Value) : Array Value := #[.slice none 0 0, .slice none 0 0, .slice none 0 0, .slice none 0 0, .slice none 0 0, .slice none 0 0, .slice none 0 0, v, .slice none 0 0, .slice none 0 0, .slice none 0 0, .slice none 0 0, .slice none 0 0, .slice none 0 0, .slice none 0 0, .slice none 0 0, .slice none 0 0, .slice none 0 0, .slice none 0 0]

-- gangwaykit.CopySpans
set_option maxRecDepth 100000 in
set_option maxHeartbeats 4000000 in
theorem CopySpans (l : List (Nat × Nat)) (b : Nat) (g c : Nat) (w : World) (h : w.ownsRow b 59 2 (.slice (some ⟨g, 0, none⟩) l.length c) l.length (spans l)) (hl : l.length ≤ 100000) :
    Calls Tryd.prog 32 #[.slice (some ⟨g, 0, none⟩) l.length c] w fun e w' => ∃ v, e = .returned v ∧ w'.ownsRow w.heap.size 59 2 v l.length (spans l) ∧ Below w.heap.size w w' := by
  obtain ⟨i0, hi, hz0, hz1, hz2⟩ := info_parts span_info
  have HC := Lib.hid (h.cells (g := g) rfl)
  clear h
  go_enter Tryd.func32, Tryd.ntmps32
  go_wp2_with (at_builtin; refine wpList_append_own _ rfl (.tmp 4) (.tmp 5) 48 rfl w.heap.size 59 i0 (.agg #[.int .i64 0, .int .i64 0]) 2 16 Tryd.underlying48 hi hz0 hz1 hz2 rfl (by decide) (.slice none 0 0) 0 [] rfl ⟨by simp, .inl ⟨rfl, rfl⟩⟩ ⟨g, 0, none⟩ l.length c (spans l) rfl (spans_len l) HC.out spans_one (by unfold maxLen; omega) (by omega) (Nat.le_refl _) ?_; intro v1 w1 hown hg hnil)
  go_ret
  rw [Nat.zero_add, List.nil_append] at hown
  exact ⟨v1, rfl, hown, (Below.refl _ _).grown hg (Nat.le_refl _) (by simp [Value.ownBlock])⟩

-- (*gangwaykit.bag).putSpans
set_option maxRecDepth 100000 in
set_option maxHeartbeats 4000000 in
theorem PutSpans (gb n : Nat) (v : Value) (base : Nat) (xs : List Value) (g N C : Nat) (w : World) (hA : Arr w gb 96 (bagC v)) (hown : w.ownsRow base 48 1 v n xs) (hb : gb < base) (hbw : base ≤ w.heap.size) (hn : n ≤ 1000) :
    Calls Tryd.prog 47 #[.pointer (some ⟨gb, 0, none⟩), .slice (some ⟨g, 0, none⟩) N C] w fun e w' => (∃ u, e = .returned u) ∧ ∃ v', Arr w' gb 96 (bagC v') ∧ w'.ownsRow base 48 1 v' (n + 1) (xs ++ [.slice (some ⟨g, 0, none⟩) N C]) ∧ (∀ k, k < w.heap.size → k ≠ gb → k < base → w'.heap[k]? = w.heap[k]?) ∧ w'.os = w.os ∧ w'.tape = w.tape ∧ w'.output = w.output ∧ w.heap.size ≤ w'.heap.size := by
  obtain ⟨i1, hi1, hz01, hz11, hz21⟩ := info_parts sl_info
  obtain ⟨A, c, rfl⟩ := own_slice hown
  have x7 : w.cell? ⟨gb, 7, none⟩ = some (.slice A n c) := hA.cell 7
  have HA := Lib.hid hA
  have HO := Lib.hid hown
  have hgl := hA.lt
  clear hA hown
  have hnews : ∀ i u, [Value.slice (some ⟨g, 0, none⟩) N C][i]? = some u → (w.alloc (.cells #[.slice (some ⟨g, 0, none⟩) N C] 48)).cell? ((⟨w.heap.size, 0, none⟩ : Addr).add i) = some u := fun i u hu => by
    rw [add_zero_off, (Arr.fresh w 48 #[.slice (some ⟨g, 0, none⟩) N C]).cell i]
    simpa using hu
  have HNW := Lib.hid hnews
  clear hnews
  go_enter Tryd.func47, Tryd.ntmps47
  go_wp2_with (at_builtin; refine wpList_append_own _ rfl (.tmp 8) (.tmp 10) 57 rfl base 48 i1 (.slice none 0 0) 1 24 Tryd.underlying57 hi1 hz01 hz11 hz21 rfl (by decide) (.slice A n c) _ _ rfl (own_alloc HO.out _) ⟨w.heap.size, 0, none⟩ 1 1 [.slice (some ⟨g, 0, none⟩) N C] rfl rfl HNW.out (by intro u hu; rw [List.mem_singleton.1 hu]; rfl) (by unfold maxLen; omega) (by omega) (by simp; omega) ?_; intro v1 w1 hown1 hg hnil; obtain ⟨g1, c1, rfl⟩ := own_succ hown1; have hA1 := (HA.out.alloc _).app (own_alloc HO.out _) hg hb; have y7 : w1.cell? ⟨gb, 7, none⟩ = some (.slice A n c) := hA1.cell 7; have m7 := hA1.mark 7; have HA1 := Lib.hid hA1; have HO1 := Lib.hid hown1; have HG := Lib.hid hg; clear hown1 hg hnil hA1)
  have hgz := HG.out.size
  refine bodyPost_end (results_none Tryd.results47 _ _ _) rfl ⟨⟨_, rfl⟩, _, HA1.out.put 7 (.slice (some ⟨g1, 0, none⟩) (n + 1) c1), own_put HO1.out hb _, fun k h1 h2 h3 => ?_, HG.out.os, HG.out.tape, HG.out.output, by simp at hgz ⊢; omega⟩
  have e1 := Below.heap_setCell w1 ⟨gb, 7, none⟩ (.slice (some ⟨g1, 0, none⟩) (n + 1) c1) k h2
  have e2 := HG.out.block k (by simp; omega) (fun e => by have := own_lt HO.out e.symm; omega)
  exact (e1.trans e2).trans (heap_alloc_old w _ h1)

-- (*gangwaykit.bag).apart
set_option maxRecDepth 100000 in
set_option maxHeartbeats 4000000 in
theorem BagApart (gb : Nat) (hd m hc : Nat) (G N C : Nat → Nat) (w : World) (hH : Hdr w hd m G N C) (hB : ∀ q, q < m → Blk w (G q) (C q) q 0) (hne : ∀ p q, p < m → q < m → p ≠ q → G p ≠ G q) (hhd : ∀ q, q < m → G q ≠ hd) (hdl : hd < w.heap.size) (hm : m ≤ 100) (hN : ∀ q, q < m → N q ≤ C q ∧ N q ≤ 2000) (hA : Arr w gb 96 (bagC (.slice (some ⟨hd, 0, none⟩) m hc))) (hgb : ∀ q, q < m → G q ≠ gb) :
    Calls Tryd.prog 48 #[.pointer (some ⟨gb, 0, none⟩)] w fun e w' => e = .returned (.bool true) ∧ Tch (inG G m) w w' := by
  have HH := Lib.hid hH; have HB := Lib.hid hB; have HNE := Lib.hid hne; have HHD := Lib.hid hhd; have HGB := Lib.hid hgb
  clear hH hB hne hhd hgb
  have hb0 := Below.refl w.heap.size w
  have hA0 := hA
  have x0 : w.cell? ⟨gb, 0, none⟩ = some (.slice none 0 0) := hA.cell 0
  clear hA
  go_enter Tryd.func48, Tryd.ntmps48
  go_wp2_with fail
  refine (FlatNil_Limbs _).mono ?_
  rintro e w1 ⟨rfl, hb⟩
  have hA1 := hA0.keep hb
  have hb1 := ext_trans hb0 hb
  clear hb0 hA0 x0 hb
  have x1 : w1.cell? ⟨gb, 1, none⟩ = some (.slice none 0 0) := hA1.cell 1
  go_wp2_with fail
  refine (FlatNil_Ints _).mono ?_
  rintro e w2 ⟨rfl, hb⟩
  have hA2 := hA1.keep hb
  have hb2 := ext_trans hb1 hb
  clear hb1 hA1 x1 hb
  have x2 : w2.cell? ⟨gb, 2, none⟩ = some (.slice none 0 0) := hA2.cell 2
  go_wp2_with fail
  refine (FlatNil_Longs _).mono ?_
  rintro e w3 ⟨rfl, hb⟩
  have hA3 := hA2.keep hb
  have hb3 := ext_trans hb2 hb
  clear hb2 hA2 x2 hb
  have x3 : w3.cell? ⟨gb, 3, none⟩ = some (.slice none 0 0) := hA3.cell 3
  go_wp2_with fail
  refine (FlatNil_Texts _).mono ?_
  rintro e w4 ⟨rfl, hb⟩
  have hA4 := hA3.keep hb
  have hb4 := ext_trans hb3 hb
  clear hb3 hA3 x3 hb
  have x4 : w4.cell? ⟨gb, 4, none⟩ = some (.slice none 0 0) := hA4.cell 4
  go_wp2_with fail
  refine (FlatNil_Bytes _).mono ?_
  rintro e w5 ⟨rfl, hb⟩
  have hA5 := hA4.keep hb
  have hb5 := ext_trans hb4 hb
  clear hb4 hA4 x4 hb
  have x5 : w5.cell? ⟨gb, 5, none⟩ = some (.slice none 0 0) := hA5.cell 5
  go_wp2_with fail
  refine (FlatNil_Reals _).mono ?_
  rintro e w6 ⟨rfl, hb⟩
  have hA6 := hA5.keep hb
  have hb6 := ext_trans hb5 hb
  clear hb5 hA5 x5 hb
  have x6 : w6.cell? ⟨gb, 6, none⟩ = some (.slice none 0 0) := hA6.cell 6
  go_wp2_with fail
  refine (FlatNil_Fates _).mono ?_
  rintro e w7 ⟨rfl, hb⟩
  have hA7 := hA6.keep hb
  have hb7 := ext_trans hb6 hb
  clear hb6 hA6 x6 hb
  have x7 : w7.cell? ⟨gb, 7, none⟩ = some (.slice (some ⟨hd, 0, none⟩) m hc) := hA7.cell 7
  go_wp2_with fail
  refine (FlatSpans hd m hc G N C _ (HH.out.keep hb7 hdl) (fun q hq => (HB.out q hq).keep hb7) HNE.out HHD.out (Nat.lt_of_lt_of_le hdl hb7.size) hm hN).mono ?_
  rintro e w8 ⟨rfl, ht⟩
  have hA8 := ht.arr hA7 (fun ⟨q, h1, h2⟩ => HGB.out q h1 h2.symm)
  have ht8 : Tch (inG G m) w w8 := ((Tch.refl _ w).below hb7).trans ht
  clear ht hb7 hA7 x7
  have x8 : w8.cell? ⟨gb, 8, none⟩ = some (.slice none 0 0) := hA8.cell 8
  go_wp2_with fail
  refine (FlatNil_Frames _).mono ?_
  rintro e w9 ⟨rfl, hb⟩
  have hA9 := hA8.keep hb
  have ht9 := ht8.below hb
  clear ht8 hA8 x8 hb
  have x9 : w9.cell? ⟨gb, 9, none⟩ = some (.slice none 0 0) := hA9.cell 9
  go_wp2_with fail
  refine (FlatNil_Cabins _).mono ?_
  rintro e w10 ⟨rfl, hb⟩
  have hA10 := hA9.keep hb
  have ht10 := ht9.below hb
  clear ht9 hA9 x9 hb
  have x10 : w10.cell? ⟨gb, 10, none⟩ = some (.slice none 0 0) := hA10.cell 10
  go_wp2_with fail
  refine (FlatNil_Records _).mono ?_
  rintro e w11 ⟨rfl, hb⟩
  have hA11 := hA10.keep hb
  have ht11 := ht10.below hb
  clear ht10 hA10 x10 hb
  have x11 : w11.cell? ⟨gb, 11, none⟩ = some (.slice none 0 0) := hA11.cell 11
  go_wp2_with fail
  refine (FlatNil_Bookings _).mono ?_
  rintro e w12 ⟨rfl, hb⟩
  have hA12 := hA11.keep hb
  have ht12 := ht11.below hb
  clear ht11 hA11 x11 hb
  have x12 : w12.cell? ⟨gb, 12, none⟩ = some (.slice none 0 0) := hA12.cell 12
  go_wp2_with fail
  refine (FlatNil_Requests _).mono ?_
  rintro e w13 ⟨rfl, hb⟩
  have hA13 := hA12.keep hb
  have ht13 := ht12.below hb
  clear ht12 hA12 x12 hb
  have x13 : w13.cell? ⟨gb, 13, none⟩ = some (.slice none 0 0) := hA13.cell 13
  go_wp2_with fail
  refine (FlatNil_Replies _).mono ?_
  rintro e w14 ⟨rfl, hb⟩
  have hA14 := hA13.keep hb
  have ht14 := ht13.below hb
  clear ht13 hA13 x13 hb
  have x14 : w14.cell? ⟨gb, 14, none⟩ = some (.slice none 0 0) := hA14.cell 14
  go_wp2_with fail
  refine (FlatNil_Fares _).mono ?_
  rintro e w15 ⟨rfl, hb⟩
  have hA15 := hA14.keep hb
  have ht15 := ht14.below hb
  clear ht14 hA14 x14 hb
  have x15 : w15.cell? ⟨gb, 15, none⟩ = some (.slice none 0 0) := hA15.cell 15
  go_wp2_with fail
  refine (FlatNil_Waits _).mono ?_
  rintro e w16 ⟨rfl, hb⟩
  have hA16 := hA15.keep hb
  have ht16 := ht15.below hb
  clear ht15 hA15 x15 hb
  have x16 : w16.cell? ⟨gb, 16, none⟩ = some (.slice none 0 0) := hA16.cell 16
  go_wp2_with fail
  refine (FlatNil_Lines _).mono ?_
  rintro e w17 ⟨rfl, hb⟩
  have hA17 := hA16.keep hb
  have ht17 := ht16.below hb
  clear ht16 hA16 x16 hb
  have x17 : w17.cell? ⟨gb, 17, none⟩ = some (.slice none 0 0) := hA17.cell 17
  go_wp2_with fail
  refine (FlatNil_Turns _).mono ?_
  rintro e w18 ⟨rfl, hb⟩
  have hA18 := hA17.keep hb
  have ht18 := ht17.below hb
  clear ht17 hA17 x17 hb
  have x18 : w18.cell? ⟨gb, 18, none⟩ = some (.slice none 0 0) := hA18.cell 18
  go_wp2_with fail
  refine (FlatNil_Commands _).mono ?_
  rintro e w19 ⟨rfl, hb⟩
  have hA19 := hA18.keep hb
  have ht19 := ht18.below hb
  clear ht18 hA18 x18 hb
  go_wp2_with fail
  go_ret
  exact ⟨rfl, ht19⟩

def hdrs (G N C : Nat → Nat) (j : Nat) : List Value := (List.range j).map fun q => .slice (some ⟨G q, 0, none⟩) (N q) (C q)
theorem hdrs_next (G N C : Nat → Nat) (j : Nat) : hdrs G N C (j + 1) = hdrs G N C j ++ [.slice (some ⟨G j, 0, none⟩) (N j) (C j)] := by simp [hdrs, List.range_succ]
theorem hdrs_at {G N C : Nat → Nat} {j q : Nat} (h : q < j) : (hdrs G N C j)[q]? = some (.slice (some ⟨G q, 0, none⟩) (N q) (C q)) := by simp [hdrs, List.getElem?_map, List.getElem?_range h]
-- gangwaykit.ApartSpans
set_option maxRecDepth 100000 in
set_option maxHeartbeats 4000000 in
theorem ApartSpans (hd m hc : Nat) (G N C : Nat → Nat) (w : World) (hH : Hdr w hd m G N C) (hB : ∀ q, q < m → Blk w (G q) (C q) q 0) (hne : ∀ p q, p < m → q < m → p ≠ q → G p ≠ G q) (hhd : ∀ q, q < m → G q ≠ hd) (hdl : hd < w.heap.size) (hm : m ≤ 100) (hN : ∀ q, q < m → N q ≤ C q ∧ N q ≤ 2000) (hm0 : 0 < m) :
    Calls Tryd.prog 33 #[.slice (some ⟨hd, 0, none⟩) m hc] w fun e w' => e = .returned (.bool true) ∧ Tch (inG G m) w w' := by
  have HH := Lib.hid hH; have HB := Lib.hid hB; have HNE := Lib.hid hne; have HHD := Lib.hid hhd
  clear hH hB hne hhd
  go_enter Tryd.func33, Tryd.ntmps33
  go_wp2_with fail
  obtain ⟨gb, hgb⟩ : ∃ gb, gb = w.heap.size := ⟨_, rfl⟩
  have HGB := Lib.hid hgb
  have hAg := Arr.new (w := w) (t := 96) (cs := bagC (.slice none 0 0)) hgb
  rw [← hgb]
  clear hgb
  go_loopw [4] (fun i wr => ∃ (j : Nat) (v : Value), j ≤ m ∧ i = .int .i64 j ∧ Arr wr gb 96 (bagC v) ∧ wr.ownsRow (gb + 1) 48 1 v j (hdrs G N C j) ∧ Below w.heap.size w wr) (fun i _ => (m - intOf i).toNat)
  case atStart => exact ⟨0, .slice none 0 0, by omega, rfl, hAg, own_nil _ _ _ _, ext_alloc (Below.refl _ _) _⟩
  case round =>
    obtain ⟨j, v, hj, rfl, hA, hown, hb⟩ := hrel
    by_cases h : j < m
    · have x0 : wr.cell? ⟨hd, j, none⟩ = some (.slice (some ⟨G j, 0, none⟩) (N j) (C j)) := HH.out.keep hb hdl j h
      have hj1 : (j : Int) < (m : Int) := by omega
      have hgl := hA.lt
      have HA := Lib.hid hA; have HO := Lib.hid hown; have HBB := Lib.hid hb
      clear hA hown hb
      go_wp2_with fail
      refine (PutSpans gb j v (gb + 1) _ (G j) (N j) (C j) _ HA.out HO.out (by omega) (by omega) (by omega)).mono ?_
      rintro e w4 ⟨⟨u, rfl⟩, v', hA', hown', hk, ho, htp, hop, hsz⟩
      have hA4 := Lib.hid hA'; have hO4 := Lib.hid hown'
      have hb4 : Below w.heap.size w w4 := ⟨ho.trans HBB.out.os, htp.trans HBB.out.tape, hop.trans HBB.out.output, Nat.le_trans HBB.out.size hsz, fun k hk1 => (hk k (by have := HBB.out.size; omega) (by have := HGB.out; omega) (by have := HGB.out; omega)).trans (HBB.out.block k hk1)⟩
      clear hA' hown' hk ho htp hop hsz
      go_wp2_with fail
      go_roundw
      case rel => exact ⟨j + 1, v', by omega, by go_num, hA4.out, by rw [hdrs_next]; exact hO4.out, hb4⟩
      case measure => simp [intOf]; omega
    · obtain rfl : j = m := by omega
      obtain ⟨k, rfl⟩ : ∃ k, j = k + 1 := ⟨j - 1, by omega⟩
      obtain ⟨g2, c2, rfl⟩ := own_succ hown
      have hl2 := own_lt (g := g2) hown rfl
      have hH2 : Hdr wr g2 (k + 1) G N C := fun q hq => by rw [hown.cellAt q (by omega)]; exact hdrs_at hq
      have hgl : ∀ q, q < k + 1 → G q < w.heap.size := fun q hq => (HB.out q hq).lt
      have HGL := Lib.hid hgl
      have HH2 := Lib.hid hH2; have HA := Lib.hid hA; have HBB := Lib.hid hb
      clear hgl hH2 hA hb hown
      go_wp2_with fail
      refine (BagApart gb g2 (k + 1) c2 G N C _ HH2.out (fun q hq => (HB.out q hq).keep HBB.out) HNE.out (fun q hq => by have := HGL.out q hq; have := HGB.out; omega) hl2.1 hm hN HA.out (fun q hq => by have := HGL.out q hq; have := HGB.out; omega)).mono ?_
      rintro e w5 ⟨rfl, ht⟩
      have ht5 := ((Tch.refl (inG G (k + 1)) w).below HBB.out).trans ht
      go_wp2_with fail
      go_ret
      exact ⟨rfl, ht5⟩

end Go.Proofs.YtablpncipkbfhaaDoor.Cab
