/- Packed: Img, Img2, Eng1, Eng2, Rcv1, Rcv2, Rcv3, Rcv4, Rcv5, Rcv6, Rcv7, Rcv8. -/
import Derived.Test.YtbnkanehjnepbaaGreatDoorPk3
import Derived.Test.YtbnkanehjnepbaaGreatDoorPk8
import Derived.Sort.Row
import Derived.Test.YtbnkanehjnepbaaGreatDoorPk11
import Derived.Test.YtbnkanehjnepbaaGreatDoorPk10
import Derived.Test.YtbnkanehjnepbaaGreatDoorPk12
import Derived.Test.YtbnkanehjnepbaaGreatDoorPk6
import Derived.Test.YtbnkanehjnepbaaGreatDoorPk13
import Derived.Deep.CutRange
set_option linter.unusedVariables false
set_option linter.unusedSimpArgs false
/- Layer 18: an image is put. -/
section
set_option linter.unusedVariables false
set_option linter.unusedSimpArgs false
namespace Go.Proofs.YtbnkanehjnepbaaGreatDoor.Im
open Go.RowKit Go.Shelf
open Go.Proofs.YtbnkanehjnepbaaGreatDoor.Bk
open Go.Proofs.YtbnkanehjnepbaaGreatDoor.Oc (Bs bytesV byteV le WrAt AdOut ClOut)
attribute [local go_sem] Oper.semAt_some

def bkgB (x : Bkg) : List UInt8 := le x.id.toNat 4 ++ le x.seat 2 ++ le x.til.toNat 8
def headB (n codes nx ck len : Nat) : List UInt8 := le n 2 ++ le codes 4 ++ le nx 4 ++ le ck 8 ++ le len 2
def imgB (n codes nx ck : Nat) (L : List Bkg) : List UInt8 := headB n codes nx ck L.length ++ (L.map bkgB).flatten
theorem bkgB_len (x : Bkg) : (bkgB x).length = 14 := by simp [bkgB, Oc.le_len]
theorem flat_len : ∀ L : List Bkg, ((L.map bkgB).flatten).length = 14 * L.length
  | [] => rfl
  | x :: L => by rw [List.map_cons, List.flatten_cons, List.length_append, flat_len L, bkgB_len, List.length_cons]; omega
theorem headB_len (n codes nx ck len : Nat) : (headB n codes nx ck len).length = 20 := by simp [headB, Oc.le_len]
theorem Tch.keepsFrom {p : Nat} {t : TypeId} {cs : Array Value} {W W' : World} (h : Tch (· = p) W W') (hp : Arr W p t cs) (B : Nat) : KeepsFrom B W W' :=
  ⟨h.size, fun k o _ hk ho => (h.block k (Array.getElem?_eq_some_iff.1 hk).1 (fun e => by
    rw [show k = p from e, show W.heap[p]? = _ from hp] at hk
    cases hk; cases ho)).trans hk⟩
theorem bs_ownFrom {β : Type} (B : Nat) (A : β → Option Addr) (f : β → List UInt8) : OwnFrom B (fun s W => Bs W (A s) (f s)) := fun s W W' row hs hg hr hne => by
  obtain ⟨g, off, h1, h2, h3⟩ := hs hne
  have hc : ∃ u, (bytesV (f s))[0]? = some u := by
    obtain ⟨x, r, e⟩ := List.exists_cons_of_ne_nil hne
    rw [e]
    exact ⟨_, rfl⟩
  obtain ⟨u, hu⟩ := hc
  obtain ⟨c, e, fr, hb, _⟩ := Go.Sort.cells_of_cell? (h3 0 u hu)
  have heq : W'.heap[g]? = W.heap[g]? := hg.block g h2 (fun e => by
    obtain ⟨_, o, ho, hn⟩ := hr g e.symm
    rw [hb] at ho
    cases ho; cases hn)
  exact ⟨g, off, h1, Nat.lt_of_lt_of_le h2 hg.size, fun i u hu => (World.cell?_of_block (a := ⟨g, off + i, none⟩) heq).trans (h3 i u hu)⟩
theorem wr_ownFrom {β : Type} (B p : Nat) (f : β → List UInt8) : OwnFrom B (fun s W => WrAt W p (f s)) := fun s W W' row hs hg hr => by
  obtain ⟨A, c, h1, h2, h3⟩ := hs.ex
  exact ⟨A, c, arr_ownFrom B p _ (fun _ : Unit => _) () W W' row h1 hg hr, bs_ownFrom B (fun _ : Unit => A) (fun _ => f s) () W W' row h2 hg hr, h3⟩
def BX (x : Bkg) : Prop := (0 ≤ x.id ∧ x.id < 4294967296) ∧ x.seat < 1024 ∧ 0 ≤ x.til ∧ x.til ≤ 1099511627776
def PtOut (bs : List UInt8) (w : World) (e : Ending) (w' : World) : Prop :=
  ∃ A c, e = .returned (.tuple #[.slice A bs.length c, .int .i64 0]) ∧ (bs ≠ [] → ∃ g, A = some ⟨g, 0, none⟩ ∧ w.heap.size ≤ g ∧ Blk w' 5 g bs) ∧ bs.length ≤ c ∧ Below w.heap.size w w'
set_option maxRecDepth 100000 in
set_option maxHeartbeats 4000000 in
theorem Put_in {S : Nat → Prop} {w : World} {b n codes nx ck : Nat} {group : Int} {L : List Bkg} {q : Parts} (h : BookAt S w b n codes group nx ck L q) (hk : BkOk n codes group nx ck L) : Calls Tryz.prog 25 #[.pointer (some ⟨b, 0, none⟩)] w (PtOut (imgB n codes nx ck L) w) := by
  have hsh := Geo.okS_yes hk.kshape
  have hnx := hk.knext
  have hck := hk.kclock
  have hLn := hk.klen
  have HX := Lib.hid (show ∀ x ∈ L, BX x from fun x hx => by
    have h1 := hk.kids x hx
    have h2 := hk.kseats x hx
    have h3 := hk.ktil x hx
    unfold BX
    omega)
  have HCP := Lib.hid (Copy_in h hk)
  have HH := Lib.hid h; have HR := Lib.hid hk.krise
  have hw1 : IntKind.u16.wrap (n : Int) = (n : Int) := by rw [IntKind.wrap_u16]; omega
  have hw2 : IntKind.u32.wrap (codes : Int) = (codes : Int) := by rw [IntKind.wrap_u32]; omega
  have hw3 : IntKind.u64.wrap (ck : Int) = (ck : Int) := by rw [IntKind.wrap_u64]; omega
  have hw4 : IntKind.u16.wrap (L.length : Int) = (L.length : Int) := by rw [IntKind.wrap_u16]; omega
  have HLL := Lib.hid (show L.length ≤ 4096 by omega)
  have HN := Lib.hid (show n < 65536 ∧ codes < 4294967296 ∧ nx < 4294967296 ∧ ck < 18446744073709551616 ∧ L.length < 65536 by omega)
  clear h hk hsh hnx hck hLn
  refine (callsIn_wide (n := 9)).1 ?_
  refine callsIn_of_wp_marks Tryz.func25 rfl trivial ?_ rfl
  simp only [Tryz.ntmps25, List.size_toArray, List.length_cons, List.length_nil, Nat.reduceAdd, Nat.reduceSub, Array.replicate_succ, Array.replicate_zero, List.push_toArray, List.append_toArray, List.nil_append, List.cons_append]
  gi_wp2_with (refine ⟨trivial, ?_⟩; gi_at_call 52; refine (callsIn_wide.2 HCP.out).mono ?_; rintro e w1 ⟨b1, S1, q1, rfl, hbk1, hS1, hb1⟩)
  have HB1 := Lib.hid hb1
  have hc1 := HH.out.below hb1
  have HC1 := Lib.hid hc1
  clear hbk1 hS1 hb1 HCP
  obtain ⟨w2, hw2e⟩ : ∃ w2, w1.alloc (.cells #[.slice none 0 0] 122) = w2 := ⟨_, rfl⟩
  obtain ⟨p, hp⟩ : ∃ p, w1.heap.size = p := ⟨_, rfl⟩
  have hW2 : WrAt w2 p [] := by rw [← hw2e, ← hp]; exact Oc.WrAt.fresh w1
  have HPW := Lib.hid (show w.heap.size ≤ p by rw [← hp]; exact HB1.out.size)
  have hB2 : Below w.heap.size w w2 := by rw [← hw2e]; exact ext_alloc HB1.out _
  have hp2 : p < w2.heap.size := by rw [← hw2e, ← hp]; simp
  rw [hw2e, hp]
  refine ⟨trivial, CallsIn.mono (callsIn_wide.2 (Shape_in (HH.out.comp.below hB2))) ?_⟩
  rintro e w3 ⟨rfl, hb3⟩
  obtain ⟨w4, hw4e⟩ : ∃ w4, w3.alloc (.cells #[.int .i64 n, .int .i64 codes, .int .i64 group] 23) = w4 := ⟨_, rfl⟩
  obtain ⟨sv, hsv⟩ : ∃ sv, w3.heap.size = sv := ⟨_, rfl⟩
  have hA4 : Arr w4 sv 23 #[.int .i64 n, .int .i64 codes, .int .i64 group] := by rw [← hw4e, ← hsv]; exact Arr.fresh w3 _ _
  have hb4 : Below w2.heap.size w2 w4 := by rw [← hw4e]; exact ext_alloc hb3 _
  have HW4 := Lib.hid (hW2.keep hb4); have HB4 := Lib.hid (ext_trans hB2 hb4); have HA4 := Lib.hid hA4
  have HPS := Lib.hid (show p ≠ sv by have := hb3.size; omega)
  have s40 : w4.cell? ⟨sv, 0, none⟩ = some (.int .i64 n) := hA4.cell 0
  have s41 : w4.cell? ⟨sv, 1, none⟩ = some (.int .i64 codes) := hA4.cell 1
  clear hA4
  have s4h : w4.cell? ⟨w3.heap.size, 0, none⟩ = some (.int .i64 n) := by rw [hsv]; exact s40
  clear hw2e hp hW2 hB2 hp2 hb3 hb4 HB1
  gi_wp2
  clear s4h s40 s41 hsv hw4e
  refine ⟨trivial, CallsIn.mono (callsIn_wide.2 (Oc.WTwo_in p n _ w4 HW4.out (by simp) HN.out.1)) ?_⟩
  rintro e w5 ⟨⟨u5, rfl⟩, hW, hT⟩
  have HW5 := Lib.hid hW; have HB5 := Lib.hid (Tch.fresh hT HB4.out (fun k hk => by rw [show k = p from hk]; exact HPW.out))
  have hA5 : Arr w5 sv 23 #[.int .i64 n, .int .i64 codes, .int .i64 group] := (hT.block sv HA4.out.lt (fun e => HPS.out e.symm)).trans HA4.out
  have HA5 := Lib.hid hA5
  clear hW hT HW4 HB4 HA4
  have s50 : w5.cell? ⟨sv, 0, none⟩ = some (.int .i64 n) := hA5.cell 0
  have s51 : w5.cell? ⟨sv, 1, none⟩ = some (.int .i64 codes) := hA5.cell 1
  clear hA5
  gi_wp2
  clear s50 s51
  refine ⟨trivial, CallsIn.mono (callsIn_wide.2 (Oc.WFour_in p codes _ w5 HW5.out (by simp [Oc.le_len]) HN.out.2.1)) ?_⟩
  rintro e w6 ⟨⟨u6, rfl⟩, hW, hT⟩
  have HW6 := Lib.hid hW; have HB6 := Lib.hid (Tch.fresh hT HB5.out (fun k hk => by rw [show k = p from hk]; exact HPW.out))
  have hA6 : Arr w6 sv 23 #[.int .i64 n, .int .i64 codes, .int .i64 group] := (hT.block sv HA5.out.lt (fun e => HPS.out e.symm)).trans HA5.out
  have HA6 := Lib.hid hA6
  clear hW hT HW5 HB5 HA5
  clear hA6
  gi_wp2
  refine ⟨trivial, CallsIn.mono (callsIn_wide.2 (Next_in (HH.out.comp.below HB6.out))) ?_⟩
  rintro e w9 ⟨rfl, hw9⟩
  rw [hw9]
  clear hw9 w9
  gi_wp2
  refine ⟨trivial, CallsIn.mono (callsIn_wide.2 (Oc.WFour_in p nx _ w6 HW6.out (by simp [Oc.le_len]) HN.out.2.2.1)) ?_⟩
  rintro e w7 ⟨⟨u7, rfl⟩, hW, hT⟩
  have HW7 := Lib.hid hW; have HB7 := Lib.hid (Tch.fresh hT HB6.out (fun k hk => by rw [show k = p from hk]; exact HPW.out))
  have hA7 : Arr w7 sv 23 #[.int .i64 n, .int .i64 codes, .int .i64 group] := (hT.block sv HA6.out.lt (fun e => HPS.out e.symm)).trans HA6.out
  have HA7 := Lib.hid hA7
  clear hW hT HW6 HB6 HA6
  clear hA7
  gi_wp2
  refine ⟨trivial, CallsIn.mono (callsIn_wide.2 (Clock_in (HH.out.comp.below HB7.out))) ?_⟩
  rintro e w9 ⟨rfl, hw9⟩
  rw [hw9]
  clear hw9 w9
  gi_wp2
  refine ⟨trivial, CallsIn.mono (callsIn_wide.2 (Oc.WEight_in p ck _ w7 HW7.out (by simp [Oc.le_len]) HN.out.2.2.2.1)) ?_⟩
  rintro e w8 ⟨⟨u8, rfl⟩, hW, hT⟩
  have HW8 := Lib.hid hW; have HB8 := Lib.hid (Tch.fresh hT HB7.out (fun k hk => by rw [show k = p from hk]; exact HPW.out))
  have hA8 : Arr w8 sv 23 #[.int .i64 n, .int .i64 codes, .int .i64 group] := (hT.block sv HA7.out.lt (fun e => HPS.out e.symm)).trans HA7.out
  have HA8 := Lib.hid hA8
  clear hW hT HW7 HB7 HA7
  clear hA8
  gi_wp2
  refine ⟨trivial, CallsIn.mono (callsIn_wide.2 (Len_in (HH.out.comp.below HB8.out))) ?_⟩
  rintro e w9 ⟨rfl, hw9⟩
  rw [hw9]
  clear hw9 w9
  gi_wp2
  refine ⟨trivial, CallsIn.mono (callsIn_wide.2 (Oc.WTwo_in p L.length _ w8 HW8.out (by simp [Oc.le_len]) HN.out.2.2.2.2)) ?_⟩
  rintro e w9 ⟨⟨u9, rfl⟩, hW, hT⟩
  have HW9 := Lib.hid hW; have HB9 := Lib.hid (Tch.fresh hT HB8.out (fun k hk => by rw [show k = p from hk]; exact HPW.out))
  have hA9 : Arr w9 sv 23 #[.int .i64 n, .int .i64 codes, .int .i64 group] := (hT.block sv HA8.out.lt (fun e => HPS.out e.symm)).trans HA8.out
  have HA9 := Lib.hid hA9
  clear hW hT HW8 HB8 HA8
  clear hA9 HA9
  gi_wp2
  refine ⟨trivial, CallsIn.mono (callsIn_wide.2 (BAll_in (HH.out.below HB9.out) HR.out)) ?_⟩
  rintro e w10 ⟨vb, v, rfl, hV, hvb, hvk, hb10⟩
  gi_wp2
  have hp9 : p < w9.heap.size := by obtain ⟨A, c, h1, _⟩ := HW9.out.ex; exact h1.lt
  have hl10 := hb10.size
  have hvbp : vb ≠ p := by omega
  have hvkp : ∀ k, v.ownBlock = some k → k ≠ p := fun k hk => by have := hvk k hk; omega
  have hvb10 : vb < w10.heap.size := hV.cell.lt
  have hvk10 := hV.lt
  have hW10 := HW9.out.keep hb10
  have hB10 := ext_trans HB9.out hb10
  obtain ⟨hd, hhd⟩ : ∃ hd, ([] ++ le n 2 ++ le codes 4 ++ le nx 4 ++ le ck 8 ++ le L.length 2 : List UInt8) = hd := ⟨_, rfl⟩
  rw [hhd] at hW10
  have HHD := Lib.hid hhd
  have hdl : hd.length = 20 := by rw [← hhd]; simp [Oc.le_len]
  have HDL := Lib.hid hdl
  clear hhd hdl HW9 HB9 hb10 hvb hvk hw1 hw2 hw3 hw4 HH HR HC1 hc1
  refine wpIn_rangeFunc_ownH (n := 9) rfl (by decide) (gf := 148) (lb := #[.pointer (some ⟨vb, 0, none⟩)]) rfl trivial (enters_of Tryz.func148 (by kernel_rfl) rfl)
    (values_stops 8 (by omega) vb v L (by have := HLL.out; omega) HX.out w10 hV) (fun h k => ⟨k.1.trans h.1, fun j hj => (k.2 j hj).trans (h.2 j hj)⟩) (fun W i o o' h hc hw hk => ⟨World.putObj_heap_other (by omega), fun j hj => World.putObj_heap_other (by have := hvk10 j hj; omega)⟩) (Below.refl _ _) (fun _ => rfl)
    (fun pre W => w10.heap.size ≤ W.heap.size ∧ WrAt W p (hd ++ (pre.map fun x => bkgB x.1).flatten) ∧ Below w.heap.size w W)
    (fun _ _ _ => False)
    (fun s A B row ⟨h0, h1, h4⟩ hgr hr => ⟨Nat.le_trans h0 hgr.size, wr_ownFrom _ _ (fun _ : Unit => _) () A B row h1 hgr hr, h4.grown hgr (by have := HPW.out; omega) (fun k e => by have := (hr k e).1; have := HPW.out; omega)⟩)
    (fun _ _ _ _ _ h => h.elim)
    ⟨Nat.le_refl _, by simpa using hW10, hB10⟩
    (fun x a' W => ∃ xb, w10.heap.size ≤ xb ∧ Arr W xb 90 #[.int .u32 x.1.id, .int .i64 x.1.seat, .int .i64 x.1.til] ∧ a' = { tmps := #[.pointer (some ⟨b, 0, none⟩), undef, .slice none 0 0, .int .i64 0, .pointer (some ⟨p, 0, none⟩), .pointer (some ⟨sv, 0, none⟩), .pointer (some ⟨xb, 0, none⟩), .pointer (some ⟨b, 0, none⟩), .pointer (some ⟨b1, 0, none⟩), .bool false, .pointer (some ⟨b, 0, none⟩), .agg #[.int .i64 n, .int .i64 codes, .int .i64 group], .pointer (some ⟨sv, 0, none⟩), .int .i64 n, .int .u16 n, u5, .pointer (some ⟨sv, 1, none⟩), .int .i64 codes, .int .u32 codes, u6, .pointer (some ⟨b, 0, none⟩), .int .u32 nx, u7, .pointer (some ⟨b, 0, none⟩), .int .i64 ck, .int .u64 ck, u8, .pointer (some ⟨b, 0, none⟩), .int .i64 L.length, .int .u16 L.length, u9, .pointer (some ⟨b, 0, none⟩), .func (.func 148) #[] #[.pointer (some ⟨vb, 0, none⟩)], .agg #[.int .u32 x.1.id, .int .i64 x.1.seat, .int .i64 x.1.til], undef, undef, undef, undef, undef, undef, undef, undef, undef, undef, undef, undef], defers := [] })
    (fun x a' _ A B row ⟨xb, h1, h2, h3⟩ hgr hr => ⟨xb, h1, arr_ownFrom _ _ _ (fun _ : Unit => _) () A B row h2 hgr hr, h3⟩) ?assign ?body ?done ?stop
  case assign =>
    intro i pre x W K ⟨h0, h1, h4⟩ hK
    have hb := ext_alloc (Below.refl W.heap.size W) (.cells #[.int .u32 x.1.id, .int .i64 x.1.seat, .int .i64 x.1.til] 90)
    have hKK := hK _ _ (Below.keepsFrom hb _) ⟨hb.block vb (by omega), fun j hj => hb.block j (by have := hvk10 j hj; omega)⟩ ⟨by have := hb.size; omega, h1.keep hb, ext_trans h4 hb⟩ ⟨W.heap.size, h0, Arr.fresh W _ _, rfl⟩
    clear hK
    dsimp only [encV]
    gi_wp2
    exact hKK
  case stop => intro _ _ _ _ _ _ h; exact h.elim
  case done =>
    rintro D xs W hD hxs ⟨h0, h1, h4⟩ hK
    have hm : hd ++ (xs.map fun x => bkgB x.1).flatten = imgB n codes nx ck L := by
      rw [← HHD.out, ← hxs]
      unfold imgB headB
      rw [List.map_map]
      simp
    rw [hm] at h1
    have hlen : (imgB n codes nx ck L).length ≤ 70000000 := by
      unfold imgB
      rw [List.length_append, headB_len, flat_len]
      have := HLL.out
      omega
    have HO := Lib.hid (Oc.WOut_in p _ W h1 hlen)
    have H4 := Lib.hid h4; have HK := Lib.hid hK
    have hDW : D < W.heap.size := (Array.getElem?_eq_some_iff.1 hK).1
    clear h1 h4 hK hm hlen
    gi_wp2
    refine ⟨trivial, CallsIn.mono (callsIn_wide.2 HO.out) ?_⟩
    rintro e W2 ⟨A, c, rfl, hblk, hc, hg, hA0, hb⟩
    have hK2 : W2.heap[D]? = some (.deferred (some [])) := (hb.block D hDW).trans HK.out
    have hgp := grownBy_putObj' W2 D (.deferred none)
    have hfin : Below w.heap.size w (W2.putObj D (.deferred none)) := (ext_trans H4.out hb).grown hgp (by have := H4.out.size; have := hb.size; omega) (fun k e => by cases e; have := HPW.out; omega)
    have HF := Lib.hid (show PtOut (imgB n codes nx ck L) w (.returned (.tuple #[.slice A (imgB n codes nx ck L).length c, .int .i64 0])) (W2.putObj D (.deferred none)) from ⟨A, c, rfl, fun hne => by
      obtain ⟨g, h1, h2, cur, h3, h4'⟩ := hblk hne
      exact ⟨g, h1, by have := H4.out.size; omega, cur, (World.putObj_heap_other (by omega)).trans h3, h4'⟩, hc, hfin⟩)
    have HK2 := Lib.hid hK2
    clear hblk hc hg hA0 hb hK2 hgp hfin HO
    gi_wp2
    refine ⟨by simp, .inl ⟨_, _, rfl, run_takeDeferred HK2.out, ?_⟩⟩
    refine ⟨_, results_tmp2 rfl _ _ _, ?_⟩
    exact HF.out
  case body =>
    rintro r pre ⟨⟨id, seat, til⟩, hx⟩ a' W hl hr ⟨h0, h1, h4⟩ ⟨xb, hxb, hax, rfl⟩ hlt
    have hx' := hx
    unfold BX at hx'
    dsimp only at hx'
    obtain ⟨idn, rfl⟩ : ∃ k : Nat, id = k := ⟨id.toNat, by omega⟩
    obtain ⟨tn, rfl⟩ : ∃ k : Nat, til = k := ⟨til.toNat, by omega⟩
    dsimp only at hax
    have hpl : pre.length ≤ 4096 := by have := HLL.out; omega
    have hfl : ((pre.map fun x => bkgB x.1).flatten).length = 14 * pre.length := by
      have := flat_len (pre.map (·.1))
      rwa [List.map_map, List.length_map] at this
    have hbl : (hd ++ (pre.map fun x => bkgB x.1).flatten).length ≤ 67000000 := by rw [List.length_append, HDL.out, hfl]; omega
    obtain ⟨bs, hbs⟩ : ∃ bs, hd ++ (pre.map fun x => bkgB x.1).flatten = bs := ⟨_, rfl⟩
    rw [hbs] at h1 hbl
    have hw5 : IntKind.u16.wrap (seat : Int) = (seat : Int) := by rw [IntKind.wrap_u16]; omega
    have hw6 : IntKind.u64.wrap (tn : Int) = (tn : Int) := by rw [IntKind.wrap_u64]; omega
    have e0 : W.cell? ⟨xb, 0, none⟩ = some (.int .u32 idn) := hax.cell 0
    have hxp : xb ≠ p := by omega
    have HW0 := Lib.hid h1; have HA0 := Lib.hid hax; have HI0 := Lib.hid h4; have HBS := Lib.hid hbs; have HBL := Lib.hid hbl; have H0 := Lib.hid h0
    have HI := Lib.hid (show idn < 4294967296 ∧ seat < 65536 ∧ tn < 18446744073709551616 by omega)
    clear h1 hax h4 hbs hbl h0 hx' hfl hr
    gi_wp2
    refine ⟨trivial, CallsIn.mono (CallsIn.inRound r (callsIn_wide.2 (Oc.WFour_in p idn bs W HW0.out (by have := HBL.out; omega) HI.out.1))) ?_⟩
    rintro e Wa ⟨⟨ua, rfl⟩, hWa, hTa⟩
    have haa : Arr Wa xb 90 #[.int .u32 idn, .int .i64 seat, .int .i64 tn] := (hTa.block xb HA0.out.lt hxp).trans HA0.out
    have e1 : Wa.cell? ⟨xb, 1, none⟩ = some (.int .i64 seat) := haa.cell 1
    have HWa := Lib.hid hWa; have HTa := Lib.hid hTa; have HAa := Lib.hid haa
    clear hWa hTa haa
    gi_wp2
    refine ⟨trivial, CallsIn.mono (CallsIn.inRound r (callsIn_wide.2 (Oc.WTwo_in p seat _ Wa HWa.out (by have := HBL.out; simp [Oc.le_len]; omega) HI.out.2.1))) ?_⟩
    rintro e Wb ⟨⟨ub, rfl⟩, hWb, hTb⟩
    have hab : Arr Wb xb 90 #[.int .u32 idn, .int .i64 seat, .int .i64 tn] := (hTb.block xb HAa.out.lt hxp).trans HAa.out
    have e2 : Wb.cell? ⟨xb, 2, none⟩ = some (.int .i64 tn) := hab.cell 2
    have HWb := Lib.hid hWb; have HTb := Lib.hid hTb
    clear hWb hTb hab
    gi_wp2
    refine ⟨trivial, CallsIn.mono (CallsIn.inRound r (callsIn_wide.2 (Oc.WEight_in p tn _ Wb HWb.out (by have := HBL.out; simp [Oc.le_len]; omega) HI.out.2.2))) ?_⟩
    rintro e Wc ⟨⟨uc, rfl⟩, hWc, hTc⟩
    have hT := (HTa.out.trans HTb.out).trans hTc
    have HF := Lib.hid (show ownPostG w10.heap.size (KpV vb v) (fun pre W => w10.heap.size ≤ W.heap.size ∧ WrAt W p (hd ++ (pre.map fun x => bkgB x.1).flatten) ∧ Below w.heap.size w W) (fun _ _ _ => False) (pre ++ [⟨⟨(idn : Int), seat, (tn : Int)⟩, hx⟩]) W Exit.normal { tmps := #[], defers := [] } Wc from by
      obtain ⟨A, c, hp0, _⟩ := HW0.out.ex
      refine ⟨Tch.keepsFrom hT hp0 _, ⟨hT.block vb (by have := H0.out; omega) hvbp, fun j hj => hT.block j (by have := hvk10 j hj; have := H0.out; omega) (hvkp j hj)⟩, Nat.le_trans H0.out hT.size, ?_, Tch.fresh hT HI0.out (fun k hk => by rw [show k = p from hk]; exact HPW.out)⟩
      rw [List.map_append, List.flatten_append, ← List.append_assoc, HBS.out]
      simpa [bkgB, List.append_assoc] using hWc)
    clear hWc hTc hT
    gi_wp2
    exact HF.out

end Go.Proofs.YtbnkanehjnepbaaGreatDoor.Im
end

/- Layer 18: an image is got. -/
section
set_option linter.unusedVariables false
set_option linter.unusedSimpArgs false
namespace Go.Proofs.YtbnkanehjnepbaaGreatDoor.Im
open Go.RowKit
open Go.Proofs.YtbnkanehjnepbaaGreatDoor.Bk
open Go.Proofs.YtbnkanehjnepbaaGreatDoor.Oc (Bs bytesV byteV le val okA RdAt tk)

def RkOut (p q : Nat) (bs : List UInt8) (k : Nat) (kd : IntKind) (w : World) (en : Ending) (w' : World) : Prop := en = .returned (.int kd (val (bs.take k) : Nat)) ∧ RdAt w' p q (bs.drop k) 0 ∧ Tch (· = q) w w'
theorem RTwo_ok (p q : Nat) (bs : List UInt8) (w : World) (h : RdAt w p q bs 0) (hl : 2 ≤ bs.length) : Calls Tryz.prog 90 #[.pointer (some ⟨p, 0, none⟩)] w (RkOut p q bs 2 .u16 w) := by
  have := Oc.RTwo_in p q bs 0 w h
  unfold Oc.RdOut at this
  rw [Oc.tk_ok hl] at this
  exact this
theorem RFour_ok (p q : Nat) (bs : List UInt8) (w : World) (h : RdAt w p q bs 0) (hl : 4 ≤ bs.length) : Calls Tryz.prog 88 #[.pointer (some ⟨p, 0, none⟩)] w (RkOut p q bs 4 .u32 w) := by
  have := Oc.RFour_in p q bs 0 w h
  unfold Oc.RdOut at this
  rw [Oc.tk_ok hl] at this
  exact this
theorem REight_ok (p q : Nat) (bs : List UInt8) (w : World) (h : RdAt w p q bs 0) (hl : 8 ≤ bs.length) : Calls Tryz.prog 92 #[.pointer (some ⟨p, 0, none⟩)] w (RkOut p q bs 8 .u64 w) := by
  have := Oc.REight_in p q bs 0 w h
  unfold Oc.RdOut at this
  rw [Oc.tk_ok hl] at this
  exact this
theorem val_lt2 (k : Nat) (l : List UInt8) : val (l.take k) < 256 ^ k := Nat.lt_of_lt_of_le (Oc.val_lt _) (Nat.pow_le_pow_right (by decide) (by rw [List.length_take]; omega))
/-- a booking's bytes are read -/
def rawR (b : List UInt8) : Raw := ⟨val (b.take 4), val ((b.drop 4).take 2), IntKind.i64.wrap (val ((b.drop 6).take 8))⟩
def rawsR : Nat → List UInt8 → List Raw
  | 0, _ => []
  | k + 1, b => rawR b :: rawsR k (b.drop 14)
theorem rawsR_len : ∀ (k : Nat) (b : List UInt8), (rawsR k b).length = k
  | 0, _ => rfl
  | k + 1, b => by rw [rawsR, List.length_cons, rawsR_len k]
theorem rawsR_id : ∀ (k : Nat) (b : List UInt8) (x : Raw), x ∈ rawsR k b → 0 ≤ x.id ∧ x.id < 4294967296
  | 0, _, x, hx => by cases hx
  | k + 1, b, x, hx => by
    rcases List.mem_cons.1 hx with rfl | hx
    · have h1 := val_lt2 4 b
      show (0 : Int) ≤ (val (b.take 4) : Nat) ∧ ((val (b.take 4) : Nat) : Int) < 4294967296
      omega
    · exact rawsR_id k _ x hx
theorem rawsR_get : ∀ (k : Nat) (b : List UInt8) (j : Nat), j < k → (rawsR k b).getD j ⟨0, 0, 0⟩ = rawR (b.drop (14 * j))
  | 0, _, _, h => by omega
  | k + 1, b, 0, _ => by simp [rawsR]
  | k + 1, b, j + 1, h => by
    rw [rawsR, List.getD_cons_succ, rawsR_get k (b.drop 14) j (by omega), List.drop_drop]
    congr 1
    congr 1
    omega
/-- what lies in the row of bookings when j of them were read -/
def cR (k : Nat) (bs : List UInt8) (j i : Nat) : List Value := if i < j then rawL ((rawsR k (bs.drop 20)).getD i ⟨0, 0, 0⟩) else [.int .u32 0, .int .i64 0, .int .i64 0]
theorem cR_zero (k : Nat) (bs : List UInt8) : cR k bs 0 = fun _ => [.int .u32 0, .int .i64 0, .int .i64 0] := funext fun i => by unfold cR; rw [if_neg (by omega)]
theorem cR_len (k : Nat) (bs : List UInt8) (j : Nat) : ∀ i, (cR k bs j i).length = 3 := fun i => by unfold cR; split <;> rfl
theorem cR_succ (k : Nat) (bs : List UInt8) (j : Nat) (x : Raw) (h : (rawsR k (bs.drop 20)).getD j ⟨0, 0, 0⟩ = x) : cR k bs (j + 1) = setL (cR k bs j) j (rawL x) := funext fun i => by
  unfold cR setL
  dsimp only
  by_cases hi : i = j
  · subst hi
    rw [if_pos (by omega), if_pos rfl, h]
  · rw [if_neg hi]
    by_cases h2 : i < j
    · rw [if_pos (by omega), if_pos h2]
    · rw [if_neg (by omega), if_neg h2]
theorem cR_kind (k : Nat) (bs : List UInt8) (j i : Nat) : ∃ a b c, cR k bs j i = [.int .u32 a, .int .i64 b, .int .i64 c] := by
  unfold cR
  split
  · exact ⟨_, _, _, rfl⟩
  · exact ⟨_, _, _, rfl⟩
/-- a reader's bytes do not lie in a row of bookings -/
theorem RdAt_stored {w w' : World} {p q g n : Nat} {bs : List UInt8} {e : Int} {S : Nat → Prop} {cc : Nat → List Value} (h : RdAt w p q bs e) (hrow : RowIn S w 90 3 (.slice (some ⟨g, 0, none⟩) n n) n cc) (hk : ∀ i, ∃ a b c, cc i = [.int .u32 a, .int .i64 b, .int .i64 c])
    (hg : w.grownBy w' (some g)) (hqg : q ≠ g) (hpg : p ≠ g) : RdAt w' p q bs e := by
  obtain ⟨A, c, h1, h2, h3, h4⟩ := h.rest.ex
  refine ⟨h.own.grownTo hg (fun e => by injection e with e; exact hpg e.symm), A, c, h1.grownTo hg (fun e => by injection e with e; exact hqg e.symm), ?_, h3, h4⟩
  intro hne
  obtain ⟨gA, off, e1, e2, e3⟩ := h2 hne
  have hgA : gA ≠ g := by
    rintro rfl
    obtain ⟨x, r, hx⟩ := List.exists_cons_of_ne_nil hne
    have h5 := e3 0 (byteV x) (by rw [hx]; rfl)
    rw [Nat.add_zero] at h5
    rcases hrow.own.2 with ⟨hv, _⟩ | ⟨g', cap', cur, hv, hb, hh, i1, i2, i3, i4⟩
    · cases hv
    · injection hv with f1 _ f2
      injection f1 with f1
      injection f1 with f1
      subst f1 f2
      have hc3 : ∀ i, (cc i).length = 3 := fun i => by obtain ⟨a, b, c, hx⟩ := hk i; rw [hx]; rfl
      simp only [World.cell?, hh] at h5
      have h5' : cur[off]? = some (byteV x) := h5
      have hlt : off < n * 3 := by
        have := (Array.getElem?_eq_some_iff.1 h5').1
        omega
      have h6 : (cur.toList.take (n * 3))[off]? = (flat cc n)[off]? := by rw [i4]
      rw [List.getElem?_take, if_pos hlt, Array.getElem?_toList, h5'] at h6
      have a1 : off / 3 < n := (Nat.div_lt_iff_lt_mul (by decide)).2 hlt
      have a2 : off % 3 < 3 := Nat.mod_lt _ (by decide)
      have a3 : off / 3 * 3 + off % 3 = off := by rw [Nat.mul_comm]; exact Nat.div_add_mod off 3
      rw [← a3, flat_get hc3 a1 a2] at h6
      obtain ⟨a, b, c, hx3⟩ := hk (off / 3)
      rw [hx3] at h6
      rcases (show off % 3 = 0 ∨ off % 3 = 1 ∨ off % 3 = 2 by omega) with e | e | e <;> rw [e] at h6 <;> cases h6
  exact ⟨gA, off, e1, Nat.lt_of_lt_of_le e2 hg.size, fun i u hu => (World.cell?_of_block (a := ⟨gA, off + i, none⟩) (hg.block gA e2 (fun e => hgA (by cases e; rfl)))).trans (e3 i u hu)⟩
def cntR (bs : List UInt8) : Nat := val ((bs.drop 18).take 2)
def GtOut (n codes : Nat) (group : Int) (bs : List UInt8) (w : World) (e : Ending) (w' : World) : Prop := Below w.heap.size w w' ∧
  if bs.length < 20 then e = .returned (.tuple #[.pointer none, .int .i64 4])
  else if bs.length < 20 + cntR bs * 14 then e = .returned (.tuple #[.pointer none, .int .i64 4])
  else if 20 + cntR bs * 14 < bs.length then e = .returned (.tuple #[.pointer none, .int .i64 5])
  else if val (bs.take 2) = n ∧ val ((bs.drop 2).take 4) = codes then
    match bookOf n codes (val ((bs.drop 6).take 4)) (IntKind.i64.wrap (val ((bs.drop 10).take 8))) (rawsR (cntR bs) (bs.drop 20)) with
    | none => e = .returned (.tuple #[.pointer none, .int .i64 180])
    | some L => ∃ b S q, e = .returned (.tuple #[.pointer (some ⟨b, 0, none⟩), .int .i64 0]) ∧ BookAt S w' b n codes group (val ((bs.drop 6).take 4)) (IntKind.i64.wrap (val ((bs.drop 10).take 8))) L q ∧ (∀ k, S k → w.heap.size ≤ k)
  else e = .returned (.tuple #[.pointer none, .int .i64 180])
set_option maxRecDepth 100000 in
set_option maxHeartbeats 4000000 in
theorem Get_in (n codes : Nat) (group : Int) (bs : List UInt8) (AA : Option Addr) (c : Nat) (w : World) (hok : Geo.okS n codes group = true) (hB : Bs w AA bs) (hA : okA AA) (hl : bs.length ≤ 67108864) : Calls Tryz.prog 56 #[.agg #[.int .i64 n, .int .i64 codes, .int .i64 group], .slice AA bs.length c] w (GtOut n codes group bs w) := by
  have HC := Lib.hid (fun W => Geo.check_yes n codes group W hok)
  obtain ⟨a1, hv1⟩ : ∃ a, val (bs.take 2) = a := ⟨_, rfl⟩
  obtain ⟨a2, hv2⟩ : ∃ a, val ((bs.drop 2).take 4) = a := ⟨_, rfl⟩
  obtain ⟨a3, hv3⟩ : ∃ a, val ((bs.drop 6).take 4) = a := ⟨_, rfl⟩
  obtain ⟨a4, hv4⟩ : ∃ a, val ((bs.drop 10).take 8) = a := ⟨_, rfl⟩
  obtain ⟨a5, hv5⟩ : ∃ a, val ((bs.drop 18).take 2) = a := ⟨_, rfl⟩
  have hbd : a1 < 65536 ∧ a2 < 4294967296 ∧ a3 < 4294967296 ∧ a4 < 18446744073709551616 ∧ a5 < 65536 := by
    rw [← hv1, ← hv2, ← hv3, ← hv4, ← hv5]
    exact ⟨val_lt2 2 _, val_lt2 4 _, val_lt2 4 _, val_lt2 8 _, val_lt2 2 _⟩
  have hw1 : IntKind.i64.wrap (a1 : Int) = (a1 : Int) := by rw [IntKind.wrap_i64]; omega
  have hw2 : IntKind.i64.wrap (a2 : Int) = (a2 : Int) := by rw [IntKind.wrap_i64]; omega
  have hw5 : IntKind.i64.wrap (a5 : Int) = (a5 : Int) := by rw [IntKind.wrap_i64]; omega
  have HV1 := Lib.hid hv1; have HV2 := Lib.hid hv2; have HV3 := Lib.hid hv3; have HV4 := Lib.hid hv4; have HV5 := Lib.hid hv5; have HBD := Lib.hid hbd
  clear hv1 hv2 hv3 hv4 hv5 hbd
  obtain ⟨i0, hi0, hz0, hz1, hz3⟩ := info_parts bkg_info
  have hz2 : (Value.agg #[Value.int .u32 0, .int .i64 0, .int .i64 0]).cells.size = 3 := rfl
  have HBS := Lib.hid hB; have HOK := Lib.hid hA; have HLN := Lib.hid hl; have HSH := Lib.hid hok
  clear hB hA hl hok
  go_enter Tryz.func56, Tryz.ntmps56
  go_wp2_with fail
  obtain ⟨sv, hsv⟩ : ∃ sv, w.heap.size = sv := ⟨_, rfl⟩
  obtain ⟨w1, hw1⟩ : ∃ w1, w.alloc (.cells #[.int .i64 n, .int .i64 codes, .int .i64 group] 23) = w1 := ⟨_, rfl⟩
  have ha1 : Arr w1 sv 23 #[.int .i64 n, .int .i64 codes, .int .i64 group] := by rw [← hw1, ← hsv]; exact Arr.fresh w _ _
  have hb1 : Below w.heap.size w w1 := by rw [← hw1]; exact ext_alloc (Below.refl _ _) _
  rw [hw1, hsv]
  have HSV := Lib.hid hsv
  clear hw1 hsv
  refine (HC.out _).mono ?_
  rintro e w2 ⟨rfl, hb2⟩
  have HA2 := Lib.hid (ha1.keep hb2); have HB2 := Lib.hid (ext_trans hb1 hb2)
  clear ha1 hb1 hb2 HC
  by_cases h20 : bs.length < 20
  · have h20' : (bs.length : Int) < 20 := by omega
    have HG := Lib.hid (show GtOut n codes group bs w (.returned (.tuple #[.pointer none, .int .i64 4])) w2 from ⟨HB2.out, by rw [if_pos h20]⟩)
    go_wp2_with fail
    go_ret2
    exact HG.out
  have h20' : ¬ (bs.length : Int) < 20 := by omega
  have HH20 := Lib.hid h20
  clear h20
  go_wp2_with fail
  refine (Oc.Of_in bs AA c w2 (HBS.out.keep HB2.out) HOK.out (by have := HLN.out; omega)).mono ?_
  rintro e w3 ⟨p, q, rfl, hR, hp, hq, hb3⟩
  have HR3 := Lib.hid hR; have HA3 := Lib.hid (HA2.out.keep hb3); have HB3 := Lib.hid (ext_trans HB2.out hb3)
  have HPQ := Lib.hid (show w.heap.size ≤ p ∧ w.heap.size ≤ q by have := HB2.out.size; omega)
  have HPS := Lib.hid (show q ≠ sv by have := HA2.out.lt; omega)
  clear hR hp hq hb3 HA2 HB2 h20'
  go_wp2_with fail
  refine (RTwo_ok p q bs w3 HR3.out (by have := HH20.out; omega)).mono ?_
  rintro e w4 ⟨rfl, hR, hT⟩
  rw [HV1.out]
  replace hR : RdAt w4 p q (bs.drop 2) 0 := by exact hR
  have HR4 := Lib.hid hR; have HB4 := Lib.hid (Tch.fresh hT HB3.out (fun k hk => by rw [show k = q from hk]; exact HPQ.out.2)); have HA4 := Lib.hid (show Arr w4 sv 23 #[.int .i64 n, .int .i64 codes, .int .i64 group] from (hT.block sv HA3.out.lt (fun e => HPS.out e.symm)).trans HA3.out)
  clear hR hT HR3 HB3 HA3
  go_wp2_with fail
  refine (RFour_ok p q (bs.drop 2) w4 HR4.out (by rw [List.length_drop]; have := HH20.out; omega)).mono ?_
  rintro e w5 ⟨rfl, hR, hT⟩
  rw [HV2.out]
  replace hR : RdAt w5 p q (bs.drop 6) 0 := by rw [List.drop_drop] at hR; exact hR
  have HR5 := Lib.hid hR; have HB5 := Lib.hid (Tch.fresh hT HB4.out (fun k hk => by rw [show k = q from hk]; exact HPQ.out.2)); have HA5 := Lib.hid (show Arr w5 sv 23 #[.int .i64 n, .int .i64 codes, .int .i64 group] from (hT.block sv HA4.out.lt (fun e => HPS.out e.symm)).trans HA4.out)
  clear hR hT HR4 HB4 HA4
  go_wp2_with fail
  refine (RFour_ok p q (bs.drop 6) w5 HR5.out (by rw [List.length_drop]; have := HH20.out; omega)).mono ?_
  rintro e w6 ⟨rfl, hR, hT⟩
  rw [HV3.out]
  replace hR : RdAt w6 p q (bs.drop 10) 0 := by rw [List.drop_drop] at hR; exact hR
  have HR6 := Lib.hid hR; have HB6 := Lib.hid (Tch.fresh hT HB5.out (fun k hk => by rw [show k = q from hk]; exact HPQ.out.2)); have HA6 := Lib.hid (show Arr w6 sv 23 #[.int .i64 n, .int .i64 codes, .int .i64 group] from (hT.block sv HA5.out.lt (fun e => HPS.out e.symm)).trans HA5.out)
  clear hR hT HR5 HB5 HA5
  go_wp2_with fail
  refine (REight_ok p q (bs.drop 10) w6 HR6.out (by rw [List.length_drop]; have := HH20.out; omega)).mono ?_
  rintro e w7 ⟨rfl, hR, hT⟩
  rw [HV4.out]
  replace hR : RdAt w7 p q (bs.drop 18) 0 := by rw [List.drop_drop] at hR; exact hR
  have HR7 := Lib.hid hR; have HB7 := Lib.hid (Tch.fresh hT HB6.out (fun k hk => by rw [show k = q from hk]; exact HPQ.out.2)); have HA7 := Lib.hid (show Arr w7 sv 23 #[.int .i64 n, .int .i64 codes, .int .i64 group] from (hT.block sv HA6.out.lt (fun e => HPS.out e.symm)).trans HA6.out)
  clear hR hT HR6 HB6 HA6
  go_wp2_with fail
  refine (RTwo_ok p q (bs.drop 18) w7 HR7.out (by rw [List.length_drop]; have := HH20.out; omega)).mono ?_
  rintro e w8 ⟨rfl, hR, hT⟩
  rw [HV5.out]
  replace hR : RdAt w8 p q (bs.drop 20) 0 := by rw [List.drop_drop] at hR; exact hR
  have HR8 := Lib.hid hR; have HB8 := Lib.hid (Tch.fresh hT HB7.out (fun k hk => by rw [show k = q from hk]; exact HPQ.out.2)); have HA8 := Lib.hid (show Arr w8 sv 23 #[.int .i64 n, .int .i64 codes, .int .i64 group] from (hT.block sv HA7.out.lt (fun e => HPS.out e.symm)).trans HA7.out)
  clear hR hT HR7 HB7 HA7
  go_wp2_with fail
  have hln : (bs.drop 20).length = bs.length - 20 := List.length_drop ..
  obtain ⟨lf, hlf⟩ : ∃ lf, bs.length - 20 = lf := ⟨_, rfl⟩
  rw [hlf] at hln
  have HLF := Lib.hid hlf
  have HLE := Lib.hid (show ∀ W, RdAt W p q (bs.drop 20) 0 → Calls Tryz.prog 117 #[.pointer (some ⟨p, 0, none⟩)] W (fun en w' => en = .returned (.int .i64 lf) ∧ w' = W) from fun W hW => by have := Oc.RLeft_in p q (bs.drop 20) 0 W hW; rwa [hln] at this)
  clear hlf hln
  refine (HLE.out _ HR8.out).mono ?_
  rintro e w9 ⟨rfl, hw9⟩
  rw [hw9]
  clear hw9 w9
  have hm : IntKind.i64.wrap ((a5 : Int) * 14) = ((a5 * 14 : Nat) : Int) := by rw [IntKind.wrap_i64]; have := HBD.out; omega
  have hm2 : IntKind.i64.wrap ((a5 * 14 : Nat) : Int) = ((a5 * 14 : Nat) : Int) := by rw [IntKind.wrap_i64]; have := HBD.out; omega
  by_cases h1 : lf < a5 * 14
  · have h1i : (lf : Int) < ((a5 * 14 : Nat) : Int) := by omega
    have h1j : (lf : Int) < (a5 : Int) * 14 := by omega
    have HG := Lib.hid (show GtOut n codes group bs w (.returned (.tuple #[.pointer none, .int .i64 4])) w8 from ⟨HB8.out, by rw [if_neg HH20.out, cntR, HV5.out, if_pos (by have := HLF.out; have := HH20.out; omega)]⟩)
    go_wp2_with fail
    go_ret2
    exact HG.out
  have h1i : ¬ (lf : Int) < ((a5 * 14 : Nat) : Int) := by omega
  have h1j : ¬ (lf : Int) < (a5 : Int) * 14 := by omega
  have HH1 := Lib.hid h1
  clear h1
  go_wp2_with fail
  refine (HLE.out _ HR8.out).mono ?_
  rintro e w9 ⟨rfl, hw9⟩
  rw [hw9]
  clear hw9 w9
  by_cases h2 : a5 * 14 < lf
  · have h2i : ((a5 * 14 : Nat) : Int) < (lf : Int) := by omega
    have h2j : (a5 : Int) * 14 < (lf : Int) := by omega
    have HG := Lib.hid (show GtOut n codes group bs w (.returned (.tuple #[.pointer none, .int .i64 5])) w8 from ⟨HB8.out, by rw [if_neg HH20.out, cntR, HV5.out, if_neg (by have := HLF.out; have := HH20.out; have := HH1.out; omega), if_pos (by have := HLF.out; have := HH20.out; omega)]⟩)
    go_wp2_with fail
    go_ret2
    exact HG.out
  have h2i : ¬ ((a5 * 14 : Nat) : Int) < (lf : Int) := by omega
  have h2j : ¬ (a5 : Int) * 14 < (lf : Int) := by omega
  have HH2 := Lib.hid h2
  clear h2
  have hA8 := HA8.out
  have s0 : w8.cell? ⟨sv, 0, none⟩ = some (.int .i64 n) := hA8.cell 0
  have s1 : w8.cell? ⟨sv, 1, none⟩ = some (.int .i64 codes) := hA8.cell 1
  clear hA8 h1i h1j
  by_cases h3 : a1 = n
  case neg =>
    have h3b : ((a1 : Int) != (n : Int)) = true := by simp; omega
    have HG := Lib.hid (show GtOut n codes group bs w (.returned (.tuple #[.pointer none, .int .i64 180])) w8 from ⟨HB8.out, by rw [if_neg HH20.out, cntR, HV5.out, if_neg (by have := HLF.out; have := HH20.out; have := HH1.out; omega), if_neg (by have := HLF.out; have := HH20.out; have := HH2.out; omega), if_neg (by rw [HV1.out, HV2.out]; intro h; exact h3 h.1)]⟩)
    go_wp2_with fail
    go_ret2
    exact HG.out
  subst h3
  have h3b : ((a1 : Int) != (a1 : Int)) = false := by simp
  by_cases h4 : a2 = codes
  case neg =>
    have h4b : ((a2 : Int) != (codes : Int)) = true := by simp; omega
    have HG := Lib.hid (show GtOut a1 codes group bs w (.returned (.tuple #[.pointer none, .int .i64 180])) w8 from ⟨HB8.out, by rw [if_neg HH20.out, cntR, HV5.out, if_neg (by have := HLF.out; have := HH20.out; have := HH1.out; omega), if_neg (by have := HLF.out; have := HH20.out; have := HH2.out; omega), if_neg (by rw [HV1.out, HV2.out]; intro h; exact h4 h.2)]⟩)
    go_wp2_with fail
    go_ret2
    exact HG.out
  subst h4
  have h4b : ((a2 : Int) != (a2 : Int)) = false := by simp
  obtain ⟨g, hg⟩ : ∃ g, w8.heap.size = g := ⟨_, rfl⟩
  have HGV := Lib.hid hg
  have hlR : (rawsR a5 (bs.drop 20)).length = a5 := rawsR_len _ _
  have hlf : bs.length = 20 + a5 * 14 := by have := HLF.out; have := HH20.out; have := HH1.out; have := HH2.out; omega
  have HLB := Lib.hid hlf
  have HLR := Lib.hid hlR
  have HOF := Lib.hid (show ∀ W vc, Raws W (some ⟨g, 0, none⟩) (rawsR a5 (bs.drop 20)) → Calls Tryz.prog 106 #[.agg #[.int .i64 a1, .int .i64 a2, .int .i64 group], .int .u32 a3, .int .i64 (IntKind.i64.wrap (a4 : Int)), .slice (some ⟨g, 0, none⟩) a5 vc] W (OfOut a1 a2 group a3 (IntKind.i64.wrap (a4 : Int)) (rawsR a5 (bs.drop 20)) W) from fun W vc hW => by
    have h9 := Of_in a1 a2 group a3 (IntKind.i64.wrap (a4 : Int)) (rawsR a5 (bs.drop 20)) (some ⟨g, 0, none⟩) vc W HSH.out hW (by rw [hlR]; have := HBD.out; omega) (by have := HBD.out; omega) (fun x hx => rawsR_id _ _ x hx)
    rwa [hlR] at h9)
  obtain ⟨c4, hc4⟩ : ∃ c4, IntKind.i64.wrap (a4 : Int) = c4 := ⟨_, rfl⟩
  rw [hc4] at HOF
  have HC4 := Lib.hid hc4
  clear hlR hlf hg
  go_wp2_with (first | (refine wpList_plain rfl fun K hK => wp_make_rows w8 _ _ 36 rfl 90 i0 (.agg #[.int .u32 0, .int .i64 0, .int .i64 0]) 3 Tryz.underlying36 hi0 hz0 hz1 hz2 (by decide) a5 rfl rfl (by rw [hz3]; have := HBD.out; omega) (by have := HBD.out; unfold maxLen; omega) ?_; intro w9 hr9 hg9; rw [HGV.out] at hr9; have HR9 := Lib.hid hr9; have HG9 := Lib.hid hg9; clear hr9 hg9; refine hK _ _ ?_; clear hK K))
  rw [HGV.out]
  have hb9 : Below w8.heap.size w8 w9 := Below.grown (Below.refl _ _) HG9.out (Nat.le_refl _) (by simp)
  have HRD := Lib.hid (HR8.out.keep hb9); have HB9 := Lib.hid (ext_trans HB8.out hb9); have HA9 := Lib.hid (HA8.out.keep hb9)
  have HQG := Lib.hid (show q < g by obtain ⟨A, c, h1, _⟩ := HR8.out.rest.ex; rw [← HGV.out]; exact h1.lt)
  have HPG := Lib.hid (show p < g by rw [← HGV.out]; exact HR8.out.own.lt)
  have HWG := Lib.hid (show w.heap.size ≤ g by rw [← HGV.out]; exact HB8.out.size)
  have HGS := Lib.hid (show g ≠ sv by have := HA8.out.lt; have := HGV.out; omega)
  clear hb9 h3b h4b hm hm2 hw1 hw2 hw5 h2i h2j s0 s1
  go_loopw [65] (fun i wr => ∃ j : Nat, j ≤ a5 ∧ i = .int .i64 j ∧ RdAt wr p q (bs.drop (20 + 14 * j)) 0 ∧ RowIn (· = g) wr 90 3 (.slice (some ⟨g, 0, none⟩) a5 a5) a5 (cR a5 bs j) ∧ Below w.heap.size w wr ∧ Arr wr sv 23 #[.int .i64 a1, .int .i64 a2, .int .i64 group]) (fun i _ => (a5 - intOf i).toNat)
  case atStart => exact ⟨0, Nat.zero_le _, rfl, HRD.out, by rw [cR_zero]; exact HR9.out, HB9.out, HA9.out⟩
  case round =>
    obtain ⟨j, hj, rfl, hrd, hrow, hb, ha⟩ := hrel
    have HRDj := Lib.hid hrd; have HROW := Lib.hid hrow; have HBj := Lib.hid hb; have HAj := Lib.hid ha
    clear hrd hrow hb ha
    have hjb : j < 65536 := by have := HBD.out; omega
    by_cases hlt : j < a5
    · have hl1 : (j : Int) < (a5 : Int) := by omega
      have hl0 : (0 : Int) ≤ (j : Int) := by omega
      obtain ⟨x1, hx1⟩ : ∃ x, val ((bs.drop (20 + 14 * j)).take 4) = x := ⟨_, rfl⟩
      obtain ⟨x2, hx2⟩ : ∃ x, val ((bs.drop (24 + 14 * j)).take 2) = x := ⟨_, rfl⟩
      obtain ⟨x3, hx3⟩ : ∃ x, val ((bs.drop (26 + 14 * j)).take 8) = x := ⟨_, rfl⟩
      have hxb : x2 < 65536 := by rw [← hx2]; exact val_lt2 2 _
      have hws : IntKind.i64.wrap (x2 : Int) = (x2 : Int) := by rw [IntKind.wrap_i64]; omega
      obtain ⟨ct, hct⟩ : ∃ c, IntKind.i64.wrap (x3 : Int) = c := ⟨_, rfl⟩
      have HRAW := Lib.hid (show (rawsR a5 (bs.drop 20)).getD j ⟨0, 0, 0⟩ = ⟨x1, x2, ct⟩ from by
        rw [rawsR_get _ _ _ hlt, List.drop_drop]
        unfold rawR
        rw [hx1, List.drop_drop, List.drop_drop, show 20 + 14 * j + 4 = 24 + 14 * j by omega, show 20 + 14 * j + 6 = 26 + 14 * j by omega, hx2, hx3, hct])
      have HX1 := Lib.hid hx1; have HX2 := Lib.hid hx2; have HX3 := Lib.hid hx3; have HLT := Lib.hid hlt
      have HLN2 := Lib.hid (show 20 + 14 * j + 14 ≤ bs.length by have := HLB.out; omega)
      clear hx1 hx2 hx3 hxb hlt
      go_wp2_with fail
      refine (RFour_ok p q _ wr HRDj.out (by rw [List.length_drop]; have := HLN2.out; omega)).mono ?_
      rintro e wa ⟨rfl, hR, hT⟩
      rw [HX1.out]
      rw [List.drop_drop, show 20 + 14 * j + 4 = 24 + 14 * j by omega] at hR
      have HRa := Lib.hid hR; have HTa := Lib.hid hT
      clear hR hT
      go_wp2_with fail
      refine (RTwo_ok p q _ wa HRa.out (by rw [List.length_drop]; have := HLN2.out; omega)).mono ?_
      rintro e wb ⟨rfl, hR, hT⟩
      rw [HX2.out]
      rw [List.drop_drop, show 24 + 14 * j + 2 = 26 + 14 * j by omega] at hR
      have HRb := Lib.hid hR; have HTb := Lib.hid (HTa.out.trans hT)
      clear hR hT HRa HTa
      go_wp2_with fail
      refine (REight_ok p q _ wb HRb.out (by rw [List.length_drop]; have := HLN2.out; omega)).mono ?_
      rintro e wc ⟨rfl, hR, hT⟩
      rw [HX3.out]
      rw [List.drop_drop, show 26 + 14 * j + 8 = 20 + 14 * (j + 1) by omega] at hR
      have hTc := HTb.out.trans hT
      have HRc := Lib.hid hR
      have HROWc := Lib.hid (show RowIn (· = g) wc 90 3 (.slice (some ⟨g, 0, none⟩) a5 a5) a5 (cR a5 bs j) from RowIn.same HROW.out fun k hk hl => hTc.block k hl (by rw [show k = g from hk]; have := HQG.out; omega))
      have HBc := Lib.hid (Tch.fresh hTc HBj.out (fun k hk => by rw [show k = q from hk]; exact HPQ.out.2))
      have HAc := Lib.hid (show Arr wc sv 23 #[.int .i64 a1, .int .i64 a2, .int .i64 group] from (hTc.block sv HAj.out.lt (fun e => HPS.out e.symm)).trans HAj.out)
      clear hR hT hTc HRb HTb HROW HBj HAj HRDj
      go_wp2_with (refine wpList_store_elem rfl 90 _ _ rfl HROWc.out (cR_len a5 bs j) j HLT.out rfl [.int .u32 x1, .int .i64 x2, .int .i64 ct] rfl rfl (by intro u hu; simp only [List.mem_cons, List.not_mem_nil, or_false] at hu; rcases hu with rfl | rfl | rfl <;> rfl) bkg_size ?_; intro w5 hR5 hg5 hs5; have HR5 := Lib.hid hR5; have HG5 := Lib.hid hg5; clear hR5 hg5 hs5)
      go_roundw
      case rel =>
        refine ⟨j + 1, by have := HLT.out; omega, by go_num, ?_, ?_, HBc.out.grown HG5.out HBc.out.size (fun k e => by injection e with e; rw [← e]; exact HWG.out), HAc.out.grownTo HG5.out (fun e => by injection e with e; exact HGS.out e)⟩
        · exact RdAt_stored HRc.out HROWc.out (cR_kind a5 bs j) HG5.out (by have := HQG.out; omega) (by have h9 := HPG.out; omega)
        · rw [cR_succ a5 bs j _ HRAW.out]
          exact HR5.out
      case measure => have := HLT.out; simp [intOf]; omega
    · have hl1 : ¬ (j : Int) < (a5 : Int) := by omega
      have hja : j = a5 := by omega
      have HRW := Lib.hid (show Raws wr (some ⟨g, 0, none⟩) (rawsR a5 (bs.drop 20)) from fun _ => ⟨g, 0, rfl, by obtain ⟨cur, h1, _⟩ := RowIn.cells_at HROW.out; exact (Array.getElem?_eq_some_iff.1 h1).1, fun k hk => by
        rw [HLR.out] at hk
        have h1 := RowIn.range HROW.out (cR_len a5 bs j) hk
        rw [Nat.zero_add]
        unfold cR at h1
        rw [if_pos (by omega)] at h1
        exact h1⟩)
      clear hja
      go_wp2_with (refine wpList_load_blk rfl 23 (.tmp 2) rfl sv 23 _ HAj.out rfl _ Tryz.underlying23 rfl shape_size ?_)
      refine (HOF.out wr a5 HRW.out).mono ?_
      rintro e w5 ⟨hb5, hm5⟩
      have HG := Lib.hid (show GtOut a1 a2 group bs w e w5 from ⟨ext_trans HBj.out hb5, by
        rw [if_neg HH20.out, cntR, HV5.out, if_neg (by have := HLF.out; have := HH20.out; have := HH1.out; omega), if_neg (by have := HLF.out; have := HH20.out; have := HH2.out; omega), if_pos ⟨HV1.out, HV2.out⟩, HV3.out, HV4.out, HC4.out]
        revert hm5
        cases bookOf a1 a2 (a3 : Int) c4 (rawsR a5 (bs.drop 20)) with
        | none => exact fun h => h
        | some L => rintro ⟨b, S, q', he, hbk, hS⟩; exact ⟨b, S, q', he, hbk, fun k hk => by have := hS k hk; have := HBj.out.size; omega⟩⟩)
      obtain ⟨va, vb, hve⟩ : ∃ va vb, e = .returned (.tuple #[va, vb]) := by
        revert hm5
        cases bookOf a1 a2 (a3 : Int) c4 (rawsR a5 (bs.drop 20)) with
        | none => exact fun h => ⟨_, _, h⟩
        | some L => rintro ⟨b, S, q', he, hbk, hS⟩; exact ⟨_, _, he⟩
      subst hve
      clear hm5 hb5
      go_wp2_with fail
      go_ret2
      exact HG.out

end Go.Proofs.YtbnkanehjnepbaaGreatDoor.Im
end

/- Layers 19, 23, 24: small functions: replay.Run without frames; an idle engine, Ready, Generation; built.last. -/
section
set_option linter.unusedVariables false
set_option linter.unusedSimpArgs false
namespace Go.Proofs.YtbnkanehjnepbaaGreatDoor.Eg
open Go.RowKit
open Go.Proofs.YtbnkanehjnepbaaGreatDoor.Bk

set_option maxRecDepth 100000 in
set_option maxHeartbeats 1000000 in
theorem Run_none {S : Nat → Prop} {w : World} {b n codes : Nat} {group next clock : Int} {len : Nat} {q : Parts} (h : Comp S w b n codes group next clock len q) (hn : 1 ≤ n) : Calls Tryz.prog 58 #[.pointer (some ⟨b, 0, none⟩), .slice none 0 0] w fun e w' => e = .returned (.tuple #[.int .i64 0, .int .i64 0]) ∧ Below w.heap.size w w' := by
  have HS := Lib.hid (Shape_in h)
  have hn0 : ((n : Int) == 0) = false := by rw [beq_eq_false_iff_ne]; omega
  have hn1 : ¬ (n : Int) = 0 := by omega
  have hn2 : ¬ n = 0 := by omega
  clear h
  go_enter Tryz.func58, Tryz.ntmps58
  go_wp2_with fail
  refine HS.out.mono ?_
  rintro e w1 ⟨rfl, hb1⟩
  have HB := Lib.hid hb1
  clear hb1 HS
  go_wp2_with fail
  go_loopw [16] (fun i wr => i = .int .i64 0 ∧ wr = w1) (fun i _ => 0)
  case atStart => exact ⟨rfl, rfl⟩
  case round =>
    obtain ⟨rfl, hw⟩ := hrel
    rw [hw]
    go_wp2_with fail
    go_ret2
    exact ⟨rfl, HB.out⟩
/-- an engine's block -/
def EnArr (w : World) (e : Nat) (up : Bool) (lg sl bk : Option Addr) (wt : Value) (mp : Value) : Prop := Arr w e 94 #[.bool true, .bool up, .pointer lg, .pointer sl, .pointer bk, wt, mp]
set_option maxRecDepth 100000 in
set_option maxHeartbeats 1000000 in
theorem Idle_in (w : World) : Calls Tryz.prog 24 #[] w fun e w' => e = .returned (.pointer (some ⟨w.heap.size, 0, none⟩)) ∧ EnArr w' w.heap.size false none none none (.slice none 0 0) (.map none) ∧ Below w.heap.size w w' := by
  go_enter Tryz.func24, Tryz.ntmps24
  go_wp2_with fail
  go_ret
  exact ⟨rfl, Arr.fresh w _ _, ext_alloc (Below.refl _ _) _⟩
set_option maxRecDepth 100000 in
set_option maxHeartbeats 1000000 in
theorem Ready_in {w : World} {e : Nat} {up : Bool} {lg sl bk : Option Addr} {wt mp : Value} (h : EnArr w e up lg sl bk wt mp) : Calls Tryz.prog 7 #[.pointer (some ⟨e, 0, none⟩)] w fun en w' => en = .returned (.bool up) ∧ w' = w := by
  have x1 : w.cell? ⟨e, 1, none⟩ = some (.bool up) := h.cell 1
  clear h
  go_enter Tryz.func7, Tryz.ntmps7
  go_wp2_with fail
  go_ret
  exact ⟨rfl, rfl⟩

end Go.Proofs.YtbnkanehjnepbaaGreatDoor.Eg
end

/- Layer 23: an engine is made. -/
section
set_option linter.unusedVariables false
set_option linter.unusedSimpArgs false
namespace Go.Proofs.YtbnkanehjnepbaaGreatDoor.Eg
open Go.RowKit
open Go.Proofs.YtbnkanehjnepbaaGreatDoor.Bk
open Go.Proofs.YtbnkanehjnepbaaGreatDoor.En (LgLies SlAt Sl Lg Rg LRoom_in LUsed_in SBytes_in)

def lkp : List (Int × Value) → Int → Option Value
  | [], _ => none
  | x :: r, i => if i = x.1 then some x.2 else lkp r i
/-- a map that holds a list's entries -/
def MapL (w : World) (b : Nat) (l : List (Int × Value)) : Prop := MapV Tryz.prog 101 .i64 w b l.length (lkp l)
theorem MapL.put {w' : World} {b : Nat} {l : List (Int × Value)} {i : Int} {v : Value} (hl : lkp l i = none) (h : MapV Tryz.prog 101 .i64 w' b (if (lkp l i).isSome then l.length else l.length + 1) (vput (lkp l) i (some v))) : MapL w' b ((i, v) :: l) := by
  rw [hl] at h
  have e : vput (lkp l) i (some v) = lkp ((i, v) :: l) := funext fun j => rfl
  rw [e] at h
  exact h
/-- one entry of a map's literal -/
theorem wpList_insert {w : World} {ops : Array Oper} {rest : List Oper} {o : Oper} {a : Act} {Q : Exit → Act → World → Prop} (hg : o.guard = none) (m x y : Operand) (hop : o.op = Op.insert 92 m x y)
    (b : Nat) (l : List (Int × Value)) (hm : a.eval m = .map (some b)) (h : MapL w b l) (i : Int) (v : Value) (hx : a.eval x = .int .i64 i) (hy : a.eval y = v) (hi : (Lit.int .i64 i).wf = true) (hn : lkp l i = none) (hlen : l.length < 100)
    (hK : ∀ w', MapL w' b ((i, v) :: l) → w.grownBy w' (some b) → wpList Tryz.prog ops Q rest (a.put o.dst undef) w') : wpList Tryz.prog ops Q (o :: rest) a w := by
  refine wpList_plain hg fun K' hK' => ?_
  obtain ⟨w', hrun, r1, r2⟩ := MapV.put h Tryz.underlying101 Tryz.underlying92 (by unfold maxLen; omega) hi (v := v)
  unfold Oper.wp
  simp [execOp, hop, hm, hx, hy, hrun, Result.andThen]
  exact hK' _ _ (hK w' (MapL.put hn r1) r2)
/-- what an engine does at which kind -/
def doesL (e : Nat) : List (Int × Value) := [(7, .func (.func 79) #[.pointer (some ⟨e, 0, none⟩)] #[]), (4, .func (.func 79) #[.pointer (some ⟨e, 0, none⟩)] #[]), (3, .func (.func 79) #[.pointer (some ⟨e, 0, none⟩)] #[]), (2, .func (.func 79) #[.pointer (some ⟨e, 0, none⟩)] #[]), (1, .func (.func 79) #[.pointer (some ⟨e, 0, none⟩)] #[]), (9, .func (.func 78) #[.pointer (some ⟨e, 0, none⟩)] #[]), (8, .func (.func 77) #[.pointer (some ⟨e, 0, none⟩)] #[]), (10, .func (.func 76) #[.pointer (some ⟨e, 0, none⟩)] #[]), (6, .func (.func 76) #[.pointer (some ⟨e, 0, none⟩)] #[]), (5, .func (.func 76) #[.pointer (some ⟨e, 0, none⟩)] #[])]
def MkOut (q s b : Nat) (w : World) (en : Ending) (w' : World) : Prop := ∃ e mb, en = .returned (.tuple #[.pointer (some ⟨e, 0, none⟩), .int .i64 0]) ∧ EnArr w' e true (some ⟨q, 0, none⟩) (some ⟨s, 0, none⟩) (some ⟨b, 0, none⟩) (.slice none 0 0) (.map (some mb)) ∧ MapL w' mb (doesL e) ∧ w.heap.size ≤ e ∧ w.heap.size ≤ mb ∧ Below w.heap.size w w'
set_option maxRecDepth 100000 in
set_option maxHeartbeats 4000000 in
theorem Make_in {S T : Nat → Prop} {w : World} {q r p s ra rb p2 b n codes : Nat} {l : Lg} {g : Rg} {size : Nat} {v : Value} {sl : Sl} {group next clock : Int} {len : Nat} {qq : Parts} (hl : LgLies S w q r p l g size v) (hs : SlAt w s ra rb p2 sl size) (h : Comp T w b n codes group next clock len qq) (hn : 1 ≤ n ∧ n ≤ 1024) :
    Calls Tryz.prog 29 #[.pointer (some ⟨q, 0, none⟩), .pointer (some ⟨s, 0, none⟩), .pointer (some ⟨b, 0, none⟩)] w (MkOut q s b w) := by
  have hbl := hl.rg.bytes_le
  have hb1 : 1 ≤ g.bytes size := by unfold Rg.bytes; exact Nat.mul_pos hl.rg.count.1 hl.rg.size.1
  have hfit := hl.fit
  have hsb : 1 ≤ sl.bytes size := by
    have h1 := hs.two
    have h2 := hs.a.size
    have h3 : 2 * size ≤ sl.a.count * size := Nat.mul_le_mul_right _ h1
    unfold Sl.bytes Rg.bytes
    omega
  obtain ⟨us, hus⟩ : ∃ x, l.used = x := ⟨_, rfl⟩
  obtain ⟨rm, hrm⟩ : ∃ x, g.bytes size - l.used = x := ⟨_, rfl⟩
  obtain ⟨sb, hsbe⟩ : ∃ x, sl.bytes size = x := ⟨_, rfl⟩
  have HRM := Lib.hid (show ∀ W, Below w.heap.size w W → Calls Tryz.prog 74 #[.pointer (some ⟨q, 0, none⟩)] W (fun e w' => e = .returned (.int .i64 (rm : Nat)) ∧ Below W.heap.size W w') from fun W hW => by
    have h1 := LRoom_in ((show En.LgLies S W q r p l g size v from ⟨hl.own.keep hW, hl.rg.keep hW, own_same hl.row fun k hk => hW.block k (own_lt hl.row hk).1, hl.foot, fun k hk => Nat.lt_of_lt_of_le (hl.lt k hk) hW.size, hl.ok, hl.fit⟩))
    rwa [hrm] at h1)
  have HUS := Lib.hid (show ∀ W, Below w.heap.size w W → Calls Tryz.prog 75 #[.pointer (some ⟨q, 0, none⟩)] W (fun e w' => e = .returned (.int .i64 (us : Nat)) ∧ Below W.heap.size W w') from fun W hW => by
    have h1 := LUsed_in ((show En.LgLies S W q r p l g size v from ⟨hl.own.keep hW, hl.rg.keep hW, own_same hl.row fun k hk => hW.block k (own_lt hl.row hk).1, hl.foot, fun k hk => Nat.lt_of_lt_of_le (hl.lt k hk) hW.size, hl.ok, hl.fit⟩))
    rwa [hus] at h1)
  have HSB := Lib.hid (show ∀ W, Below w.heap.size w W → Calls Tryz.prog 67 #[.pointer (some ⟨s, 0, none⟩)] W (fun e w' => e = .returned (.int .i64 (sb : Nat)) ∧ Below W.heap.size W w') from fun W hW => by
    have h1 := SBytes_in (hs.keep hW)
    rwa [hsbe] at h1)
  have HSH := Lib.hid (show ∀ W, Below w.heap.size w W → Calls Tryz.prog 59 #[.pointer (some ⟨b, 0, none⟩)] W (fun e w' => e = .returned (.agg #[.int .i64 n, .int .i64 codes, .int .i64 group]) ∧ Below W.heap.size W w') from fun W hW => Shape_in (h.below hW))
  have hsum : rm + us = g.bytes size := by omega
  have hz0 : (((rm + us : Nat) : Int) == 0) = false := by rw [beq_eq_false_iff_ne]; omega
  have hz1 : (((rm : Int) + (us : Int)) == 0) = false := by rw [beq_eq_false_iff_ne]; omega
  have hz2 : ((sb : Int) == 0) = false := by rw [beq_eq_false_iff_ne]; omega
  have hz3 : ((n : Int) == 0) = false := by rw [beq_eq_false_iff_ne]; omega
  have hz4 : IntKind.i64.wrap ((rm : Int) + (us : Int)) = (rm : Int) + (us : Int) := by rw [IntKind.wrap_i64]; omega
  have hsm : rm + us ≤ 268435456 := by omega
  have hfld : ∀ W, (Instr.field 23 (.agg #[.int .i64 n, .int .i64 codes, .int .i64 group]) 0).run Tryz.prog W = .ok (.int .i64 n) W := fun W => by kernel_rfl
  have hmm := @run_makeMap Tryz.prog
  clear hl hs h hbl hb1 hfit hsb hus hrm hsbe hsum
  go_enter Tryz.func29, Tryz.ntmps29
  go_wp2_with fail
  refine (HRM.out w (Below.refl _ _)).mono ?_
  rintro e w1 ⟨rfl, hb1⟩
  have HB1 := Lib.hid hb1
  clear hb1
  go_wp2_with fail
  refine (HUS.out w1 HB1.out).mono ?_
  rintro e w2 ⟨rfl, hb2⟩
  have HB2 := Lib.hid (ext_trans HB1.out hb2)
  clear hb2
  go_wp2_with fail
  refine (HSB.out w2 HB2.out).mono ?_
  rintro e w3 ⟨rfl, hb3⟩
  have HB3 := Lib.hid (ext_trans HB2.out hb3)
  clear hb3
  go_wp2_with fail
  refine (HSH.out w3 HB3.out).mono ?_
  rintro e w4 ⟨rfl, hb4⟩
  obtain ⟨eb, heb⟩ : ∃ eb, w4.heap.size = eb := ⟨_, rfl⟩
  obtain ⟨w6, hw6⟩ : ∃ w6, (w4.alloc (.cells #[.bool true, .bool true, .pointer (some ⟨q, 0, none⟩), .pointer (some ⟨s, 0, none⟩), .pointer (some ⟨b, 0, none⟩), .slice none 0 0, .map none] 94)).alloc (.map #[] 0) = w6 := ⟨_, rfl⟩
  have hb6 : Below w.heap.size w w6 := by rw [← hw6]; exact ext_alloc (ext_alloc (ext_trans HB3.out hb4) _) _
  have hm6 : MapL w6 (eb + 1) [] := by
    have h1 := MapV.made Tryz.prog 101 .i64 (w4.alloc (.cells #[.bool true, .bool true, .pointer (some ⟨q, 0, none⟩), .pointer (some ⟨s, 0, none⟩), .pointer (some ⟨b, 0, none⟩), .slice none 0 0, .map none] 94))
    rw [hw6] at h1
    simp only [World.size_alloc] at h1
    rw [heb] at h1
    exact h1
  have ha6 : Arr w6 eb 94 #[.bool true, .bool true, .pointer (some ⟨q, 0, none⟩), .pointer (some ⟨s, 0, none⟩), .pointer (some ⟨b, 0, none⟩), .slice none 0 0, .map none] := by rw [← hw6, ← heb]; exact (Arr.fresh w4 _ _).alloc _
  have HE := Lib.hid (show w.heap.size ≤ eb by have := (ext_trans HB3.out hb4).size; omega)
  have HM := Lib.hid (show MapL w6 (eb + 1) [] ∧ Arr w6 eb 94 #[.bool true, .bool true, .pointer (some ⟨q, 0, none⟩), .pointer (some ⟨s, 0, none⟩), .pointer (some ⟨b, 0, none⟩), .slice none 0 0, .map none] ∧ Below w.heap.size w w6 from ⟨hm6, ha6, hb6⟩)
  have HEB := Lib.hid heb
  clear hb4 hb6 hm6 ha6 HB1 HB2 HB3
  go_wp2_with (refine wpList_insert rfl _ _ _ rfl (eb + 1) _ (by first | rfl | (rw [← HEB.out]; rfl)) HM.out.1 _ _ rfl rfl (by decide) (by rfl) (by simp) ?_; intro wN hm hg; replace HM := Lib.hid (show MapL wN (eb + 1) _ ∧ Arr wN eb 94 #[.bool true, .bool true, .pointer (some ⟨q, 0, none⟩), .pointer (some ⟨s, 0, none⟩), .pointer (some ⟨b, 0, none⟩), .slice none 0 0, .map none] ∧ Below w.heap.size w wN from ⟨hm, HM.out.2.1.grownTo hg (fun e => by injection e with e; omega), HM.out.2.2.grown hg HM.out.2.2.size (fun k e => by injection e with e; have := HE.out; omega)⟩); clear hm hg; have c6 : wN.cell? ⟨eb, 6, none⟩ = some (.map none) := HM.out.2.1.cell 6; have f6 : wN.frozen? ⟨eb, 6, none⟩ = false := HM.out.2.1.mark 6)
  go_ret2
  refine ⟨eb, eb + 1, rfl, ?_, ?_, HE.out, by have := HE.out; omega, HM.out.2.2.setCell (by exact HE.out) _⟩
  · exact HM.out.2.1.put 6 _
  · exact MapV.same HM.out.1 (Below.heap_setCell _ _ _ _ (by show eb + 1 ≠ eb; omega))

end Go.Proofs.YtbnkanehjnepbaaGreatDoor.Eg
end

/- Layer 24: recovery over a device that is not there: layout. -/
section
set_option linter.unusedVariables false
set_option linter.unusedSimpArgs false
namespace Go.Proofs.YtbnkanehjnepbaaGreatDoor.Rc
open Go.RowKit
open Go.Proofs.YtbnkanehjnepbaaGreatDoor.Bk (shape_size)

/-- no device: a nil pointer, or a device without a disk -/
def NoDev (w : World) (pt : Option Addr) : Prop := pt = none ∨ ∃ p, pt = some ⟨p, 0, none⟩ ∧ w.cell? ⟨p, 0, none⟩ = some (.pointer none)
theorem NoDev.keep {w w' : World} {pt : Option Addr} (h : NoDev w pt) (hb : Below w.heap.size w w') : NoDev w' pt := by
  rcases h with rfl | ⟨p, rfl, hc⟩
  · exact .inl rfl
  · exact .inr ⟨p, rfl, (hb.cell (p := ⟨p, 0, none⟩) (World.block_lt_of_cell? w _ hc)).trans hc⟩
set_option maxRecDepth 100000 in
set_option maxHeartbeats 1000000 in
theorem none_yes (pt : Option Addr) (w : World) (h : NoDev w pt) : Calls Tryz.prog 84 #[.pointer pt] w fun e w' => e = .returned (.bool true) ∧ w' = w := by
  rcases h with rfl | ⟨p, rfl, hc⟩
  · go_enter Tryz.func84, Tryz.ntmps84
    go_wp2_with fail
    go_ret
    exact ⟨rfl, rfl⟩
  · go_enter Tryz.func84, Tryz.ntmps84
    go_wp2_with fail
    go_ret
    exact ⟨rfl, rfl⟩
set_option maxRecDepth 100000 in
set_option maxHeartbeats 1000000 in
theorem Sectors_none (pt : Option Addr) (w : World) (h : NoDev w pt) : Calls Tryz.prog 107 #[.pointer pt] w fun e w' => e = .returned (.int .i64 0) ∧ w' = w := by
  have HN := Lib.hid (none_yes pt w h)
  clear h
  go_enter Tryz.func107, Tryz.ntmps107
  go_wp2_with fail
  refine HN.out.mono ?_
  rintro e w1 ⟨rfl, hw⟩
  rw [hw]
  clear hw w1
  go_wp2_with fail
  go_ret
  exact ⟨rfl, rfl⟩
theorem parts_size : (Tryz.prog.info? 68).map (·.size) = some 2 := by kernel_rfl
theorem built_size : (Tryz.prog.info? 70).map (·.size) = some 6 := by kernel_rfl
set_option maxRecDepth 100000 in
set_option maxHeartbeats 2000000 in
theorem layout_none (pt : Option Addr) (a b c : Int) (w : World) (h : NoDev w pt) : Calls Tryz.prog 53 #[.pointer pt, .agg #[.int .i64 a, .int .i64 b, .int .i64 c]] w fun e w' => e = .returned (.tuple #[.agg #[.pointer none, .pointer none], .int .i64 1]) ∧ Below w.heap.size w w' := by
  obtain ⟨ws, hws⟩ : ∃ ws, w.alloc (.cells #[.int .i64 a, .int .i64 b, .int .i64 c] 23) = ws := ⟨_, rfl⟩
  obtain ⟨w1, hw1⟩ : ∃ w1, ws.alloc (.cells #[.pointer none, .pointer none] 68) = w1 := ⟨_, rfl⟩
  have hb1 : Below w.heap.size w w1 := by rw [← hw1, ← hws]; exact ext_alloc (ext_alloc (Below.refl _ _) _) _
  have ha1 : Arr w1 ws.heap.size 68 #[.pointer none, .pointer none] := by rw [← hw1]; exact Arr.fresh ws _ _
  have hsz : w.heap.size ≤ ws.heap.size := by rw [← hws]; simp
  have HS := Lib.hid (Sectors_none pt w1 (h.keep hb1))
  have HA := Lib.hid ha1; have HB := Lib.hid hb1; have HZ := Lib.hid hsz
  clear h hb1 ha1 hsz
  go_enter Tryz.func53, Tryz.ntmps53
  go_wp2_with fail
  refine HS.out.mono ?_
  rintro e w2 ⟨rfl, hw⟩
  rw [hw]
  clear hw w2 hw1 hws
  have HX := Lib.hid HA
  go_wp2_with (first | (refine wpList_load_blk rfl 68 (.tmp 4) rfl ws.heap.size 68 _ HA.out rfl _ Tryz.underlying68 rfl parts_size ?_) | (refine wpList_store_blk rfl 68 (.tmp 4) _ rfl ws.heap.size 68 _ #[.pointer none, .pointer none] HA.out rfl rfl rfl parts_size (by simp [Value.oneCell']) ?_; intro w3 hA3 hg3 hs3; have HA3 := Lib.hid hA3; have HG3 := Lib.hid hg3; clear hA3 hg3 hs3))
  refine bodyPost_ret (results_cell_tmp Tryz.results53 _ (by rfl) (run_load_blk 68 HA3.out _ Tryz.underlying68 rfl parts_size)) rfl ⟨rfl, ext_only HB.out HG3.out (by have := HZ.out; omega)⟩

end Go.Proofs.YtbnkanehjnepbaaGreatDoor.Rc
end

/- Layer 24: recovery over a device that is not there: build, Open, Look. -/
section
set_option linter.unusedVariables false
set_option linter.unusedSimpArgs false
namespace Go.Proofs.YtbnkanehjnepbaaGreatDoor.Rc
open Go.RowKit
open Go.Proofs.YtbnkanehjnepbaaGreatDoor.Bk (shape_size)
open Go.Proofs.YtbnkanehjnepbaaGreatDoor.Eg (EnArr Idle_in)

abbrev built0 : Array Value := #[.pointer none, .pointer none, .int .u64 0, .int .u64 0, .int .i64 0, .pointer none]
abbrev found0 : Array Value := #[.int .u64 0, .int .u64 0, .int .i64 0]
theorem found_size : (Tryz.prog.info? 32).map (·.size) = some 3 := by kernel_rfl
set_option maxRecDepth 100000 in
set_option maxHeartbeats 2000000 in
theorem build_none (pt : Option Addr) (a b c : Int) (w : World) (h : NoDev w pt) : Calls Tryz.prog 23 #[.pointer pt, .agg #[.int .i64 a, .int .i64 b, .int .i64 c]] w fun e w' => e = .returned (.tuple #[.agg built0, .int .i64 1]) ∧ Below w.heap.size w w' := by
  obtain ⟨ws, hws⟩ : ∃ ws, w.alloc (.cells #[.int .i64 a, .int .i64 b, .int .i64 c] 23) = ws := ⟨_, rfl⟩
  obtain ⟨w1, hw1⟩ : ∃ w1, ws.alloc (.cells built0 70) = w1 := ⟨_, rfl⟩
  have hb1 : Below w.heap.size w w1 := by rw [← hw1, ← hws]; exact ext_alloc (ext_alloc (Below.refl _ _) _) _
  have ha1 : Arr w1 ws.heap.size 70 built0 := by rw [← hw1]; exact Arr.fresh ws _ _
  have hs1 : Arr w1 w.heap.size 23 #[.int .i64 a, .int .i64 b, .int .i64 c] := by rw [← hw1, ← hws]; exact (Arr.fresh w _ _).alloc _
  have hsz : w.heap.size ≤ ws.heap.size := by rw [← hws]; simp
  have HL := Lib.hid (layout_none pt a b c w1 (h.keep hb1))
  have HA := Lib.hid ha1; have HB := Lib.hid hb1; have HZ := Lib.hid hsz; have HS := Lib.hid hs1
  clear h hb1 ha1 hsz hs1
  go_enter Tryz.func23, Tryz.ntmps23
  go_wp2_with (refine wpList_load_blk rfl 23 (.tmp 3) rfl w.heap.size 23 _ HS.out rfl _ Tryz.underlying23 rfl shape_size ?_)
  refine HL.out.mono ?_
  rintro e w2 ⟨rfl, hb2⟩
  have HA2 := Lib.hid (HA.out.keep hb2); have HB2 := Lib.hid (ext_trans HB.out hb2)
  clear hb2 hw1 hws HL
  go_wp2_with (first | (refine wpList_store_part rfl 68 _ _ rfl ws.heap.size 0 70 built0 #[.pointer none, .pointer none] HA2.out rfl rfl (by decide) parts_size (by simp [Value.oneCell']) ?_; intro w3 hA3 hg3 hs3; have HA3 := Lib.hid (show Arr w3 ws.heap.size 70 built0 from hA3); have HG3 := Lib.hid hg3; have HS3 := Lib.hid hs3; clear hA3 hg3 hs3) | (refine wpList_load_blk rfl 70 (.tmp 4) rfl ws.heap.size 70 _ HA3.out rfl _ Tryz.underlying70 rfl built_size ?_) | (refine wpList_store_blk rfl 70 (.tmp 4) _ rfl ws.heap.size 70 _ built0 HA3.out rfl rfl rfl built_size (by simp [Value.oneCell']) ?_; intro w4 hA4 hg4 hs4; have HA4 := Lib.hid hA4; have HG4 := Lib.hid hg4; clear hA4 hg4 hs4))
  refine bodyPost_ret (results_cell_tmp Tryz.results23 _ (by rfl) (run_load_blk 70 HA4.out _ Tryz.underlying70 rfl built_size)) rfl ⟨rfl, ext_only (ext_only HB2.out HG3.out (by have := HZ.out; omega)) HG4.out (by have := HZ.out; omega)⟩

end Go.Proofs.YtbnkanehjnepbaaGreatDoor.Rc
end

/- Layer 24: recovery over a device that is not there: Look, Open. -/
section
set_option linter.unusedVariables false
set_option linter.unusedSimpArgs false
namespace Go.Proofs.YtbnkanehjnepbaaGreatDoor.Rc
open Go.RowKit
open Go.Proofs.YtbnkanehjnepbaaGreatDoor.Bk (shape_size)
open Go.Proofs.YtbnkanehjnepbaaGreatDoor.Eg (EnArr Idle_in)

set_option maxRecDepth 100000 in
set_option maxHeartbeats 2000000 in
theorem Look_none (pt : Option Addr) (a b c : Int) (w : World) (h : NoDev w pt) : Calls Tryz.prog 6 #[.pointer pt, .agg #[.int .i64 a, .int .i64 b, .int .i64 c]] w fun e w' => e = .returned (.tuple #[.agg found0, .slice none 0 0, .int .i64 1]) ∧ Below w.heap.size w w' := by
  obtain ⟨ws, hws⟩ : ∃ ws, w.alloc (.cells #[.int .i64 a, .int .i64 b, .int .i64 c] 23) = ws := ⟨_, rfl⟩
  obtain ⟨w1, hw1⟩ : ∃ w1, ws.alloc (.cells found0 32) = w1 := ⟨_, rfl⟩
  have hb1 : Below w.heap.size w w1 := by rw [← hw1, ← hws]; exact ext_alloc (ext_alloc (Below.refl _ _) _) _
  have ha1 : Arr w1 ws.heap.size 32 found0 := by rw [← hw1]; exact Arr.fresh ws _ _
  have hs1 : Arr w1 w.heap.size 23 #[.int .i64 a, .int .i64 b, .int .i64 c] := by rw [← hw1, ← hws]; exact (Arr.fresh w _ _).alloc _
  have hsz : w.heap.size ≤ ws.heap.size := by rw [← hws]; simp
  have HL := Lib.hid (build_none pt a b c w1 (h.keep hb1))
  have HA := Lib.hid ha1; have HB := Lib.hid hb1; have HZ := Lib.hid hsz; have HS := Lib.hid hs1
  clear h hb1 ha1 hsz hs1
  go_enter Tryz.func6, Tryz.ntmps6
  go_wp2_with (refine wpList_load_blk rfl 23 (.tmp 3) rfl w.heap.size 23 _ HS.out rfl _ Tryz.underlying23 rfl shape_size ?_)
  refine HL.out.mono ?_
  rintro e w2 ⟨rfl, hb2⟩
  obtain ⟨w3, hw3⟩ : ∃ w3, w2.alloc (.cells built0 70) = w3 := ⟨_, rfl⟩
  have hb3 : Below w1.heap.size w1 w3 := by rw [← hw3]; exact ext_alloc hb2 _
  have ha3 : Arr w3 w2.heap.size 70 built0 := by rw [← hw3]; exact Arr.fresh w2 _ _
  have HA2 := Lib.hid (HA.out.keep hb3); have HB2 := Lib.hid (ext_trans HB.out hb3); have HC3 := Lib.hid ha3
  have HNE := Lib.hid (show ws.heap.size < w2.heap.size by have := HA.out.lt; have := hb2.size; omega)
  clear hb2 hb3 ha3 hw1 hws HL
  go_wp2_with (first | (refine wpList_store_blk rfl 70 (.tmp 7) _ rfl w2.heap.size 70 _ built0 HC3.out rfl rfl rfl built_size (by simp [Value.oneCell']) ?_; intro w5 hA5 hg5 hs5; have HA5 := Lib.hid (HA2.out.grownTo hg5 (fun e => by injection e with e; have := HNE.out; omega)); have HB5 := Lib.hid (ext_only HB2.out hg5 (by have := HNE.out; have := HZ.out; omega)); clear hA5 hg5 hs5) | (refine wpList_store_blk rfl 32 (.tmp 4) _ rfl ws.heap.size 32 _ found0 HA5.out rfl rfl rfl found_size (by simp [Value.oneCell']) ?_; intro w4 hA4 hg4 hs4; have HA4 := Lib.hid hA4; have HG4 := Lib.hid hg4; clear hA4 hg4 hs4))
  refine bodyPost_ret (En.results_cell_tmp2 Tryz.results6 _ (by rfl) (run_load_blk 32 HA4.out _ Tryz.underlying32 rfl found_size)) rfl ⟨rfl, ext_only HB5.out HG4.out (by have := HZ.out; omega)⟩

end Go.Proofs.YtbnkanehjnepbaaGreatDoor.Rc
end

/- Layer 24: recovery over a device that is not there: Open. -/
section
set_option linter.unusedVariables false
set_option linter.unusedSimpArgs false
namespace Go.Proofs.YtbnkanehjnepbaaGreatDoor.Rc
open Go.RowKit
open Go.Proofs.YtbnkanehjnepbaaGreatDoor.Bk (shape_size)
open Go.Proofs.YtbnkanehjnepbaaGreatDoor.Eg (EnArr Idle_in)

theorem results_tmp_cell_tmp {P : Program} {fn : Func} {p q r : Tmp} {ty : TypeId} (h : fn.results = #[.tmp q, .cell p ty, .tmp r]) (tmps : Array Value) {w : World} {ad : Addr} {v : Value}
    (hp : tmps.getD p undef = .pointer (some ad)) (hl : (loadVar ty ad).run P w = .ok v w) : (results fn tmps).run P w = .ok (.tuple #[tmps.getD q undef, v, tmps.getD r undef]) w := by
  have hp' : tmps[p]?.getD undef = .pointer (some ad) := by simpa using hp
  simp [results, h, hp', asAddr, hl]
def OpNone (w : World) (en : Ending) (w' : World) : Prop := ∃ e, en = .returned (.tuple #[.pointer (some ⟨e, 0, none⟩), .agg found0, .int .i64 1]) ∧ EnArr w' e false none none none (.slice none 0 0) (.map none) ∧ w.heap.size ≤ e ∧ Below w.heap.size w w'
set_option maxRecDepth 100000 in
set_option maxHeartbeats 2000000 in
theorem Open_none (pt : Option Addr) (a b c : Int) (w : World) (h : NoDev w pt) : Calls Tryz.prog 5 #[.pointer pt, .agg #[.int .i64 a, .int .i64 b, .int .i64 c]] w (OpNone w) := by
  obtain ⟨ws, hws⟩ : ∃ ws, w.alloc (.cells #[.int .i64 a, .int .i64 b, .int .i64 c] 23) = ws := ⟨_, rfl⟩
  obtain ⟨w1, hw1⟩ : ∃ w1, ws.alloc (.cells found0 32) = w1 := ⟨_, rfl⟩
  have hb1 : Below w.heap.size w w1 := by rw [← hw1, ← hws]; exact ext_alloc (ext_alloc (Below.refl _ _) _) _
  have ha1 : Arr w1 ws.heap.size 32 found0 := by rw [← hw1]; exact Arr.fresh ws _ _
  have hs1 : Arr w1 w.heap.size 23 #[.int .i64 a, .int .i64 b, .int .i64 c] := by rw [← hw1, ← hws]; exact (Arr.fresh w _ _).alloc _
  have hsz : w.heap.size ≤ ws.heap.size := by rw [← hws]; simp
  have HL := Lib.hid (build_none pt a b c w1 (h.keep hb1))
  have HA := Lib.hid ha1; have HB := Lib.hid hb1; have HZ := Lib.hid hsz; have HS := Lib.hid hs1
  clear h hb1 ha1 hsz hs1
  go_enter Tryz.func5, Tryz.ntmps5
  go_wp2_with (refine wpList_load_blk rfl 23 (.tmp 3) rfl w.heap.size 23 _ HS.out rfl _ Tryz.underlying23 rfl shape_size ?_)
  refine HL.out.mono ?_
  rintro e w2 ⟨rfl, hb2⟩
  obtain ⟨w3, hw3⟩ : ∃ w3, w2.alloc (.cells built0 70) = w3 := ⟨_, rfl⟩
  have hb3 : Below w1.heap.size w1 w3 := by rw [← hw3]; exact ext_alloc hb2 _
  have ha3 : Arr w3 w2.heap.size 70 built0 := by rw [← hw3]; exact Arr.fresh w2 _ _
  have HA2 := Lib.hid (HA.out.keep hb3); have HB2 := Lib.hid (ext_trans HB.out hb3); have HC3 := Lib.hid ha3
  have HNE := Lib.hid (show ws.heap.size < w2.heap.size by have := HA.out.lt; have := hb2.size; omega)
  clear hb2 hb3 ha3 hw1 hws HL
  go_wp2_with (refine wpList_store_blk rfl 70 (.tmp 7) _ rfl w2.heap.size 70 _ built0 HC3.out rfl rfl rfl built_size (by simp [Value.oneCell']) ?_; intro w5 hA5 hg5 hs5; have HA5 := Lib.hid (HA2.out.grownTo hg5 (fun e => by injection e with e; have := HNE.out; omega)); have HB5 := Lib.hid (ext_only HB2.out hg5 (by have := HNE.out; have := HZ.out; omega)); clear hA5 hg5 hs5)
  refine (Idle_in _).mono ?_
  rintro e w6 ⟨rfl, hE, hb6⟩
  have HA6 := Lib.hid (HA5.out.keep hb6); have HB6 := Lib.hid (ext_trans HB5.out hb6); have HE6 := Lib.hid hE
  have HEZ := Lib.hid (show ws.heap.size < w5.heap.size from HA5.out.lt)
  clear hb6 hE
  go_wp2_with (refine wpList_store_blk rfl 32 (.tmp 5) _ rfl ws.heap.size 32 _ found0 HA6.out rfl rfl rfl found_size (by simp [Value.oneCell']) ?_; intro w7 hA7 hg7 hs7; have HA7 := Lib.hid hA7; have HG7 := Lib.hid hg7; clear hA7 hg7 hs7)
  refine bodyPost_ret (results_tmp_cell_tmp Tryz.results5 _ (by rfl) (run_load_blk 32 HA7.out _ Tryz.underlying32 rfl found_size)) rfl ?_
  exact ⟨w5.heap.size, rfl, Arr.grownTo HE6.out HG7.out (fun e => by injection e with e; have := HEZ.out; omega), by have := HZ.out; have := HEZ.out; omega, ext_only HB6.out HG7.out (by have := HZ.out; omega)⟩

end Go.Proofs.YtbnkanehjnepbaaGreatDoor.Rc
end

/- Layers 23, 24: an engine's generation; the last number of what was built. -/
section
set_option linter.unusedVariables false
set_option linter.unusedSimpArgs false
namespace Go.Proofs.YtbnkanehjnepbaaGreatDoor.Rc
open Go.RowKit
open Go.Proofs.YtbnkanehjnepbaaGreatDoor.Eg (EnArr Ready_in)
open Go.Proofs.YtbnkanehjnepbaaGreatDoor.En (LgLies LEpoch_in Lg Rg)

set_option maxRecDepth 100000 in
set_option maxHeartbeats 1000000 in
theorem Generation_in {S : Nat → Prop} {w : World} {e q r p : Nat} {l : Lg} {g : Rg} {size : Nat} {v wt mp : Value} {sl bk : Option Addr} (h : EnArr w e true (some ⟨q, 0, none⟩) sl bk wt mp) (hl : LgLies S w q r p l g size v) : Calls Tryz.prog 33 #[.pointer (some ⟨e, 0, none⟩)] w fun en w' => en = .returned (.int .u64 (l.epoch : Nat)) ∧ w' = w := by
  have HR := Lib.hid (Ready_in h)
  have HE := Lib.hid (LEpoch_in hl)
  have x2 : w.cell? ⟨e, 2, none⟩ = some (.pointer (some ⟨q, 0, none⟩)) := h.cell 2
  clear h hl
  go_enter Tryz.func33, Tryz.ntmps33
  go_wp2_with fail
  refine HR.out.mono ?_
  rintro en w1 ⟨rfl, hw⟩
  rw [hw]
  clear hw w1
  go_wp2_with fail
  refine HE.out.mono ?_
  rintro en w1 ⟨rfl, hw⟩
  rw [hw]
  clear hw w1
  go_wp2_with fail
  go_ret
  exact ⟨rfl, rfl⟩
/-- what was built: its block -/
def BuArr (w : World) (x : Nat) (s r : Option Addr) (gen cov : Nat) (fr : Int) (b : Option Addr) : Prop := Arr w x 70 #[.pointer s, .pointer r, .int .u64 gen, .int .u64 cov, .int .i64 fr, .pointer b]
set_option maxRecDepth 100000 in
set_option maxHeartbeats 1000000 in
theorem last_in {w : World} {x gen cov : Nat} {s r b : Option Addr} {fr : Nat} (h : BuArr w x s r gen cov fr b) (hc : cov + fr < 18446744073709551616) : Calls Tryz.prog 27 #[.pointer (some ⟨x, 0, none⟩)] w fun en w' => en = .returned (.int .u64 (cov + fr : Nat)) ∧ Below w.heap.size w w' := by
  have x3 : w.cell? ⟨x, 3, none⟩ = some (.int .u64 cov) := h.cell 3
  have x4 : w.cell? ⟨x, 4, none⟩ = some (.int .i64 fr) := h.cell 4
  have hw1 : IntKind.u64.wrap (fr : Int) = (fr : Int) := by rw [IntKind.wrap_u64]; omega
  have hw2 : IntKind.u64.wrap ((cov : Int) + (fr : Int)) = ((cov + fr : Nat) : Int) := by rw [IntKind.wrap_u64]; omega
  clear h
  go_enter Tryz.func27, Tryz.ntmps27
  go_wp2_with fail
  go_region
  all_goals (go_wp2_with fail)
  all_goals go_ret
  all_goals exact ⟨by simp, ext_drew (Below.refl _ _)⟩

end Go.Proofs.YtbnkanehjnepbaaGreatDoor.Rc
end

/- Layer 24: recovery: layout over a device. -/
section
set_option linter.unusedVariables false
set_option linter.unusedSimpArgs false
namespace Go.Proofs.YtbnkanehjnepbaaGreatDoor.Rc
open Go.RowKit
open Go.Proofs.YtbnkanehjnepbaaGreatDoor.Bk (shape_size)
open Go.Proofs.YtbnkanehjnepbaaGreatDoor.En (DvIn DvIn_loc Dev Rg Sl RgAt SlAt PSectors_in PSize_in RNew_in SNew_in)

theorem layout_size : (Tryz.prog.info? 112).map (·.size) = some 7 := by kernel_rfl
def LyOut (p k k2 k3 m : Nat) (w : World) (e : Ending) (w' : World) : Prop := ∃ s l ra rb, e = .returned (.tuple #[.agg #[.pointer (some ⟨s, 0, none⟩), .pointer (some ⟨l, 0, none⟩)], .int .i64 0]) ∧ SlAt w' s ra rb p ⟨⟨0, k⟩, ⟨k, k⟩⟩ m ∧ RgAt w' l p ⟨k2, k3⟩ m ∧ w.heap.size ≤ s ∧ w.heap.size ≤ l ∧ w.heap.size ≤ ra ∧ w.heap.size ≤ rb ∧ Below w.heap.size w w'
set_option maxRecDepth 100000 in
set_option maxHeartbeats 4000000 in
theorem layout_in {S : Nat → Prop} {p : Nat} {d : Dev} (a b c n m : Nat) (w : World) (hD : DvIn p d S w) (hn : d.dk.dur.length = n) (hm : d.dk.size = m) (h1 : Geo.okS a b c = true) (h2 : Geo.okD n m = true) (h3 : Geo.need a b m ≤ n) (k k2 k3 : Nat) (hk : Geo.slot a b m = (k : Int)) (hk2 : 2 * k = k2) (hk3 : n - 2 * k = k3) (hk4 : 2 * k + 1 ≤ n) (hk5 : 2 ≤ k) : Calls Tryz.prog 53 #[.pointer (some ⟨p, 0, none⟩), .agg #[.int .i64 a, .int .i64 b, .int .i64 c]] w (LyOut p k k2 k3 m w) := by
  obtain ⟨xb, hxb⟩ : ∃ xb, w.heap.size = xb := ⟨_, rfl⟩
  obtain ⟨ws, hws⟩ : ∃ ws, w.alloc (.cells #[.int .i64 a, .int .i64 b, .int .i64 c] 23) = ws := ⟨_, rfl⟩
  obtain ⟨w1, hw1⟩ : ∃ w1, ws.alloc (.cells #[.pointer none, .pointer none] 68) = w1 := ⟨_, rfl⟩
  have hb1 : Below w.heap.size w w1 := by rw [← hw1, ← hws]; exact ext_alloc (ext_alloc (Below.refl _ _) _) _
  have ha1 : Arr w1 ws.heap.size 68 #[.pointer none, .pointer none] := by rw [← hw1]; exact Arr.fresh ws _ _
  have hs1 : Arr w1 xb 23 #[.int .i64 a, .int .i64 b, .int .i64 c] := by rw [← hw1, ← hws, ← hxb]; exact (Arr.fresh w _ _).alloc _
  have HSX := Lib.hid (show ∀ W, Below w1.heap.size w1 W → W.rangeAt xb 0 [.int .i64 a, .int .i64 b, .int .i64 c] from fun W hW j u hj => by
    rw [Nat.zero_add, (hs1.keep hW).cell j]
    simpa using hj)
  have HSEC := Lib.hid (show ∀ W, Below w1.heap.size w1 W → Calls Tryz.prog 107 #[.pointer (some ⟨p, 0, none⟩)] W (fun e w' => e = .returned (.int .i64 n) ∧ w' = W) from fun W hW => by have := PSectors_in ((DvIn_loc p d).below hD (ext_trans hb1 hW)); rwa [hn] at this)
  have HSIZ := Lib.hid (show ∀ W, Below w1.heap.size w1 W → Calls Tryz.prog 108 #[.pointer (some ⟨p, 0, none⟩)] W (fun e w' => e = .returned (.int .i64 m) ∧ w' = W) from fun W hW => by have := PSize_in ((DvIn_loc p d).below hD (ext_trans hb1 hW)); rwa [hm] at this)
  have HPL := Lib.hid (fun W => by
    have h9 := Geo.Plan_ok n m a b c W h1 h2 h3
    rw [hk, show (2 : Int) * (k : Int) = (k2 : Int) by omega, show (n : Int) - (k2 : Int) = (k3 : Int) by omega] at h9
    exact h9)
  have HRA := Lib.hid (show ∀ W, Below w.heap.size w W → Calls Tryz.prog 109 #[.pointer (some ⟨p, 0, none⟩), .agg #[.int .i64 0, .int .i64 k]] W (En.RnOut p ⟨0, k⟩ m W) from fun W hW => by have := RNew_in (g := ⟨0, k⟩) ((DvIn_loc p d).below hD hW) (by show 1 ≤ k; omega) (by show 0 + k ≤ _; omega); rwa [hm] at this)
  have HRB := Lib.hid (show ∀ W, Below w.heap.size w W → Calls Tryz.prog 109 #[.pointer (some ⟨p, 0, none⟩), .agg #[.int .i64 k, .int .i64 k]] W (En.RnOut p ⟨k, k⟩ m W) from fun W hW => by have := RNew_in (g := ⟨k, k⟩) ((DvIn_loc p d).below hD hW) (by show 1 ≤ k; omega) (by show k + k ≤ _; omega); rwa [hm] at this)
  have HRL := Lib.hid (show ∀ W, Below w.heap.size w W → Calls Tryz.prog 109 #[.pointer (some ⟨p, 0, none⟩), .agg #[.int .i64 k2, .int .i64 k3]] W (En.RnOut p ⟨k2, k3⟩ m W) from fun W hW => by have := RNew_in (g := ⟨k2, k3⟩) ((DvIn_loc p d).below hD hW) (by show 1 ≤ k3; omega) (by show k2 + k3 ≤ _; omega); rwa [hm] at this)
  have HK5 := Lib.hid hk5
  have hszs : w.heap.size ≤ ws.heap.size := by rw [← hws]; simp
  have HZS := Lib.hid hszs
  obtain ⟨h5, h6, h7, h8⟩ := Geo.okD_yes h2
  have hz : ((n : Int) == 0) = false := by rw [beq_eq_false_iff_ne]; omega
  have HXB := Lib.hid hxb; have HA1 := Lib.hid ha1; have HB1 := Lib.hid hb1
  clear hk hk2 hk3 hk4 hk5 hszs hD hn hm h1 h2 h3 h5 h6 h7 h8 ha1 hb1 hs1
  go_enter Tryz.func53, Tryz.ntmps53
  go_upto_region 3 with (first | (refine (HSEC.out _ (Below.refl _ _)).mono ?_; rintro e wq ⟨rfl, hwq⟩; rw [hwq]; clear hwq wq))
  obtain ⟨wd, hwd⟩ : ∃ wd, w1.drew = wd := ⟨_, rfl⟩
  have HB_wd := Lib.hid (show Below w1.heap.size w1 wd by rw [← hwd]; exact ext_drew (Below.refl _ _))
  go_cut [5, 6] from 15 to 24 (fun s5 s6 wc => s5 = .int .i64 0 ∧ (∃ nb, s6 = .pointer (some ⟨nb, 0, none⟩) ∧ Arr wc nb 112 #[.int .i64 m, .int .i64 0, .int .i64 k, .int .i64 k, .int .i64 k, .int .i64 k2, .int .i64 k3]) ∧ Below w1.heap.size w1 wc)
  case first =>
    refine wp_region_held_drew (S := fun w' => w'.rangeAt xb 0 [.int .i64 a, .int .i64 b, .int .i64 c]) (by kernel_rfl) (by rw [hwd]; exact HSX.out _ HB_wd.out) (fun hHeld => ?_)
    rw [hwd] at hHeld ⊢
    refine tky 0 (some 16) hHeld ?_
    refine tky 2 (some 18) hHeld ?_
    try simp only [Act.put, List.setIfInBounds_toArray, List.set_cons_zero, List.set_cons_succ]
    refine tk_load 4 (some 20) hHeld 23 (.tmp 3) xb 0 [.int .i64 a, .int .i64 b, .int .i64 c] _ (fun w' h => h) Tryz.underlying23 rfl shape_size ?_
    try simp only [Act.put, List.setIfInBounds_toArray, List.set_cons_zero, List.set_cons_succ]
    refine wpAnyH_ready (rs := [1, 9]) (by kernel_rfl) (by simp) ?_
    refine AllReadyH.cons rfl (fun K hK => ?_) (AllReadyH.cons rfl (fun K hK => ?_) (AllReadyH.nil))
    · go_simp
      refine (HSEC.out _ HB_wd.out).mono ?_
      rintro e wq ⟨rfl, hwq⟩
      rw [hwq]
      clear hwq wq
      refine hK.out _ _ (by exact HSX.out _ HB_wd.out) (fun hH1 => ?_)
      clear hK K
      try simp only [Act.put, List.setIfInBounds_toArray, List.set_cons_zero, List.set_cons_succ]
      refine wpAnyH_ready (rs := [3, 9]) (by kernel_rfl) (by simp) ?_
      refine AllReadyH.cons rfl (fun K hK => ?_) (AllReadyH.cons rfl (fun K hK => ?_) (AllReadyH.nil))
      · go_simp
        refine (HSIZ.out _ HB_wd.out).mono ?_
        rintro e wq ⟨rfl, hwq⟩
        rw [hwq]
        clear hwq wq
        refine hK.out _ _ (by exact HSX.out _ HB_wd.out) (fun hH2 => ?_)
        clear hK K
        try simp only [Act.put, List.setIfInBounds_toArray, List.set_cons_zero, List.set_cons_succ]
        refine wpAnyH_ready (rs := [5, 9]) (by kernel_rfl) (by simp) ?_
        refine AllReadyH.cons rfl (fun K hK => ?_) (AllReadyH.cons rfl (fun K hK => ?_) (AllReadyH.nil))
        · go_simp
          refine (HPL.out _).mono ?_
          rintro e p3 ⟨rfl, hb⟩
          have HB_p3 := Lib.hid (ext_trans HB_wd.out hb)
          clear hb
          refine hK.out _ _ (by exact HSX.out _ HB_p3.out) (fun hH3 => ?_)
          clear hK K
          try simp only [Act.put, List.setIfInBounds_toArray, List.set_cons_zero, List.set_cons_succ]
          refine tky 6 (some 15) hH3 ?_
          refine tky 7 (some 22) hH3 ?_
          refine tky 8 (some 23) hH3 ?_
          try simp only [Act.put, List.setIfInBounds_toArray, List.set_cons_zero, List.set_cons_succ]
          refine wpAnyH_ready (rs := [9]) (by kernel_rfl) (by simp) ?_
          refine AllReadyH.cons rfl (fun K hK => ?_) (AllReadyH.nil)
          · obtain ⟨a4, ha4⟩ : ∃ x, p3.alloc (.cells #[.int .i64 0, .int .i64 0, .int .i64 0, .int .i64 0, .int .i64 0, .int .i64 0, .int .i64 0] 112) = x := ⟨_, rfl⟩
            obtain ⟨lb, hlb⟩ : ∃ lb, p3.heap.size = lb := ⟨_, rfl⟩
            have HB_a4 := Lib.hid (show Below w1.heap.size w1 a4 by rw [← ha4]; exact ext_alloc HB_p3.out _)
            have HL_a4 := Lib.hid (show Arr a4 lb 112 #[.int .i64 0, .int .i64 0, .int .i64 0, .int .i64 0, .int .i64 0, .int .i64 0, .int .i64 0] by rw [← ha4, ← hlb]; exact Arr.fresh p3 _ _)
            have HLB := Lib.hid (show w1.heap.size ≤ lb by rw [← hlb]; exact HB_p3.out.size)
            go_simp
            go_wp2_with fail
            try rw [ha4]
            try rw [hlb]
            clear ha4 hlb
            refine hK.out _ _ (by exact HSX.out _ HB_a4.out) (fun hH4 => ?_)
            clear hK K
            try simp only [Act.put, List.setIfInBounds_toArray, List.set_cons_zero, List.set_cons_succ]
            refine wpAnyH_ready (rs := [10]) (by kernel_rfl) (by simp) ?_
            refine AllReadyH.cons rfl (fun K hK => ?_) AllReadyH.nil
            refine wp_store_blk 112 (.tmp 6) (.tmp 22) rfl lb 112 _ #[.int .i64 m, .int .i64 0, .int .i64 k, .int .i64 k, .int .i64 k, .int .i64 k2, .int .i64 k3] HL_a4.out rfl rfl rfl layout_size (by simp [Value.oneCell']) ?_
            intro wz hAz hgz hsz
            have HAz := Lib.hid hAz; have HBz := Lib.hid (HB_a4.out.grown hgz HB_a4.out.size (fun k e => by injection e with e; have := HLB.out; omega))
            clear hAz hgz hsz
            refine hK.out _ _ (by exact HSX.out _ HBz.out) (fun hHz => ?_)
            clear hK K
            try simp only [Act.put, List.setIfInBounds_toArray, List.set_cons_zero, List.set_cons_succ]
            refine tky 11 (some 5) hHz ?_
            try simp only [Act.put, List.setIfInBounds_toArray, List.set_cons_zero, List.set_cons_succ]
            refine wpAnyH_done (by kernel_rfl) ?_ _
            go_wp2_with fail
            go_meet
            exact ⟨rfl, ⟨lb, rfl, HAz.out⟩, HBz.out⟩
        · obtain ⟨a5, ha5⟩ : ∃ x, wd.alloc (.cells #[.int .i64 0, .int .i64 0, .int .i64 0, .int .i64 0, .int .i64 0, .int .i64 0, .int .i64 0] 112) = x := ⟨_, rfl⟩
          obtain ⟨lb, hlb⟩ : ∃ lb, wd.heap.size = lb := ⟨_, rfl⟩
          have HB_a5 := Lib.hid (show Below w1.heap.size w1 a5 by rw [← ha5]; exact ext_alloc HB_wd.out _)
          have HL_a5 := Lib.hid (show Arr a5 lb 112 #[.int .i64 0, .int .i64 0, .int .i64 0, .int .i64 0, .int .i64 0, .int .i64 0, .int .i64 0] by rw [← ha5, ← hlb]; exact Arr.fresh wd _ _)
          have HLB := Lib.hid (show w1.heap.size ≤ lb by rw [← hlb]; exact HB_wd.out.size)
          go_simp
          go_wp2_with fail
          try rw [ha5]
          try rw [hlb]
          clear ha5 hlb
          refine hK.out _ _ (by exact HSX.out _ HB_a5.out) (fun hH5 => ?_)
          clear hK K
          try simp only [Act.put, List.setIfInBounds_toArray, List.set_cons_zero, List.set_cons_succ]
          refine wpAnyH_ready (rs := [5]) (by kernel_rfl) (by simp) ?_
          refine AllReadyH.cons rfl (fun K hK => ?_) (AllReadyH.nil)
          · go_simp
            refine (HPL.out _).mono ?_
            rintro e p6 ⟨rfl, hb⟩
            have HB_p6 := Lib.hid (ext_trans HB_a5.out hb)
            have HL_p6 := Lib.hid (HL_a5.out.keep hb)
            clear hb
            refine hK.out _ _ (by exact HSX.out _ HB_p6.out) (fun hH6 => ?_)
            clear hK K
            try simp only [Act.put, List.setIfInBounds_toArray, List.set_cons_zero, List.set_cons_succ]
            refine tky 6 (some 15) hH6 ?_
            refine tky 7 (some 22) hH6 ?_
            refine tky 8 (some 23) hH6 ?_
            try simp only [Act.put, List.setIfInBounds_toArray, List.set_cons_zero, List.set_cons_succ]
            refine wpAnyH_ready (rs := [10]) (by kernel_rfl) (by simp) ?_
            refine AllReadyH.cons rfl (fun K hK => ?_) AllReadyH.nil
            refine wp_store_blk 112 (.tmp 6) (.tmp 22) rfl lb 112 _ #[.int .i64 m, .int .i64 0, .int .i64 k, .int .i64 k, .int .i64 k, .int .i64 k2, .int .i64 k3] HL_p6.out rfl rfl rfl layout_size (by simp [Value.oneCell']) ?_
            intro wz hAz hgz hsz
            have HAz := Lib.hid hAz; have HBz := Lib.hid (HB_p6.out.grown hgz HB_p6.out.size (fun k e => by injection e with e; have := HLB.out; omega))
            clear hAz hgz hsz
            refine hK.out _ _ (by exact HSX.out _ HBz.out) (fun hHz => ?_)
            clear hK K
            try simp only [Act.put, List.setIfInBounds_toArray, List.set_cons_zero, List.set_cons_succ]
            refine tky 11 (some 5) hHz ?_
            try simp only [Act.put, List.setIfInBounds_toArray, List.set_cons_zero, List.set_cons_succ]
            refine wpAnyH_done (by kernel_rfl) ?_ _
            go_wp2_with fail
            go_meet
            exact ⟨rfl, ⟨lb, rfl, HAz.out⟩, HBz.out⟩
      · obtain ⟨a7, ha7⟩ : ∃ x, wd.alloc (.cells #[.int .i64 0, .int .i64 0, .int .i64 0, .int .i64 0, .int .i64 0, .int .i64 0, .int .i64 0] 112) = x := ⟨_, rfl⟩
        obtain ⟨lb, hlb⟩ : ∃ lb, wd.heap.size = lb := ⟨_, rfl⟩
        have HB_a7 := Lib.hid (show Below w1.heap.size w1 a7 by rw [← ha7]; exact ext_alloc HB_wd.out _)
        have HL_a7 := Lib.hid (show Arr a7 lb 112 #[.int .i64 0, .int .i64 0, .int .i64 0, .int .i64 0, .int .i64 0, .int .i64 0, .int .i64 0] by rw [← ha7, ← hlb]; exact Arr.fresh wd _ _)
        have HLB := Lib.hid (show w1.heap.size ≤ lb by rw [← hlb]; exact HB_wd.out.size)
        go_simp
        go_wp2_with fail
        try rw [ha7]
        try rw [hlb]
        clear ha7 hlb
        refine hK.out _ _ (by exact HSX.out _ HB_a7.out) (fun hH7 => ?_)
        clear hK K
        try simp only [Act.put, List.setIfInBounds_toArray, List.set_cons_zero, List.set_cons_succ]
        refine wpAnyH_ready (rs := [3]) (by kernel_rfl) (by simp) ?_
        refine AllReadyH.cons rfl (fun K hK => ?_) (AllReadyH.nil)
        · go_simp
          refine (HSIZ.out _ HB_a7.out).mono ?_
          rintro e wq ⟨rfl, hwq⟩
          rw [hwq]
          clear hwq wq
          refine hK.out _ _ (by exact HSX.out _ HB_a7.out) (fun hH8 => ?_)
          clear hK K
          try simp only [Act.put, List.setIfInBounds_toArray, List.set_cons_zero, List.set_cons_succ]
          refine wpAnyH_ready (rs := [5]) (by kernel_rfl) (by simp) ?_
          refine AllReadyH.cons rfl (fun K hK => ?_) (AllReadyH.nil)
          · go_simp
            refine (HPL.out _).mono ?_
            rintro e p9 ⟨rfl, hb⟩
            have HB_p9 := Lib.hid (ext_trans HB_a7.out hb)
            have HL_p9 := Lib.hid (HL_a7.out.keep hb)
            clear hb
            refine hK.out _ _ (by exact HSX.out _ HB_p9.out) (fun hH9 => ?_)
            clear hK K
            try simp only [Act.put, List.setIfInBounds_toArray, List.set_cons_zero, List.set_cons_succ]
            refine tky 6 (some 15) hH9 ?_
            refine tky 7 (some 22) hH9 ?_
            refine tky 8 (some 23) hH9 ?_
            try simp only [Act.put, List.setIfInBounds_toArray, List.set_cons_zero, List.set_cons_succ]
            refine wpAnyH_ready (rs := [10]) (by kernel_rfl) (by simp) ?_
            refine AllReadyH.cons rfl (fun K hK => ?_) AllReadyH.nil
            refine wp_store_blk 112 (.tmp 6) (.tmp 22) rfl lb 112 _ #[.int .i64 m, .int .i64 0, .int .i64 k, .int .i64 k, .int .i64 k, .int .i64 k2, .int .i64 k3] HL_p9.out rfl rfl rfl layout_size (by simp [Value.oneCell']) ?_
            intro wz hAz hgz hsz
            have HAz := Lib.hid hAz; have HBz := Lib.hid (HB_p9.out.grown hgz HB_p9.out.size (fun k e => by injection e with e; have := HLB.out; omega))
            clear hAz hgz hsz
            refine hK.out _ _ (by exact HSX.out _ HBz.out) (fun hHz => ?_)
            clear hK K
            try simp only [Act.put, List.setIfInBounds_toArray, List.set_cons_zero, List.set_cons_succ]
            refine tky 11 (some 5) hHz ?_
            try simp only [Act.put, List.setIfInBounds_toArray, List.set_cons_zero, List.set_cons_succ]
            refine wpAnyH_done (by kernel_rfl) ?_ _
            go_wp2_with fail
            go_meet
            exact ⟨rfl, ⟨lb, rfl, HAz.out⟩, HBz.out⟩
    · obtain ⟨a10, ha10⟩ : ∃ x, wd.alloc (.cells #[.int .i64 0, .int .i64 0, .int .i64 0, .int .i64 0, .int .i64 0, .int .i64 0, .int .i64 0] 112) = x := ⟨_, rfl⟩
      obtain ⟨lb, hlb⟩ : ∃ lb, wd.heap.size = lb := ⟨_, rfl⟩
      have HB_a10 := Lib.hid (show Below w1.heap.size w1 a10 by rw [← ha10]; exact ext_alloc HB_wd.out _)
      have HL_a10 := Lib.hid (show Arr a10 lb 112 #[.int .i64 0, .int .i64 0, .int .i64 0, .int .i64 0, .int .i64 0, .int .i64 0, .int .i64 0] by rw [← ha10, ← hlb]; exact Arr.fresh wd _ _)
      have HLB := Lib.hid (show w1.heap.size ≤ lb by rw [← hlb]; exact HB_wd.out.size)
      go_simp
      go_wp2_with fail
      try rw [ha10]
      try rw [hlb]
      clear ha10 hlb
      refine hK.out _ _ (by exact HSX.out _ HB_a10.out) (fun hH10 => ?_)
      clear hK K
      try simp only [Act.put, List.setIfInBounds_toArray, List.set_cons_zero, List.set_cons_succ]
      refine wpAnyH_ready (rs := [1]) (by kernel_rfl) (by simp) ?_
      refine AllReadyH.cons rfl (fun K hK => ?_) (AllReadyH.nil)
      · go_simp
        refine (HSEC.out _ HB_a10.out).mono ?_
        rintro e wq ⟨rfl, hwq⟩
        rw [hwq]
        clear hwq wq
        refine hK.out _ _ (by exact HSX.out _ HB_a10.out) (fun hH11 => ?_)
        clear hK K
        try simp only [Act.put, List.setIfInBounds_toArray, List.set_cons_zero, List.set_cons_succ]
        refine wpAnyH_ready (rs := [3]) (by kernel_rfl) (by simp) ?_
        refine AllReadyH.cons rfl (fun K hK => ?_) (AllReadyH.nil)
        · go_simp
          refine (HSIZ.out _ HB_a10.out).mono ?_
          rintro e wq ⟨rfl, hwq⟩
          rw [hwq]
          clear hwq wq
          refine hK.out _ _ (by exact HSX.out _ HB_a10.out) (fun hH12 => ?_)
          clear hK K
          try simp only [Act.put, List.setIfInBounds_toArray, List.set_cons_zero, List.set_cons_succ]
          refine wpAnyH_ready (rs := [5]) (by kernel_rfl) (by simp) ?_
          refine AllReadyH.cons rfl (fun K hK => ?_) (AllReadyH.nil)
          · go_simp
            refine (HPL.out _).mono ?_
            rintro e p13 ⟨rfl, hb⟩
            have HB_p13 := Lib.hid (ext_trans HB_a10.out hb)
            have HL_p13 := Lib.hid (HL_a10.out.keep hb)
            clear hb
            refine hK.out _ _ (by exact HSX.out _ HB_p13.out) (fun hH13 => ?_)
            clear hK K
            try simp only [Act.put, List.setIfInBounds_toArray, List.set_cons_zero, List.set_cons_succ]
            refine tky 6 (some 15) hH13 ?_
            refine tky 7 (some 22) hH13 ?_
            refine tky 8 (some 23) hH13 ?_
            try simp only [Act.put, List.setIfInBounds_toArray, List.set_cons_zero, List.set_cons_succ]
            refine wpAnyH_ready (rs := [10]) (by kernel_rfl) (by simp) ?_
            refine AllReadyH.cons rfl (fun K hK => ?_) AllReadyH.nil
            refine wp_store_blk 112 (.tmp 6) (.tmp 22) rfl lb 112 _ #[.int .i64 m, .int .i64 0, .int .i64 k, .int .i64 k, .int .i64 k, .int .i64 k2, .int .i64 k3] HL_p13.out rfl rfl rfl layout_size (by simp [Value.oneCell']) ?_
            intro wz hAz hgz hsz
            have HAz := Lib.hid hAz; have HBz := Lib.hid (HB_p13.out.grown hgz HB_p13.out.size (fun k e => by injection e with e; have := HLB.out; omega))
            clear hAz hgz hsz
            refine hK.out _ _ (by exact HSX.out _ HBz.out) (fun hHz => ?_)
            clear hK K
            try simp only [Act.put, List.setIfInBounds_toArray, List.set_cons_zero, List.set_cons_succ]
            refine tky 11 (some 5) hHz ?_
            try simp only [Act.put, List.setIfInBounds_toArray, List.set_cons_zero, List.set_cons_succ]
            refine wpAnyH_done (by kernel_rfl) ?_ _
            go_wp2_with fail
            go_meet
            exact ⟨rfl, ⟨lb, rfl, HAz.out⟩, HBz.out⟩
  case rest =>
    obtain ⟨rfl, ⟨nb, rfl, hL⟩, hB⟩ := hcut
    have HP := Lib.hid (HA1.out.keep hB); have HL := Lib.hid hL; have HBc := Lib.hid (ext_trans HB1.out hB)
    have y1 : wc.cell? ⟨nb, 1, none⟩ = some (.int .i64 0) := hL.cell 1
    have y2 : wc.cell? ⟨nb, 2, none⟩ = some (.int .i64 k) := hL.cell 2
    clear hL hB
    go_wp2_with fail
    refine (HRA.out _ HBc.out).mono ?_
    rintro e wa ⟨ra, rfl, hra, hRa, hba⟩
    have HP2 := Lib.hid (HP.out.keep hba); have HL2 := Lib.hid (HL.out.keep hba); have HB2 := Lib.hid (ext_trans HBc.out hba); have HRa := Lib.hid hRa; have HZa := Lib.hid (show w.heap.size ≤ ra by have := HBc.out.size; omega)
    have y3 : wa.cell? ⟨nb, 3, none⟩ = some (.int .i64 k) := HL2.out.cell 3
    have y4 : wa.cell? ⟨nb, 4, none⟩ = some (.int .i64 k) := HL2.out.cell 4
    clear y1 y2 hba hRa hra
    go_wp2_with fail
    refine (HRB.out _ HB2.out).mono ?_
    rintro e wb ⟨rb, rfl, hrb, hRb, hbb⟩
    have HP3 := Lib.hid (HP2.out.keep hbb); have HL3 := Lib.hid (HL2.out.keep hbb); have HB3 := Lib.hid (ext_trans HB2.out hbb); have HRa3 := Lib.hid (HRa.out.keep hbb); have HRb := Lib.hid hRb; have HZb := Lib.hid (show w.heap.size ≤ rb by have := HB2.out.size; omega)
    have y5 : wb.cell? ⟨nb, 5, none⟩ = some (.int .i64 k2) := HL3.out.cell 5
    have y6 : wb.cell? ⟨nb, 6, none⟩ = some (.int .i64 k3) := HL3.out.cell 6
    clear y3 y4 hbb hRb hrb
    go_wp2_with fail
    refine (HRL.out _ HB3.out).mono ?_
    rintro e wl ⟨rl, rfl, hrl, hRl, hbl⟩
    have HP4 := Lib.hid (HP3.out.keep hbl); have HB4 := Lib.hid (ext_trans HB3.out hbl); have HRa4 := Lib.hid (HRa3.out.keep hbl); have HRb4 := Lib.hid (HRb.out.keep hbl); have HRl := Lib.hid hRl; have HZl := Lib.hid (show w.heap.size ≤ rl by have := HB3.out.size; omega)
    have c1 : wl.cell? ⟨ws.heap.size, 1, none⟩ = some (.pointer none) := HP4.out.cell 1
    have f1 := HP4.out.mark 1
    clear y5 y6 hbl hRl hrl
    have hP5 : Arr (wl.setCell ⟨ws.heap.size, 1, none⟩ (.pointer (some ⟨rl, 0, none⟩))) ws.heap.size 68 #[.pointer none, .pointer (some ⟨rl, 0, none⟩)] := HP4.out.put 1 _
    have hB5 : Below w.heap.size w (wl.setCell ⟨ws.heap.size, 1, none⟩ (.pointer (some ⟨rl, 0, none⟩))) := HB4.out.setCell (by exact HZS.out) _
    have hrg : ∀ (x : Nat) (g : Rg), RgAt wl x p g m → RgAt (wl.setCell ⟨ws.heap.size, 1, none⟩ (.pointer (some ⟨rl, 0, none⟩))) x p g m := fun x g h => ⟨h.own.other (p := ⟨ws.heap.size, 1, none⟩) (arr_ne h.own HP4.out (by decide)) _, h.size, h.count⟩
    have HSN := Lib.hid (SNew_in (sl := ⟨⟨0, k⟩, ⟨k, k⟩⟩) (hrg ra _ HRa4.out) (hrg rb _ HRb4.out) rfl HK5.out)
    have HP5 := Lib.hid hP5; have HB5 := Lib.hid hB5; have HRl5 := Lib.hid (hrg rl _ HRl.out)
    clear hP5 hB5 hrg
    go_wp2_with fail
    refine HSN.out.mono ?_
    rintro e w6 ⟨s, rfl, hs, hSl, hb6⟩
    have hP6 := HP5.out.keep hb6
    have HP6 := Lib.hid hP6; have HB6 := Lib.hid (ext_trans HB5.out hb6); have HSl := Lib.hid hSl; have HRl6 := Lib.hid (HRl5.out.keep hb6); have HZs := Lib.hid (show w.heap.size ≤ s by have := HB5.out.size; omega)
    have c0 : w6.cell? ⟨ws.heap.size, 0, none⟩ = some (.pointer none) := hP6.cell 0
    have f0 := hP6.mark 0
    have HP7 := Lib.hid (show Arr (w6.setCell ⟨ws.heap.size, 0, none⟩ (.pointer (some ⟨s, 0, none⟩))) ws.heap.size 68 #[.pointer (some ⟨s, 0, none⟩), .pointer (some ⟨rl, 0, none⟩)] from hP6.put 0 _)
    have HB7 := Lib.hid (show Below w.heap.size w (w6.setCell ⟨ws.heap.size, 0, none⟩ (.pointer (some ⟨s, 0, none⟩))) from HB6.out.setCell (by exact HZS.out) _)
    clear hb6 hSl hP6 hs c1 f1
    go_wp2_with (first | (refine wpList_load_blk rfl 68 (.tmp 4) rfl ws.heap.size 68 _ HP7.out rfl _ Tryz.underlying68 rfl parts_size ?_) | (refine wpList_store_blk rfl 68 (.tmp 4) _ rfl ws.heap.size 68 _ #[.pointer (some ⟨s, 0, none⟩), .pointer (some ⟨rl, 0, none⟩)] HP7.out rfl rfl rfl parts_size (by simp [Value.oneCell']) ?_; intro w8 hA8 hg8 hs8; have HA8 := Lib.hid hA8; have HG8 := Lib.hid hg8; clear hA8 hg8 hs8))
    have ht : Tch (· = ws.heap.size) w6 w8 := (Tch.at w6 ws.heap.size 0 (.pointer (some ⟨s, 0, none⟩))).grown HG8.out (fun k e => by injection e with e; exact .inl e.symm)
    have hSl8 := HSl.out.tch ht (arr_ne HSl.out.own HP6.out (by decide)) (arr_ne HSl.out.a.own HP6.out (by decide)) (arr_ne HSl.out.b.own HP6.out (by decide))
    have hRl8 := HRl6.out.tch ht (arr_ne HRl6.out.own HP6.out (by decide))
    have hB8 := HB7.out.grown HG8.out HB7.out.size (fun k e => by injection e with e; have := HZS.out; omega)
    refine bodyPost_ret (results_cell_tmp Tryz.results53 _ (by rfl) (run_load_blk 68 HA8.out _ Tryz.underlying68 rfl parts_size)) rfl ?_
    exact ⟨s, rl, ra, rb, rfl, hSl8, hRl8, HZs.out, HZl.out, HZa.out, HZb.out, hB8⟩

end Go.Proofs.YtbnkanehjnepbaaGreatDoor.Rc
end

/- Layer 24: recovery: what lies on a device, put together. -/
section
set_option linter.unusedVariables false
set_option linter.unusedSimpArgs false
namespace Go.Proofs.YtbnkanehjnepbaaGreatDoor.Rc
open Go.RowKit
open Go.Proofs.YtbnkanehjnepbaaGreatDoor.Bk (shape_size BookAt Bkg Parts New_yes NewOut bookOf)
open Go.Proofs.YtbnkanehjnepbaaGreatDoor.En (By DvIn DvIn_loc Dev Rg Sl Hd Ld hdV hdV_one hd_size LdOut SLoad_in WsOut WScan_none RgAt SlAt scan)
open Go.Proofs.YtbnkanehjnepbaaGreatDoor.Oc (val Bs okA okA_some okA_none)
open Go.Proofs.YtbnkanehjnepbaaGreatDoor.Cr (CrcTab)
open Go.Proofs.YtbnkanehjnepbaaGreatDoor.Im (cntR rawsR GtOut Get_in)

abbrev buC (s l : Nat) (gen cov : Nat) (b : Option Addr) : Array Value := #[.pointer (some ⟨s, 0, none⟩), .pointer (some ⟨l, 0, none⟩), .int .u64 gen, .int .u64 cov, .int .i64 0, .pointer b]
/-- a build's world: its variables, the device, the slots, the log -/
structure BdI (S : Nat → Prop) (w : World) (xs p k k2 k3 m s l ra rb : Nat) (cs : Array Value) (D : Dev) (W : World) : Prop where
  bu : Arr W xs 70 cs
  dv : DvIn p D S W
  tc : Tch S w W
  sl : SlAt W s ra rb p ⟨⟨0, k⟩, ⟨k, k⟩⟩ m
  rg : RgAt W l p ⟨k2, k3⟩ m
  lo : w.heap.size ≤ xs ∧ w.heap.size ≤ s ∧ w.heap.size ≤ l ∧ w.heap.size ≤ ra ∧ w.heap.size ≤ rb
  ne : s ≠ xs ∧ l ≠ xs ∧ ra ≠ xs ∧ rb ≠ xs
variable {S : Nat → Prop} {w W W' : World} {xs p k k2 k3 m s l ra rb : Nat} {cs cs' : Array Value} {D D' : Dev}
theorem BdI.below (h : BdI S w xs p k k2 k3 m s l ra rb cs D W) (hb : Below W.heap.size W W') : BdI S w xs p k k2 k3 m s l ra rb cs D W' :=
  ⟨h.bu.keep hb, (DvIn_loc p D).below h.dv hb, h.tc.below hb, h.sl.keep hb, h.rg.keep hb, h.lo, h.ne⟩
theorem BdI.dev (h : BdI S w xs p k k2 k3 m s l ra rb cs D W) (hS : ∀ k, S k → k < w.heap.size) (hD : DvIn p D' S W') (ht : Tch S W W') : BdI S w xs p k k2 k3 m s l ra rb cs D' W' := by
  obtain ⟨h0, h1, h2, h3, h4⟩ := h.lo
  have hn : ∀ x, w.heap.size ≤ x → ¬ S x := fun x hx hs => by have := hS _ hs; omega
  exact ⟨ht.arr h.bu (hn _ h0), hD, h.tc.trans ht, h.sl.tch ht (hn _ h1) (hn _ h3) (hn _ h4), h.rg.tch ht (hn _ h2), h.lo, h.ne⟩
theorem BdI.put (h : BdI S w xs p k k2 k3 m s l ra rb cs D W) (hS : ∀ k, S k → k < w.heap.size) (hA : Arr W' xs 70 cs') (ht : Tch (· = xs) W W') : BdI S w xs p k k2 k3 m s l ra rb cs' D W' := by
  obtain ⟨h0, h1, h2, h3, h4⟩ := h.lo
  obtain ⟨n1, n2, n3, n4⟩ := h.ne
  exact ⟨hA, (DvIn_loc p D).tch h.dv ht (fun k hk e => by have := hS _ hk; omega), h.tc.new (ht.mono fun k _ e => .inr (by omega)), h.sl.tch ht n1 n3 n4, h.rg.tch ht n2, h.lo, h.ne⟩
theorem Tch.one {x : Nat} (hg : W.grownBy W' (some x)) : Tch (· = x) W W' := (Tch.refl (· = x) W).grown hg (fun k e => by injection e with e; exact .inl e.symm)
theorem BookAt.same {B : Nat → Prop} {w w' : World} {b n codes : Nat} {group next clock : Int} {L : List Bkg} {q : Parts} (h : BookAt B w b n codes group next clock L q) (hz : w.heap.size ≤ w'.heap.size) (hk : ∀ k, B k → k < w.heap.size → w'.heap[k]? = w.heap[k]?) : BookAt B w' b n codes group next clock L q :=
  ⟨h.comp.same hz hk, h.bits, h.lies, h.under, h.listed, h.small⟩
theorem BookAt.apart {B T : Nat → Prop} {w w' : World} {b n codes : Nat} {group next clock : Int} {L : List Bkg} {q : Parts} (h : BookAt B w b n codes group next clock L q) (ht : Tch T w w') (hd : ∀ k, B k → ¬ T k) : BookAt B w' b n codes group next clock L q :=
  BookAt.same h ht.size fun k hk hl => ht.block k hl (hd k hk)
theorem found_part : (Tryz.prog.info? 32).map (·.size) = some 3 := by kernel_rfl
def BdOut (S : Nat → Prop) (p k k2 k3 m n codes : Nat) (group : Int) (gen cov nx : Nat) (ck : Int) (L : List Bkg) (D : Dev) (w : World) (e : Ending) (w' : World) : Prop :=
  ∃ s l ra rb b B q, e = .returned (.tuple #[.agg (buC s l gen cov (some ⟨b, 0, none⟩)), .int .i64 0]) ∧ SlAt w' s ra rb p ⟨⟨0, k⟩, ⟨k, k⟩⟩ m ∧ RgAt w' l p ⟨k2, k3⟩ m ∧ BookAt B w' b n codes group nx ck L q ∧ DvIn p D S w' ∧ Tch S w w' ∧ w.heap.size ≤ s ∧ w.heap.size ≤ l ∧ w.heap.size ≤ ra ∧ w.heap.size ≤ rb ∧ ∀ k, B k → w.heap.size ≤ k
/-- what lies on the device says a book: none is saved, or one that may be -/
def Says (n codes : Nat) (group : Int) (at_ : Int) (body : By) (nx : Nat) (ck : Int) (L : List Bkg) : Prop :=
  (at_ < 0 ∧ nx = 1 ∧ ck = 0 ∧ L = []) ∨ (0 ≤ at_ ∧ body.length ≤ 67108864 ∧ body.length = 20 + cntR body * 14 ∧ val (body.take 2) = n ∧ val ((body.drop 2).take 4) = codes ∧ val ((body.drop 6).take 4) = nx ∧ IntKind.i64.wrap (val ((body.drop 10).take 8)) = ck ∧ bookOf n codes nx ck (rawsR (cntR body) (body.drop 20)) = some L)
set_option maxRecDepth 100000 in
set_option maxHeartbeats 8000000 in
theorem build_ok {d d1 d2 : Dev} (n codes : Nat) (group : Nat) (sn : Nat) (w : World) (hD : DvIn p d S w) (ht : CrcTab w) (htS : ¬ S 1) (hn : d.dk.dur.length = sn) (hm : d.dk.size = m) (h1 : Geo.okS n codes group = true) (h2 : Geo.okD sn m = true) (h3 : Geo.need n codes m ≤ sn) (hk : Geo.slot n codes m = (k : Int)) (hk2 : 2 * k = k2) (hk3 : sn - 2 * k = k3) (hk4 : 2 * k + 1 ≤ sn) (hk5 : 2 ≤ k)
    (hd : Hd) (body : By) (at_ : Int) (nx : Nat) (ck : Int) (L : List Bkg) (hL : Sl.load ⟨⟨0, k⟩, ⟨k, k⟩⟩ d = ⟨0, hd, body, at_, d1⟩) (hd1 : d1.dk.size = m) (hcov : hd.cov < 18446744073709551616) (hG : Says n codes group at_ body nx ck L)
    (bs : By) (hR : (⟨k2, k3⟩ : Rg).read d1 (0 : Nat) ((⟨k2, k3⟩ : Rg).bytes d1.dk.size : Nat) = (0, bs, d2)) (hbs : bs ≠ [] ∧ scan bs hd.gen hd.cov = []) :
    Calls Tryz.prog 23 #[.pointer (some ⟨p, 0, none⟩), .agg #[.int .i64 n, .int .i64 codes, .int .i64 group]] w (BdOut S p k k2 k3 m n codes group hd.gen hd.cov nx ck L d2 w) := by
  have hS := (DvIn_loc p d).lt hD
  have hnn : 1 ≤ n := by have := Geo.okS_yes h1; omega
  obtain ⟨xb, hxb⟩ : ∃ xb, w.heap.size = xb := ⟨_, rfl⟩
  obtain ⟨ws, hws⟩ : ∃ ws, w.alloc (.cells #[.int .i64 n, .int .i64 codes, .int .i64 group] 23) = ws := ⟨_, rfl⟩
  obtain ⟨xs, hxs⟩ : ∃ xs, ws.heap.size = xs := ⟨_, rfl⟩
  obtain ⟨w1, hw1⟩ : ∃ w1, ws.alloc (.cells built0 70) = w1 := ⟨_, rfl⟩
  have hb1 : Below w.heap.size w w1 := by rw [← hw1, ← hws]; exact ext_alloc (ext_alloc (Below.refl _ _) _) _
  have ha1 : Arr w1 xs 70 built0 := by rw [← hw1, ← hxs]; exact Arr.fresh ws _ _
  have hs1 : Arr w1 xb 23 #[.int .i64 n, .int .i64 codes, .int .i64 group] := by rw [← hw1, ← hws, ← hxb]; exact (Arr.fresh w _ _).alloc _
  have hxx : xb < xs ∧ w.heap.size ≤ xs := by rw [← hxs, ← hws, ← hxb]; simp
  have HL := Lib.hid (layout_in (S := S) n codes group sn m w1 ((DvIn_loc p d).below hD hb1) hn hm h1 h2 h3 k k2 k3 hk hk2 hk3 hk4 hk5)
  have HXB := Lib.hid hxb; have HXX := Lib.hid hxx; have HA1 := Lib.hid ha1; have HS1 := Lib.hid hs1; have HB1 := Lib.hid hb1
  have HS := Lib.hid hS
  have HNEW := Lib.hid (fun W => New_yes n codes group W h1)
  have HT := Lib.hid (show ∀ W, Tch S w W → CrcTab W from fun W hW => ht.tch hW htS)
  have HD1 := Lib.hid (show DvIn p d S w1 from (DvIn_loc p d).below hD hb1)
  have HTS := Lib.hid htS; have HMM := Lib.hid hm; have HLL := Lib.hid hL; have HG := Lib.hid hG; have HRR := Lib.hid hR; have HBS := Lib.hid hbs; have HCV := Lib.hid hcov; have HNN := Lib.hid hnn; have HDM := Lib.hid hd1; have HSH := Lib.hid h1
  clear hD ht htS hn hm h1 h2 h3 hk hk2 hk3 hk4 hk5 hL hcov hG hR hbs hS hxx ha1 hs1 hb1 hnn hd1
  go_enter Tryz.func23, Tryz.ntmps23
  go_wp2_with (refine wpList_load_blk rfl 23 (.tmp 3) rfl xb 23 _ HS1.out rfl _ Tryz.underlying23 rfl shape_size ?_)
  refine HL.out.mono ?_
  rintro e w2 ⟨s, l, ra, rb, rfl, hSl, hRl, hzs, hzl, hza, hzb, hb2⟩
  have h2 : BdI S w xs p k k2 k3 m s l ra rb built0 d w2 := by
    have h3 := HXX.out; have h4 := HB1.out.size; have h5 := HA1.out.lt
    exact ⟨HA1.out.keep hb2, (DvIn_loc p d).below HD1.out hb2, Tch.of_below (ext_trans HB1.out hb2), hSl, hRl, ⟨h3.2, by omega, by omega, by omega, by omega⟩, ⟨by omega, by omega, by omega, by omega⟩⟩
  have HA2 := Lib.hid h2.bu; have H2 := Lib.hid h2; have HS2 := Lib.hid (HS1.out.keep hb2)
  clear hSl hRl hzs hzl hza hzb hb2 h2 HA1 HD1 HL HS1
  go_wp2_with (refine wpList_store_part rfl 68 _ _ rfl xs 0 70 built0 #[.pointer (some ⟨s, 0, none⟩), .pointer (some ⟨l, 0, none⟩)] HA2.out rfl rfl (Nat.le_of_ble_eq_true rfl) parts_size (by simp [Value.oneCell']) ?_; intro w3 hA3 hg3 hs3; have H3 := Lib.hid (H2.out.put HS.out (cs' := buC s l 0 0 none) hA3 (Tch.one hg3)); have HS3 := Lib.hid (HS2.out.grown hg3 (by have := HXX.out; omega)); have c0 := H3.out.bu.cell 0; clear hA3 hg3 hs3)
  have HNS := Lib.hid (show ∀ x, w.heap.size ≤ x → ¬ S x from fun x hx hs => by have := HS.out _ hs; omega)
  refine (SLoad_in (sl := ⟨⟨0, k⟩, ⟨k, k⟩⟩) (d := d) (by rw [HMM.out]; exact H3.out.sl) H3.out.dv (HNS.out _ H3.out.lo.2.1) (HNS.out _ H3.out.lo.2.2.2.1) (HNS.out _ H3.out.lo.2.2.2.2) (HT.out _ H3.out.tc) HTS.out).mono ?_
  rw [HLL.out]
  rintro e w4 ⟨⟨A, c, rfl, hA, hc⟩, hD4, ht4⟩
  have H4 := Lib.hid (H3.out.dev HS.out hD4 ht4)
  have HS4 := Lib.hid (ht4.arr HS3.out (HNS.out _ (by have := HXB.out; omega)))
  have HBY := Lib.hid hA; have HCC := Lib.hid hc
  clear hA hc hD4 ht4 c0 HS3 H3
  obtain ⟨xh, hxh⟩ : ∃ xh, w4.heap.size = xh := ⟨_, rfl⟩
  obtain ⟨wf, hwf⟩ : ∃ wf, w4.alloc (.cells #[.int .u64 0, .int .u64 0, .int .i64 0, .int .u32 0] 77) = wf := ⟨_, rfl⟩
  have HFR := Lib.hid (show Arr wf xh 77 #[.int .u64 0, .int .u64 0, .int .i64 0, .int .u32 0] by rw [← hwf, ← hxh]; exact Arr.fresh w4 _ _)
  have HBF := Lib.hid (show Below w4.heap.size w4 wf by rw [← hwf]; exact ext_alloc (Below.refl _ _) _)
  have HXH := Lib.hid hxh
  obtain hx | hx := HG.out
  · obtain ⟨hlt, rfl, rfl, rfl⟩ := hx
    go_wp2_with (first | (refine wpList_load_blk rfl 23 (.tmp 3) rfl xb 23 _ HS5.out rfl _ Tryz.underlying23 rfl shape_size ?_) | (refine wpList_store_blk rfl 77 _ _ rfl xh 77 _ (hdV hd) HFR.out rfl rfl rfl hd_size (hdV_one hd) ?_; intro w5 hA5 hg5 hs5; have HB5 := Lib.hid (show Below w4.heap.size w4 w5 from ext_only HBF.out hg5 (Nat.le_of_eq HXH.out)); have H5 := Lib.hid (H4.out.below HB5.out); have HX5 := Lib.hid hA5; have HS5 := Lib.hid (HS4.out.keep HB5.out); clear hA5 hg5 hs5))
    refine (HNEW.out _).mono ?_
    rintro e w6 ⟨b, B, q, rfl, hBk, hB6, hb6⟩
    have H6 := Lib.hid (H5.out.below hb6); have HX6 := Lib.hid (HX5.out.keep hb6); have HK6 := Lib.hid hBk
    have HBO := Lib.hid (show ∀ k, B k → w5.heap.size ≤ k from hB6)
    clear hBk hB6 hb6 hlt
    have HX5L := Lib.hid (show xh < w5.heap.size ∧ xs < xh ∧ w.heap.size ≤ xh from ⟨HX5.out.lt, by have := H4.out.bu.lt; have := HXH.out; omega, by have := H4.out.tc.size; have := HXH.out; omega⟩)
    have c5 := H6.out.bu.cell 5
    have f5 := H6.out.bu.mark 5
    have H7 := Lib.hid (H6.out.put HS.out (cs' := buC s l 0 0 (some ⟨b, 0, none⟩)) (H6.out.bu.put 5 (.pointer (some ⟨b, 0, none⟩))) (Tch.at w6 xs 5 (.pointer (some ⟨b, 0, none⟩))))
    have HX7 := Lib.hid (show Arr (w6.setCell ⟨xs, 5, none⟩ (.pointer (some ⟨b, 0, none⟩))) xh 77 (hdV hd) from HX6.out.other (p := ⟨xs, 5, none⟩) (by have := HX5L.out; show xh ≠ xs; omega) _)
    have HK7 := Lib.hid (BookAt.apart HK6.out (Tch.at w6 xs 5 (.pointer (some ⟨b, 0, none⟩))) (fun k hk e => by have := HBO.out _ hk; have := HX5L.out; omega))
    have c1 := H7.out.bu.cell 1
    have x0 : (w6.setCell ⟨xs, 5, none⟩ (.pointer (some ⟨b, 0, none⟩))).cell? ⟨xh, 0, none⟩ = some (.int .u64 (hd.gen : Nat)) := HX7.out.cell 0
    have x1 : (w6.setCell ⟨xs, 5, none⟩ (.pointer (some ⟨b, 0, none⟩))).cell? ⟨xh, 1, none⟩ = some (.int .u64 (hd.cov : Nat)) := HX7.out.cell 1
    clear H6 HX6 HK6
    go_wp2_with fail
    refine (WScan_none (g := ⟨k2, k3⟩) (d := d1) (by rw [HDM.out]; exact H7.out.rg) H7.out.dv (HNS.out _ H7.out.lo.2.2.1) (HT.out _ H7.out.tc) HTS.out hd.gen hd.cov HCV.out (by rw [HRR.out]; exact fun _ => HBS.out)).mono ?_
    rw [HRR.out]
    rintro e w8 ⟨rfl, hD8, ht8⟩
    have H8 := Lib.hid (H7.out.dev HS.out hD8 ht8); have HX8 := Lib.hid (ht8.arr HX7.out (HNS.out _ HX5L.out.2.2)); have HK8 := Lib.hid (BookAt.apart HK7.out ht8 (fun k hk => HNS.out _ (by have := HBO.out _ hk; have := HX5L.out; omega)))
    clear hD8 ht8 c1 x0 x1 c5 f5 H7 HX7 HK7
    have c5 := H8.out.bu.cell 5
    go_wp2_with fail
    refine (Eg.Run_none HK8.out.comp HNN.out).mono ?_
    rintro e w9 ⟨rfl, hb9⟩
    have H9 := Lib.hid (H8.out.below hb9); have HX9 := Lib.hid (HX8.out.keep hb9); have HK9 := Lib.hid (HK8.out.below hb9)
    clear hb9 c5 H8 HX8 HK8
    have x0 : w9.cell? ⟨xh, 0, none⟩ = some (.int .u64 (hd.gen : Nat)) := HX9.out.cell 0
    have x1 : w9.cell? ⟨xh, 1, none⟩ = some (.int .u64 (hd.cov : Nat)) := HX9.out.cell 1
    have HA9 := Lib.hid H9.out.bu
    go_wp2_with (first | (refine wpList_store_part rfl 32 _ _ rfl xs 2 70 (buC s l 0 0 (some ⟨b, 0, none⟩)) #[.int .u64 hd.gen, .int .u64 hd.cov, .int .i64 0] HA9.out rfl rfl (Nat.le_of_ble_eq_true rfl) found_part (by simp [Value.oneCell']) ?_; intro wa hAa hga hsa; have HAa := Lib.hid (show Arr wa xs 70 (buC s l hd.gen hd.cov (some ⟨b, 0, none⟩)) from hAa); have HGa := Lib.hid hga; clear hAa hga hsa) | (refine wpList_load_blk rfl 70 (.tmp 4) rfl xs 70 _ HAa.out rfl _ Tryz.underlying70 rfl built_size ?_) | (refine wpList_store_blk rfl 70 (.tmp 4) _ rfl xs 70 _ (buC s l hd.gen hd.cov (some ⟨b, 0, none⟩)) HAa.out rfl rfl rfl built_size (by simp [Value.oneCell']) ?_; intro wb hAb hgb hsb; have HAb := Lib.hid hAb; have HGb := Lib.hid hgb; clear hAb hgb hsb))
    have HT1 := Tch.one HGa.out
    have HT2 := Tch.one HGb.out
    have H10 := (H9.out.put HS.out HAa.out HT1).put HS.out HAb.out HT2
    have HBX : ∀ k, B k → ¬ k = xs := fun k hk e => by have := HBO.out _ hk; have := HX5L.out; omega
    refine bodyPost_ret (results_cell_tmp Tryz.results23 _ (by rfl) (run_load_blk 70 HAb.out _ Tryz.underlying70 rfl built_size)) rfl ?_
    exact ⟨s, l, ra, rb, b, B, q, rfl, H10.sl, H10.rg, BookAt.apart (BookAt.apart HK9.out HT1 HBX) HT2 HBX, H10.dv, H10.tc, H10.lo.2.1, H10.lo.2.2.1, H10.lo.2.2.2.1, H10.lo.2.2.2.2, fun k hk => by have := HBO.out _ hk; have := HX5L.out; omega⟩
  · obtain ⟨hge, hbl, hlen, hv1, hv2, hv3, hv4, hbk⟩ := hx
    have hlt : ¬ at_ < 0 := by omega
    have HGQ := Lib.hid (show ∀ W, Below w4.heap.size w4 W → Calls Tryz.prog 56 #[.agg #[.int .i64 n, .int .i64 codes, .int .i64 group], .slice A body.length c] W (fun e w' => Below W.heap.size W w' ∧ ∃ b B q, e = .returned (.tuple #[.pointer (some ⟨b, 0, none⟩), .int .i64 0]) ∧ BookAt B w' b n codes group nx ck L q ∧ (∀ k, B k → W.heap.size ≤ k)) from fun W hW => by
      have hne : body ≠ [] := fun h0 => by rw [h0] at hlen; simp at hlen; omega
      obtain ⟨g, rfl, _, hblk⟩ := HBY.out hne
      refine (Get_in n codes group body (some ⟨g, 0, none⟩) c W HSH.out ((hblk.bsx).keep hW) (okA_some _ _) hbl).mono ?_
      rintro e w' ⟨h1, h2⟩
      refine ⟨h1, ?_⟩
      rw [if_neg (by omega), if_neg (by omega), if_neg (by omega), if_pos ⟨hv1, hv2⟩, hv3, hv4, hbk] at h2
      exact h2)
    clear hge hbl hlen hv1 hv2 hv3 hv4 hbk
    go_wp2_with (first | (refine wpList_load_blk rfl 23 (.tmp 3) rfl xb 23 _ HS5.out rfl _ Tryz.underlying23 rfl shape_size ?_) | (refine wpList_store_blk rfl 77 _ _ rfl xh 77 _ (hdV hd) HFR.out rfl rfl rfl hd_size (hdV_one hd) ?_; intro w5 hA5 hg5 hs5; have HB5 := Lib.hid (show Below w4.heap.size w4 w5 from ext_only HBF.out hg5 (Nat.le_of_eq HXH.out)); have H5 := Lib.hid (H4.out.below HB5.out); have HX5 := Lib.hid hA5; have HS5 := Lib.hid (HS4.out.keep HB5.out); clear hA5 hg5 hs5))
    refine (HGQ.out _ HB5.out).mono ?_
    rintro e w6 ⟨hb6, b, B, q, rfl, hBk, hB6⟩
    have H6 := Lib.hid (H5.out.below hb6); have HX6 := Lib.hid (HX5.out.keep hb6); have HK6 := Lib.hid hBk
    have HBO := Lib.hid (show ∀ k, B k → w5.heap.size ≤ k from hB6)
    clear hBk hB6 hb6 hlt HGQ
    have HX5L := Lib.hid (show xh < w5.heap.size ∧ xs < xh ∧ w.heap.size ≤ xh from ⟨HX5.out.lt, by have := H4.out.bu.lt; have := HXH.out; omega, by have := H4.out.tc.size; have := HXH.out; omega⟩)
    have c5 := H6.out.bu.cell 5
    have f5 := H6.out.bu.mark 5
    have H7 := Lib.hid (H6.out.put HS.out (cs' := buC s l 0 0 (some ⟨b, 0, none⟩)) (H6.out.bu.put 5 (.pointer (some ⟨b, 0, none⟩))) (Tch.at w6 xs 5 (.pointer (some ⟨b, 0, none⟩))))
    have HX7 := Lib.hid (show Arr (w6.setCell ⟨xs, 5, none⟩ (.pointer (some ⟨b, 0, none⟩))) xh 77 (hdV hd) from HX6.out.other (p := ⟨xs, 5, none⟩) (by have := HX5L.out; show xh ≠ xs; omega) _)
    have HK7 := Lib.hid (BookAt.apart HK6.out (Tch.at w6 xs 5 (.pointer (some ⟨b, 0, none⟩))) (fun k hk e => by have := HBO.out _ hk; have := HX5L.out; omega))
    have c1 := H7.out.bu.cell 1
    have x0 : (w6.setCell ⟨xs, 5, none⟩ (.pointer (some ⟨b, 0, none⟩))).cell? ⟨xh, 0, none⟩ = some (.int .u64 (hd.gen : Nat)) := HX7.out.cell 0
    have x1 : (w6.setCell ⟨xs, 5, none⟩ (.pointer (some ⟨b, 0, none⟩))).cell? ⟨xh, 1, none⟩ = some (.int .u64 (hd.cov : Nat)) := HX7.out.cell 1
    clear H6 HX6 HK6
    go_wp2_with fail
    refine (WScan_none (g := ⟨k2, k3⟩) (d := d1) (by rw [HDM.out]; exact H7.out.rg) H7.out.dv (HNS.out _ H7.out.lo.2.2.1) (HT.out _ H7.out.tc) HTS.out hd.gen hd.cov HCV.out (by rw [HRR.out]; exact fun _ => HBS.out)).mono ?_
    rw [HRR.out]
    rintro e w8 ⟨rfl, hD8, ht8⟩
    have H8 := Lib.hid (H7.out.dev HS.out hD8 ht8); have HX8 := Lib.hid (ht8.arr HX7.out (HNS.out _ HX5L.out.2.2)); have HK8 := Lib.hid (BookAt.apart HK7.out ht8 (fun k hk => HNS.out _ (by have := HBO.out _ hk; have := HX5L.out; omega)))
    clear hD8 ht8 c1 x0 x1 c5 f5 H7 HX7 HK7
    have c5 := H8.out.bu.cell 5
    go_wp2_with fail
    refine (Eg.Run_none HK8.out.comp HNN.out).mono ?_
    rintro e w9 ⟨rfl, hb9⟩
    have H9 := Lib.hid (H8.out.below hb9); have HX9 := Lib.hid (HX8.out.keep hb9); have HK9 := Lib.hid (HK8.out.below hb9)
    clear hb9 c5 H8 HX8 HK8
    have x0 : w9.cell? ⟨xh, 0, none⟩ = some (.int .u64 (hd.gen : Nat)) := HX9.out.cell 0
    have x1 : w9.cell? ⟨xh, 1, none⟩ = some (.int .u64 (hd.cov : Nat)) := HX9.out.cell 1
    have HA9 := Lib.hid H9.out.bu
    go_wp2_with (first | (refine wpList_store_part rfl 32 _ _ rfl xs 2 70 (buC s l 0 0 (some ⟨b, 0, none⟩)) #[.int .u64 hd.gen, .int .u64 hd.cov, .int .i64 0] HA9.out rfl rfl (Nat.le_of_ble_eq_true rfl) found_part (by simp [Value.oneCell']) ?_; intro wa hAa hga hsa; have HAa := Lib.hid (show Arr wa xs 70 (buC s l hd.gen hd.cov (some ⟨b, 0, none⟩)) from hAa); have HGa := Lib.hid hga; clear hAa hga hsa) | (refine wpList_load_blk rfl 70 (.tmp 4) rfl xs 70 _ HAa.out rfl _ Tryz.underlying70 rfl built_size ?_) | (refine wpList_store_blk rfl 70 (.tmp 4) _ rfl xs 70 _ (buC s l hd.gen hd.cov (some ⟨b, 0, none⟩)) HAa.out rfl rfl rfl built_size (by simp [Value.oneCell']) ?_; intro wb hAb hgb hsb; have HAb := Lib.hid hAb; have HGb := Lib.hid hgb; clear hAb hgb hsb))
    have HT1 := Tch.one HGa.out
    have HT2 := Tch.one HGb.out
    have H10 := (H9.out.put HS.out HAa.out HT1).put HS.out HAb.out HT2
    have HBX : ∀ k, B k → ¬ k = xs := fun k hk e => by have := HBO.out _ hk; have := HX5L.out; omega
    refine bodyPost_ret (results_cell_tmp Tryz.results23 _ (by rfl) (run_load_blk 70 HAb.out _ Tryz.underlying70 rfl built_size)) rfl ?_
    exact ⟨s, l, ra, rb, b, B, q, rfl, H10.sl, H10.rg, BookAt.apart (BookAt.apart HK9.out HT1 HBX) HT2 HBX, H10.dv, H10.tc, H10.lo.2.1, H10.lo.2.2.1, H10.lo.2.2.2.1, H10.lo.2.2.2.2, fun k hk => by have := HBO.out _ hk; have := HX5L.out; omega⟩

end Go.Proofs.YtbnkanehjnepbaaGreatDoor.Rc
end

/- Layer 24: recovery of a device whose slots can't be read. -/
section
set_option linter.unusedVariables false
set_option linter.unusedSimpArgs false
namespace Go.Proofs.YtbnkanehjnepbaaGreatDoor.Rc
open Go.RowKit
open Go.Proofs.YtbnkanehjnepbaaGreatDoor.Bk (shape_size)
open Go.Proofs.YtbnkanehjnepbaaGreatDoor.En (By DvIn DvIn_loc Dev Rg Sl Hd Ld hdV hdV_one hd_size LdOut SLoad_in RgAt SlAt)
open Go.Proofs.YtbnkanehjnepbaaGreatDoor.Cr (CrcTab)

variable {S : Nat → Prop} {p k k2 k3 m : Nat}
def BeOut (S : Nat → Prop) (p : Nat) (er : Int) (D : Dev) (w : World) (e : Ending) (w' : World) : Prop :=
  ∃ s l, e = .returned (.tuple #[.agg (buC s l 0 0 none), .int .i64 er]) ∧ DvIn p D S w' ∧ Tch S w w'
set_option maxRecDepth 100000 in
set_option maxHeartbeats 8000000 in
theorem build_err {d d1 : Dev} (n codes : Nat) (group : Nat) (sn : Nat) (w : World) (hD : DvIn p d S w) (ht : CrcTab w) (htS : ¬ S 1) (hn : d.dk.dur.length = sn) (hm : d.dk.size = m) (h1 : Geo.okS n codes group = true) (h2 : Geo.okD sn m = true) (h3 : Geo.need n codes m ≤ sn) (hk : Geo.slot n codes m = (k : Int)) (hk2 : 2 * k = k2) (hk3 : sn - 2 * k = k3) (hk4 : 2 * k + 1 ≤ sn) (hk5 : 2 ≤ k)
    (er : Int) (her : er ≠ 0) (hd : Hd) (body : By) (at_ : Int) (hL : Sl.load ⟨⟨0, k⟩, ⟨k, k⟩⟩ d = ⟨er, hd, body, at_, d1⟩) :
    Calls Tryz.prog 23 #[.pointer (some ⟨p, 0, none⟩), .agg #[.int .i64 n, .int .i64 codes, .int .i64 group]] w (BeOut S p er d1 w) := by
  have hS := (DvIn_loc p d).lt hD
  obtain ⟨xb, hxb⟩ : ∃ xb, w.heap.size = xb := ⟨_, rfl⟩
  obtain ⟨ws, hws⟩ : ∃ ws, w.alloc (.cells #[.int .i64 n, .int .i64 codes, .int .i64 group] 23) = ws := ⟨_, rfl⟩
  obtain ⟨xs, hxs⟩ : ∃ xs, ws.heap.size = xs := ⟨_, rfl⟩
  obtain ⟨w1, hw1⟩ : ∃ w1, ws.alloc (.cells built0 70) = w1 := ⟨_, rfl⟩
  have hb1 : Below w.heap.size w w1 := by rw [← hw1, ← hws]; exact ext_alloc (ext_alloc (Below.refl _ _) _) _
  have ha1 : Arr w1 xs 70 built0 := by rw [← hw1, ← hxs]; exact Arr.fresh ws _ _
  have hs1 : Arr w1 xb 23 #[.int .i64 n, .int .i64 codes, .int .i64 group] := by rw [← hw1, ← hws, ← hxb]; exact (Arr.fresh w _ _).alloc _
  have hxx : xb < xs ∧ w.heap.size ≤ xs := by rw [← hxs, ← hws, ← hxb]; simp
  have HL := Lib.hid (layout_in (S := S) n codes group sn m w1 ((DvIn_loc p d).below hD hb1) hn hm h1 h2 h3 k k2 k3 hk hk2 hk3 hk4 hk5)
  have HXB := Lib.hid hxb; have HXX := Lib.hid hxx; have HA1 := Lib.hid ha1; have HS1 := Lib.hid hs1; have HB1 := Lib.hid hb1
  have HS := Lib.hid hS
  have HT := Lib.hid (show ∀ W, Tch S w W → CrcTab W from fun W hW => ht.tch hW htS)
  have HD1 := Lib.hid (show DvIn p d S w1 from (DvIn_loc p d).below hD hb1)
  have HTS := Lib.hid htS; have HMM := Lib.hid hm; have HLL := Lib.hid hL
  clear hD ht htS hn hm h1 h2 h3 hk hk2 hk3 hk4 hk5 hL hS hxx ha1 hs1 hb1
  go_enter Tryz.func23, Tryz.ntmps23
  go_wp2_with (refine wpList_load_blk rfl 23 (.tmp 3) rfl xb 23 _ HS1.out rfl _ Tryz.underlying23 rfl shape_size ?_)
  refine HL.out.mono ?_
  rintro e w2 ⟨s, l, ra, rb, rfl, hSl, hRl, hzs, hzl, hza, hzb, hb2⟩
  have h2 : BdI S w xs p k k2 k3 m s l ra rb built0 d w2 := by
    have h3 := HXX.out; have h4 := HB1.out.size; have h5 := HA1.out.lt
    exact ⟨HA1.out.keep hb2, (DvIn_loc p d).below HD1.out hb2, Tch.of_below (ext_trans HB1.out hb2), hSl, hRl, ⟨h3.2, by omega, by omega, by omega, by omega⟩, ⟨by omega, by omega, by omega, by omega⟩⟩
  have HA2 := Lib.hid h2.bu; have H2 := Lib.hid h2; have HS2 := Lib.hid (HS1.out.keep hb2)
  clear hSl hRl hzs hzl hza hzb hb2 h2 HA1 HD1 HL HS1
  go_wp2_with (refine wpList_store_part rfl 68 _ _ rfl xs 0 70 built0 #[.pointer (some ⟨s, 0, none⟩), .pointer (some ⟨l, 0, none⟩)] HA2.out rfl rfl (Nat.le_of_ble_eq_true rfl) parts_size (by simp [Value.oneCell']) ?_; intro w3 hA3 hg3 hs3; have H3 := Lib.hid (H2.out.put HS.out (cs' := buC s l 0 0 none) hA3 (Tch.one hg3)); have HS3 := Lib.hid (HS2.out.grown hg3 (by have := HXX.out; omega)); have c0 := H3.out.bu.cell 0; clear hA3 hg3 hs3)
  have HNS := Lib.hid (show ∀ x, w.heap.size ≤ x → ¬ S x from fun x hx hs => by have := HS.out _ hs; omega)
  refine (SLoad_in (sl := ⟨⟨0, k⟩, ⟨k, k⟩⟩) (d := d) (by rw [HMM.out]; exact H3.out.sl) H3.out.dv (HNS.out _ H3.out.lo.2.1) (HNS.out _ H3.out.lo.2.2.2.1) (HNS.out _ H3.out.lo.2.2.2.2) (HT.out _ H3.out.tc) HTS.out).mono ?_
  rw [HLL.out]
  rintro e w4 ⟨⟨A, c, rfl, hA, hc⟩, hD4, ht4⟩
  have H4 := Lib.hid (H3.out.dev HS.out hD4 ht4)
  have HS4 := Lib.hid (ht4.arr HS3.out (HNS.out _ (by have := HXB.out; omega)))
  have HBY := Lib.hid hA; have HCC := Lib.hid hc
  clear hA hc hD4 ht4 c0 HS3 H3
  obtain ⟨xh, hxh⟩ : ∃ xh, w4.heap.size = xh := ⟨_, rfl⟩
  obtain ⟨wf, hwf⟩ : ∃ wf, w4.alloc (.cells #[.int .u64 0, .int .u64 0, .int .i64 0, .int .u32 0] 77) = wf := ⟨_, rfl⟩
  have HFR := Lib.hid (show Arr wf xh 77 #[.int .u64 0, .int .u64 0, .int .i64 0, .int .u32 0] by rw [← hwf, ← hxh]; exact Arr.fresh w4 _ _)
  have HBF := Lib.hid (show Below w4.heap.size w4 wf by rw [← hwf]; exact ext_alloc (Below.refl _ _) _)
  have HXH := Lib.hid hxh
  have hne : (er == 0) = false := by rw [beq_eq_false_iff_ne]; exact her
  go_wp2_with (first | (refine wpList_store_blk rfl 77 _ _ rfl xh 77 _ (hdV hd) HFR.out rfl rfl rfl hd_size (hdV_one hd) ?_; intro w5 hA5 hg5 hs5; have HB5 := Lib.hid (show Below w4.heap.size w4 w5 from ext_only HBF.out hg5 (Nat.le_of_eq HXH.out)); have H5 := Lib.hid (H4.out.below HB5.out); have HA9 := Lib.hid H5.out.bu; clear hA5 hg5 hs5) | (refine wpList_load_blk rfl 70 (.tmp 4) rfl xs 70 _ HA9.out rfl _ Tryz.underlying70 rfl built_size ?_) | (refine wpList_store_blk rfl 70 (.tmp 4) _ rfl xs 70 _ (buC s l 0 0 none) HA9.out rfl rfl rfl built_size (by simp [Value.oneCell']) ?_; intro wb hAb hgb hsb; have HAb := Lib.hid hAb; have HGb := Lib.hid hgb; clear hAb hgb hsb))
  have H10 := H5.out.put HS.out HAb.out (Tch.one HGb.out)
  refine bodyPost_ret (results_cell_tmp Tryz.results23 _ (by rfl) (run_load_blk 70 HAb.out _ Tryz.underlying70 rfl built_size)) rfl ?_
  exact ⟨s, l, rfl, H10.dv, H10.tc⟩

end Go.Proofs.YtbnkanehjnepbaaGreatDoor.Rc
end
