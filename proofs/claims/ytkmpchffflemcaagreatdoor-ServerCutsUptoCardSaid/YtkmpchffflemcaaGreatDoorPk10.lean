/- Packed: Eng1, Eng2, Do1, Do2, Ans. -/
import Derived.Test.YtkmpchffflemcaaGreatDoorPk9
import Derived.Test.YtkmpchffflemcaaGreatDoorPk6
import Derived.Test.YtkmpchffflemcaaGreatDoorPk3
import Derived.Lib.SlBytesConst
import Derived.Test.YtkmpchffflemcaaGreatDoorPk4
import Derived.Deep.CutRange
import Derived.Deep.CutBlock
set_option linter.unusedVariables false
set_option linter.unusedSimpArgs false
/- Layers 19, 23, 24: small functions: replay.Run without frames; an idle engine, Ready, Generation; built.last. -/
section
set_option linter.unusedVariables false
set_option linter.unusedSimpArgs false
namespace Go.Proofs.YtkmpchffflemcaaGreatDoor.Eg
open Go.RowKit
open Go.Proofs.YtkmpchffflemcaaGreatDoor.Bk

/-- an engine's block -/
def EnArr (w : World) (e : Nat) (up : Bool) (lg sl bk : Option Addr) (wt : Value) (mp : Value) : Prop := Arr w e 208 #[.bool true, .bool up, .pointer lg, .pointer sl, .pointer bk, wt, mp]
set_option maxRecDepth 100000 in
set_option maxHeartbeats 1000000 in
theorem Ready_in {w : World} {e : Nat} {up : Bool} {lg sl bk : Option Addr} {wt mp : Value} (h : EnArr w e up lg sl bk wt mp) : Calls Tryz.prog 104 #[.pointer (some ⟨e, 0, none⟩)] w fun en w' => en = .returned (.bool up) ∧ w' = w := by
  have x1 : w.cell? ⟨e, 1, none⟩ = some (.bool up) := h.cell 1
  clear h
  go_enter Tryz.func104, Tryz.ntmps104
  go_wp2_with fail
  go_ret
  exact ⟨rfl, rfl⟩

end Go.Proofs.YtkmpchffflemcaaGreatDoor.Eg
end

/- Layer 23: an engine is made. -/
section
set_option linter.unusedVariables false
set_option linter.unusedSimpArgs false
namespace Go.Proofs.YtkmpchffflemcaaGreatDoor.Eg
open Go.RowKit
open Go.Proofs.YtkmpchffflemcaaGreatDoor.Bk
open Go.Proofs.YtkmpchffflemcaaGreatDoor.En (LgLies SlAt Sl Lg Rg LRoom_in LUsed_in SBytes_in)

def lkp : List (Int × Value) → Int → Option Value
  | [], _ => none
  | x :: r, i => if i = x.1 then some x.2 else lkp r i
/-- a map that holds a list's entries -/
def MapL (w : World) (b : Nat) (l : List (Int × Value)) : Prop := MapV Tryz.prog 209 .i64 w b l.length (lkp l)
theorem MapL.put {w' : World} {b : Nat} {l : List (Int × Value)} {i : Int} {v : Value} (hl : lkp l i = none) (h : MapV Tryz.prog 209 .i64 w' b (if (lkp l i).isSome then l.length else l.length + 1) (vput (lkp l) i (some v))) : MapL w' b ((i, v) :: l) := by
  rw [hl] at h
  have e : vput (lkp l) i (some v) = lkp ((i, v) :: l) := funext fun j => rfl
  rw [e] at h
  exact h
/-- one entry of a map's literal -/
theorem wpList_insert {w : World} {ops : Array Oper} {rest : List Oper} {o : Oper} {a : Act} {Q : Exit → Act → World → Prop} (hg : o.guard = none) (m x y : Operand) (hop : o.op = Op.insert 206 m x y)
    (b : Nat) (l : List (Int × Value)) (hm : a.eval m = .map (some b)) (h : MapL w b l) (i : Int) (v : Value) (hx : a.eval x = .int .i64 i) (hy : a.eval y = v) (hi : (Lit.int .i64 i).wf = true) (hn : lkp l i = none) (hlen : l.length < 100)
    (hK : ∀ w', MapL w' b ((i, v) :: l) → w.grownBy w' (some b) → wpList Tryz.prog ops Q rest (a.put o.dst undef) w') : wpList Tryz.prog ops Q (o :: rest) a w := by
  refine wpList_plain hg fun K' hK' => ?_
  obtain ⟨w', hrun, r1, r2⟩ := MapV.put h Tryz.underlying209 Tryz.underlying206 (by unfold maxLen; omega) hi (v := v)
  unfold Oper.wp
  simp [execOp, hop, hm, hx, hy, hrun, Result.andThen]
  exact hK' _ _ (hK w' (MapL.put hn r1) r2)
/-- what an engine does at which kind -/
def doesL (e : Nat) : List (Int × Value) := [(7, .func (.func 96) #[.pointer (some ⟨e, 0, none⟩)] #[]), (4, .func (.func 96) #[.pointer (some ⟨e, 0, none⟩)] #[]), (3, .func (.func 96) #[.pointer (some ⟨e, 0, none⟩)] #[]), (2, .func (.func 96) #[.pointer (some ⟨e, 0, none⟩)] #[]), (1, .func (.func 96) #[.pointer (some ⟨e, 0, none⟩)] #[]), (9, .func (.func 95) #[.pointer (some ⟨e, 0, none⟩)] #[]), (8, .func (.func 94) #[.pointer (some ⟨e, 0, none⟩)] #[]), (10, .func (.func 93) #[.pointer (some ⟨e, 0, none⟩)] #[]), (6, .func (.func 93) #[.pointer (some ⟨e, 0, none⟩)] #[]), (5, .func (.func 93) #[.pointer (some ⟨e, 0, none⟩)] #[])]
def MkOut (q s b : Nat) (w : World) (en : Ending) (w' : World) : Prop := ∃ e mb, en = .returned (.tuple #[.pointer (some ⟨e, 0, none⟩), .int .i64 0]) ∧ EnArr w' e true (some ⟨q, 0, none⟩) (some ⟨s, 0, none⟩) (some ⟨b, 0, none⟩) (.slice none 0 0) (.map (some mb)) ∧ MapL w' mb (doesL e) ∧ w.heap.size ≤ e ∧ w.heap.size ≤ mb ∧ Below w.heap.size w w'
set_option maxRecDepth 100000 in
set_option maxHeartbeats 4000000 in
theorem Make_in {S T : Nat → Prop} {w : World} {q r p s ra rb p2 b n codes : Nat} {l : Lg} {g : Rg} {size : Nat} {v : Value} {sl : Sl} {group next clock : Int} {len : Nat} {qq : Parts} (hl : LgLies S w q r p l g size v) (hs : SlAt w s ra rb p2 sl size) (h : Comp T w b n codes group next clock len qq) (hn : 1 ≤ n ∧ n ≤ 1024) :
    Calls Tryz.prog 38 #[.pointer (some ⟨q, 0, none⟩), .pointer (some ⟨s, 0, none⟩), .pointer (some ⟨b, 0, none⟩)] w (MkOut q s b w) := by
  have hbl := hl.rg.bytes_le
  have hb1 : 1 ≤ g.bytes size := by unfold Rg.bytes; exact Nat.mul_pos hl.rg.count.1 hl.rg.size.1
  have hfit := hl.fit
  have hsb : 1 ≤ sl.bytes size := by
    have h1 := hs.two
    have h2 := hs.a.size
    have h3 : 2 * size ≤ sl.a.count * size := Nat.mul_le_mul_right _ h1
    unfold Sl.bytes Rg.bytes
    omega
  obtain ⟨us, hus⟩ : ∃ x, l.used = x := ⟨_, rfl⟩
  obtain ⟨rm, hrm⟩ : ∃ x, g.bytes size - l.used = x := ⟨_, rfl⟩
  obtain ⟨sb, hsbe⟩ : ∃ x, sl.bytes size = x := ⟨_, rfl⟩
  have HRM := Lib.hid (show ∀ W, Below w.heap.size w W → Calls Tryz.prog 89 #[.pointer (some ⟨q, 0, none⟩)] W (fun e w' => e = .returned (.int .i64 (rm : Nat)) ∧ Below W.heap.size W w') from fun W hW => by
    have h1 := LRoom_in ((show En.LgLies S W q r p l g size v from ⟨hl.own.keep hW, hl.rg.keep hW, own_same hl.row fun k hk => hW.block k (own_lt hl.row hk).1, hl.foot, fun k hk => Nat.lt_of_lt_of_le (hl.lt k hk) hW.size, hl.ok, hl.fit⟩))
    rwa [hrm] at h1)
  have HUS := Lib.hid (show ∀ W, Below w.heap.size w W → Calls Tryz.prog 90 #[.pointer (some ⟨q, 0, none⟩)] W (fun e w' => e = .returned (.int .i64 (us : Nat)) ∧ Below W.heap.size W w') from fun W hW => by
    have h1 := LUsed_in ((show En.LgLies S W q r p l g size v from ⟨hl.own.keep hW, hl.rg.keep hW, own_same hl.row fun k hk => hW.block k (own_lt hl.row hk).1, hl.foot, fun k hk => Nat.lt_of_lt_of_le (hl.lt k hk) hW.size, hl.ok, hl.fit⟩))
    rwa [hus] at h1)
  have HSB := Lib.hid (show ∀ W, Below w.heap.size w W → Calls Tryz.prog 91 #[.pointer (some ⟨s, 0, none⟩)] W (fun e w' => e = .returned (.int .i64 (sb : Nat)) ∧ Below W.heap.size W w') from fun W hW => by
    have h1 := SBytes_in (hs.keep hW)
    rwa [hsbe] at h1)
  have HSH := Lib.hid (show ∀ W, Below w.heap.size w W → Calls Tryz.prog 92 #[.pointer (some ⟨b, 0, none⟩)] W (fun e w' => e = .returned (.agg #[.int .i64 n, .int .i64 codes, .int .i64 group]) ∧ Below W.heap.size W w') from fun W hW => Shape_in (h.below hW))
  have hsum : rm + us = g.bytes size := by omega
  have hz0 : (((rm + us : Nat) : Int) == 0) = false := by rw [beq_eq_false_iff_ne]; omega
  have hz1 : (((rm : Int) + (us : Int)) == 0) = false := by rw [beq_eq_false_iff_ne]; omega
  have hz2 : ((sb : Int) == 0) = false := by rw [beq_eq_false_iff_ne]; omega
  have hz3 : ((n : Int) == 0) = false := by rw [beq_eq_false_iff_ne]; omega
  have hz4 : IntKind.i64.wrap ((rm : Int) + (us : Int)) = (rm : Int) + (us : Int) := by rw [IntKind.wrap_i64]; omega
  have hsm : rm + us ≤ 268435456 := by omega
  have hfld : ∀ W, (Instr.field 90 (.agg #[.int .i64 n, .int .i64 codes, .int .i64 group]) 0).run Tryz.prog W = .ok (.int .i64 n) W := fun W => by kernel_rfl
  have hmm := @run_makeMap Tryz.prog
  clear hl hs h hbl hb1 hfit hsb hus hrm hsbe hsum
  go_enter Tryz.func38, Tryz.ntmps38
  go_wp2_with fail
  refine (HRM.out w (Below.refl _ _)).mono ?_
  rintro e w1 ⟨rfl, hb1⟩
  have HB1 := Lib.hid hb1
  clear hb1
  go_wp2_with fail
  refine (HUS.out w1 HB1.out).mono ?_
  rintro e w2 ⟨rfl, hb2⟩
  have HB2 := Lib.hid (ext_trans HB1.out hb2)
  clear hb2
  go_wp2_with fail
  refine (HSB.out w2 HB2.out).mono ?_
  rintro e w3 ⟨rfl, hb3⟩
  have HB3 := Lib.hid (ext_trans HB2.out hb3)
  clear hb3
  go_wp2_with fail
  refine (HSH.out w3 HB3.out).mono ?_
  rintro e w4 ⟨rfl, hb4⟩
  obtain ⟨eb, heb⟩ : ∃ eb, w4.heap.size = eb := ⟨_, rfl⟩
  obtain ⟨w6, hw6⟩ : ∃ w6, (w4.alloc (.cells #[.bool true, .bool true, .pointer (some ⟨q, 0, none⟩), .pointer (some ⟨s, 0, none⟩), .pointer (some ⟨b, 0, none⟩), .slice none 0 0, .map none] 208)).alloc (.map #[] 0) = w6 := ⟨_, rfl⟩
  have hb6 : Below w.heap.size w w6 := by rw [← hw6]; exact ext_alloc (ext_alloc (ext_trans HB3.out hb4) _) _
  have hm6 : MapL w6 (eb + 1) [] := by
    have h1 := MapV.made Tryz.prog 209 .i64 (w4.alloc (.cells #[.bool true, .bool true, .pointer (some ⟨q, 0, none⟩), .pointer (some ⟨s, 0, none⟩), .pointer (some ⟨b, 0, none⟩), .slice none 0 0, .map none] 208))
    rw [hw6] at h1
    simp only [World.size_alloc] at h1
    rw [heb] at h1
    exact h1
  have ha6 : Arr w6 eb 208 #[.bool true, .bool true, .pointer (some ⟨q, 0, none⟩), .pointer (some ⟨s, 0, none⟩), .pointer (some ⟨b, 0, none⟩), .slice none 0 0, .map none] := by rw [← hw6, ← heb]; exact (Arr.fresh w4 _ _).alloc _
  have HE := Lib.hid (show w.heap.size ≤ eb by have := (ext_trans HB3.out hb4).size; omega)
  have HM := Lib.hid (show MapL w6 (eb + 1) [] ∧ Arr w6 eb 208 #[.bool true, .bool true, .pointer (some ⟨q, 0, none⟩), .pointer (some ⟨s, 0, none⟩), .pointer (some ⟨b, 0, none⟩), .slice none 0 0, .map none] ∧ Below w.heap.size w w6 from ⟨hm6, ha6, hb6⟩)
  have HEB := Lib.hid heb
  clear hb4 hb6 hm6 ha6 HB1 HB2 HB3
  go_wp2_with (refine wpList_insert rfl _ _ _ rfl (eb + 1) _ (by first | rfl | (rw [← HEB.out]; rfl)) HM.out.1 _ _ rfl rfl (by decide) (by rfl) (by simp) ?_; intro wN hm hg; replace HM := Lib.hid (show MapL wN (eb + 1) _ ∧ Arr wN eb 208 #[.bool true, .bool true, .pointer (some ⟨q, 0, none⟩), .pointer (some ⟨s, 0, none⟩), .pointer (some ⟨b, 0, none⟩), .slice none 0 0, .map none] ∧ Below w.heap.size w wN from ⟨hm, HM.out.2.1.grownTo hg (fun e => by injection e with e; omega), HM.out.2.2.grown hg HM.out.2.2.size (fun k e => by injection e with e; have := HE.out; omega)⟩); clear hm hg; have c6 : wN.cell? ⟨eb, 6, none⟩ = some (.map none) := HM.out.2.1.cell 6; have f6 : wN.frozen? ⟨eb, 6, none⟩ = false := HM.out.2.1.mark 6)
  go_ret2
  refine ⟨eb, eb + 1, rfl, ?_, ?_, HE.out, by have := HE.out; omega, HM.out.2.2.setCell (by exact HE.out) _⟩
  · exact HM.out.2.1.put 6 _
  · exact MapV.same HM.out.1 (Below.heap_setCell _ _ _ _ (by show eb + 1 ≠ eb; omega))

end Go.Proofs.YtkmpchffflemcaaGreatDoor.Eg
end

/- Layer 23: rows of replies, rows of their bytes; a refusal. -/
section
set_option linter.unusedVariables false
set_option linter.unusedSimpArgs false
namespace Go.Proofs.YtkmpchffflemcaaGreatDoor.En
open Go.RowKit
open Go.Proofs.YtkmpchffflemcaaGreatDoor.Oc (le val)

/-- a row of replies that can be read -/
def Rps (w : World) (A : Option Addr) (l : List Rp) : Prop := l ≠ [] → ∃ g off, A = some ⟨g, off, none⟩ ∧ g < w.heap.size ∧ ∀ i (h : i < l.length), w.rangeAt g (off + i * 7) (rpV l[i]).toList
theorem Rps.keep {w w' : World} {A : Option Addr} {l : List Rp} (h : Rps w A l) (hb : Below w.heap.size w w') : Rps w' A l := fun hne => by
  obtain ⟨g, off, h1, h2, h3⟩ := h hne
  exact ⟨g, off, h1, Nat.lt_of_lt_of_le h2 hb.size, fun i hi j u hj => (hb.cell (p := ⟨g, off + i * 7 + j, none⟩) h2).trans (h3 i hi j u hj)⟩
def rpBytes (r : Rp) : By := rpBf (rpF r.kind r.err) r.tag.toNat r.kind.toNat r.err.toNat r.id.toNat r.seat.toNat r.til.toNat r.count.toNat
theorem rpBytes_len (r : Rp) : 7 ≤ (rpBytes r).length ∧ (rpBytes r).length ≤ 32 := by
  have hf := rpF_is r.kind r.err
  unfold rpBytes
  obtain ⟨f, hfe⟩ : ∃ f, rpF r.kind r.err = f := ⟨_, rfl⟩
  rw [hfe] at hf ⊢
  unfold rpBf
  rcases hf with rfl | rfl | rfl | rfl | rfl | rfl <;> simp [Oc.le_len]
theorem RpPut_in (r : Rp) (w : World) (ht : RpTab w) (h : RpOk r (rpF r.kind r.err)) : Calls Tryz.prog 103 #[.agg (rpV r)] w (RpOut (rpBytes r) w) := by
  obtain ⟨tg, kd, er, id, st, tl, ct⟩ := r
  have h1 := h.tag; have h2 := h.kind; have h3 := h.err; have h4 := h.id; have h5 := h.til
  have h6 : 0 ≤ st := by rcases h.seat with h | h <;> simp only at h <;> omega
  have h7 : 0 ≤ ct := by rcases h.count with h | h <;> simp only at h <;> omega
  simp only at h1 h2 h3 h4 h5
  obtain ⟨tg, rfl⟩ := Int.eq_ofNat_of_zero_le h1.1
  obtain ⟨kd, rfl⟩ := Int.eq_ofNat_of_zero_le h2.1
  obtain ⟨er, rfl⟩ := Int.eq_ofNat_of_zero_le h3.1
  obtain ⟨id, rfl⟩ := Int.eq_ofNat_of_zero_le h4.1
  obtain ⟨tl, rfl⟩ := Int.eq_ofNat_of_zero_le h5.1
  obtain ⟨st, rfl⟩ := Int.eq_ofNat_of_zero_le h6
  obtain ⟨ct, rfl⟩ := Int.eq_ofNat_of_zero_le h7
  exact RpPut_ok tg kd er id st tl ct _ w ht h
/-- a row of rows of bytes, all of it new -/
structure OutsAt (base : Nat) (w : World) (v : Value) (L : List By) (G C : Nat → Nat) : Prop where
  row : RowIn (fun k => v.ownBlock = some k) w 22 1 v L.length (fun i => [.slice (some ⟨G i, 0, none⟩) (L.getD i []).length (C i)])
  each : ∀ i, i < L.length → Blk w 5 (G i) (L.getD i []) ∧ (L.getD i []).length ≤ C i ∧ base ≤ G i ∧ v.ownBlock ≠ some (G i)
  new : ∀ k, v.ownBlock = some k → base ≤ k
theorem OutsAt.keep {base : Nat} {w w' : World} {v : Value} {L : List By} {G C : Nat → Nat} (h : OutsAt base w v L G C) (hb : Below w.heap.size w w') : OutsAt base w' v L G C :=
  ⟨h.row.keep hb, fun i hi => ⟨Blk.same (h.each i hi).1 (hb.block _ (Blk.lt (h.each i hi).1)), (h.each i hi).2⟩, h.new⟩
theorem OutsAt.nil (base : Nat) (w : World) : OutsAt base w (.slice none 0 0) [] (fun _ => 0) (fun _ => 0) :=
  ⟨⟨own_nil w 0 1 _, fun g h => h⟩, fun i hi => by simp at hi, fun k h => by cases h⟩
theorem snoc_get (L : List By) (x : By) (i : Nat) : (L ++ [x]).getD i [] = if i = L.length then x else L.getD i [] := by
  simp only [List.getD_eq_getElem?_getD]
  by_cases h : i = L.length
  · subst h; simp
  · rw [if_neg h]
    rcases Nat.lt_or_ge i L.length with h1 | h1
    · rw [List.getElem?_append_left h1]
    · rw [List.getElem?_eq_none (by simp; omega), List.getElem?_eq_none h1]
theorem OutsAt.snoc {base : Nat} {wr w7 w8 : World} {v : Value} {L : List By} {G C : Nat → Nat} {x : By} {g2 c2 ga ca : Nat} (h : OutsAt base wr v L G C) (hb : Below wr.heap.size wr w7) (hx : Blk w7 5 g2 x) (hg2 : wr.heap.size ≤ g2) (hbase : base ≤ wr.heap.size) (hc : x.length ≤ c2)
    (hr : RowIn (fun k => v.ownBlock = some k ∨ k = w7.heap.size) w8 22 1 (.slice (some ⟨ga, 0, none⟩) (L.length + 1) ca) (L.length + 1) (setL (fun i => [.slice (some ⟨G i, 0, none⟩) (L.getD i []).length (C i)]) L.length [.slice (some ⟨g2, 0, none⟩) x.length c2])) (hg : w7.grownBy w8 v.ownBlock) :
    OutsAt base w8 (.slice (some ⟨ga, 0, none⟩) (L.length + 1) ca) (L ++ [x]) (fun i => if i = L.length then g2 else G i) (fun i => if i = L.length then c2 else C i) := by
  have hlen : (L ++ [x]).length = L.length + 1 := by simp
  have hgx := Blk.lt hx
  have hz := hb.size
  have hown : ∀ k, v.ownBlock = some k → k < wr.heap.size := fun k hk => (own_lt h.row.own hk).1
  have hga : v.ownBlock = some ga ∨ ga = w7.heap.size := hr.block ga rfl
  have hfun : (fun i => [Value.slice (some ⟨if i = L.length then g2 else G i, 0, none⟩) ((L ++ [x]).getD i []).length (if i = L.length then c2 else C i)]) = setL (fun i => [.slice (some ⟨G i, 0, none⟩) (L.getD i []).length (C i)]) L.length [.slice (some ⟨g2, 0, none⟩) x.length c2] := by
    funext i
    rw [snoc_get]
    unfold setL
    by_cases hi : i = L.length
    · simp [hi]
    · simp [hi]
  refine ⟨⟨by rw [hlen, hfun]; exact hr.own, fun g hg => hg⟩, fun i hi => ?_, fun k hk => ?_⟩
  · rw [snoc_get]
    by_cases hi2 : i = L.length
    · simp only [if_pos hi2]
      refine ⟨Blk.same hx (hg.block g2 hgx (fun e => by have := hown g2 e.symm; omega)), hc, by omega, fun e => ?_⟩
      have e2 : ga = g2 := by simpa [Value.ownBlock] using e
      rcases hga with h1 | h1
      · have := hown ga h1; omega
      · omega
    · simp only [if_neg hi2]
      have hi3 : i < L.length := by omega
      obtain ⟨b1, b2, b3, b4⟩ := h.each i hi3
      have hbl := Blk.lt b1
      refine ⟨Blk.same (Blk.same b1 (hb.block _ hbl)) (hg.block (G i) (by omega) (fun e => b4 e.symm)), b2, b3, fun e => ?_⟩
      have e2 : ga = G i := by simpa [Value.ownBlock] using e
      rcases hga with h1 | h1
      · exact b4 (by rw [h1, e2])
      · omega
  · have e2 : ga = k := by simpa [Value.ownBlock] using hk
    rcases hga with h1 | h1
    · rw [← e2]; exact h.new ga h1
    · omega
def RsOut (l : List Rp) (R : World → Prop) (w : World) (e : Ending) (w' : World) : Prop := ∃ A c, e = .returned (.slice A l.length c) ∧ Rps w' A l ∧ R w'
def DoOut (L : List By) (R : World → Prop) (w : World) (e : Ending) (w' : World) : Prop := ∃ v G C, e = .returned v ∧ OutsAt w.heap.size w' v L G C ∧ R w'
set_option maxRecDepth 100000 in
set_option maxHeartbeats 2000000 in
theorem refusal_in (q : Rq) (er : Int) (w : World) : Calls Tryz.prog 102 #[.agg (rqV q), .int .i64 er] w (RsOut [⟨q.tag, q.kind, er, 0, 0, 0, 0⟩] (fun w' => Below w.heap.size w w') w) := by
  obtain ⟨xq, hxq⟩ : ∃ xq, w.heap.size = xq := ⟨_, rfl⟩
  obtain ⟨w1, hw1⟩ : ∃ w1, w.alloc (.cells (rqV q) 223) = w1 := ⟨_, rfl⟩
  have hA1 : Arr w1 xq 223 (rqV q) := by rw [← hw1, ← hxq]; exact Arr.fresh w _ _
  have HB1 := Lib.hid (show Below w.heap.size w w1 by rw [← hw1]; exact ext_alloc (Below.refl _ _) _)
  have c0 : w1.cell? ⟨xq, 0, none⟩ = some (.int .i64 q.kind) := hA1.cell 0
  have c1 : w1.cell? ⟨xq, 1, none⟩ = some (.int .u32 q.tag) := hA1.cell 1
  clear hA1
  go_enter Tryz.func102, Tryz.ntmps102
  go_wp2_with fail
  go_ret
  refine ⟨_, _, rfl, ?_, ext_alloc HB1.out _⟩
  intro _
  refine ⟨w1.heap.size, 0, rfl, by simp, fun i hi j u hj => ?_⟩
  have h0 : i = 0 := by simpa using hi
  subst h0
  have := (Arr.fresh w1 228 (rpV ⟨q.tag, q.kind, er, 0, 0, 0, 0⟩)).cell j
  simp only [Nat.zero_mul, Nat.zero_add]
  refine this.trans ?_
  simpa using hj

end Go.Proofs.YtkmpchffflemcaaGreatDoor.En
end

/- Layer 23: Engine.Do: what is asked is done by whom it concerns; all answers' bytes. -/
section
set_option linter.unusedVariables false
set_option linter.unusedSimpArgs false
namespace Go.Proofs.YtkmpchffflemcaaGreatDoor.En
open Go.RowKit
open Go.Proofs.YtkmpchffflemcaaGreatDoor.Oc (le val Bs okA)
open Go.Proofs.YtkmpchffflemcaaGreatDoor.Eg (EnArr MapL lkp doesL)

/-- what one that does a request leaves as it was: what lies beside the engine's parts; the engine's own table -/
def DsOut (l : List Rp) (R : World → Prop) (w : World) (e mb : Nat) (W : World) (en : Ending) (W' : World) : Prop :=
  (∃ A c, en = .returned (.slice A l.length c) ∧ Rps W' A l) ∧ R W' ∧ (∃ T : Nat → Prop, Tch T W W' ∧ ∀ k, T k → k < w.heap.size) ∧ W'.cell? ⟨e, 6, none⟩ = some (.map (some mb)) ∧ MapL W' mb (doesL e)
/-- which way a request goes: what is no request; an engine that is not ready; one that does it -/
inductive Ways (w : World) (e : Nat) (b : By) (up : Bool) (mp : Value) (l : List Rp) (R : World → Prop) : Prop where
  | bad (h : (rqGet b).2 ≠ 0) (hl : l = [⟨0, 0, 200, 0, 0, 0, 0⟩]) (hR : ∀ W, Below w.heap.size w W → R W)
  | idle (h : (rqGet b).2 = 0) (hu : up = false) (hl : l = [⟨(rqGet b).1.tag, (rqGet b).1.kind, 230, 0, 0, 0, 0⟩]) (hR : ∀ W, Below w.heap.size w W → R W)
  | does (h : (rqGet b).2 = 0) (hu : up = true) (mb f : Nat) (hm : mp = .map (some mb)) (hM : MapL w mb (doesL e)) (hf : lkp (doesL e) (rqGet b).1.kind = some (.func (.func f) #[.pointer (some ⟨e, 0, none⟩)] #[]))
      (hC : ∀ W, Below w.heap.size w W → Calls Tryz.prog f #[.pointer (some ⟨e, 0, none⟩), .agg (rqV (rqGet b).1)] W (DsOut l R w e mb W))
theorem outs_info : (Tryz.prog.info? 22).map (fun i => (i.zero, i.size, i.bytes)) = some (some (.slice none 0 0), 1, 24) := by kernel_rfl
theorem rqGet_kind (b : By) (h : (rqGet b).2 = 0) : 1 ≤ (rqGet b).1.kind ∧ (rqGet b).1.kind ≤ 10 := by
  unfold rqGet at h ⊢
  split at h
  · rename_i h1
    rw [if_pos h1]
    have h2 : (rqRun b).1.kind = (rq0 b).1.kind := by unfold rqRun; rw [rqFold_kind]
    show 1 ≤ (rqRun b).1.kind ∧ (rqRun b).1.kind ≤ 10
    rw [h2]
    have := h1.1
    simpa [rqKind] using this
  · exact absurd h (by decide)
theorem does_fn {e f : Nat} {k : Int} (hk : 1 ≤ k ∧ k ≤ 10) (h : lkp (doesL e) k = some (.func (.func f) #[.pointer (some ⟨e, 0, none⟩)] #[])) : f = 96 ∨ f = 94 ∨ f = 95 ∨ f = 93 := by
  have hk' : k = 1 ∨ k = 2 ∨ k = 3 ∨ k = 4 ∨ k = 5 ∨ k = 6 ∨ k = 7 ∨ k = 8 ∨ k = 9 ∨ k = 10 := by omega
  rcases hk' with rfl | rfl | rfl | rfl | rfl | rfl | rfl | rfl | rfl | rfl <;> simp [lkp, doesL] at h <;> simp [← h]
set_option maxRecDepth 100000 in
set_option maxHeartbeats 16000000 in
theorem Do_in {w : World} {e : Nat} {up : Bool} {lg sl bk : Option Addr} {wt mp : Value} (hE : EnArr w e up lg sl bk wt mp) (b : By) (A : Option Addr) (c : Nat) (hB : Bs w A b) (hA : okA A) (hl : b.length ≤ 70368744177664) (l : List Rp) (R : World → Prop)
    (hR : ∀ W W', R W → Below W.heap.size W W' → R W') (hT : ∀ W, R W → RpTab W) (hs : ∀ W, R W → w.heap.size ≤ W.heap.size) (hok : ∀ r ∈ l, RpOk r (rpF r.kind r.err)) (hll : l.length ≤ 1000) (hW : Ways w e b up mp l R) :
    Calls Tryz.prog 44 #[.pointer (some ⟨e, 0, none⟩), .slice A b.length c] w (DoOut (l.map rpBytes) R w) := by
  have x0 : w.cell? ⟨e, 0, none⟩ = some (.bool true) := hE.cell 0
  have HG := Lib.hid (RqGet_in b A c w hB hA hl)
  have HE := Lib.hid hE; have HR := Lib.hid hR; have HT := Lib.hid hT; have HS := Lib.hid hs; have HOK := Lib.hid hok; have HW := Lib.hid hW
  clear hE hB hA hl hR hT hs hok hW
  go_enter Tryz.func44, Tryz.ntmps44
  go_wp2_with fail
  refine HG.out.mono ?_
  rintro en w1 ⟨rfl, hb1⟩
  have HB1 := Lib.hid hb1
  clear hb1 x0
  obtain ⟨xq, hxq⟩ : ∃ xq, w1.heap.size = xq := ⟨_, rfl⟩
  obtain ⟨w2, hw2⟩ : ∃ w2, w1.alloc (.cells #[.int .i64 0, .int .u32 0, .int .u32 0, .int .i64 0, .int .i64 0] 223) = w2 := ⟨_, rfl⟩
  have HA2 := Lib.hid (show Arr w2 xq 223 #[.int .i64 0, .int .u32 0, .int .u32 0, .int .i64 0, .int .i64 0] by rw [← hw2, ← hxq]; exact Arr.fresh w1 _ _)
  have HB2 := Lib.hid (show Below w1.heap.size w1 w2 by rw [← hw2]; exact ext_alloc (Below.refl _ _) _)
  have HXQ := Lib.hid hxq
  go_upto_block 0 with (refine wpList_store_blk rfl 223 _ _ rfl xq 223 _ (rqV (rqGet b).1) HA2.out rfl rfl rfl request_size (by simp [rqV, Value.oneCell']) ?_; intro w3 hA3 hg3 hs3; have HB3 := Lib.hid (ext_trans HB1.out (show Below w1.heap.size w1 w3 from ext_only HB2.out hg3 (Nat.le_of_eq HXQ.out))); have HQ3 := Lib.hid hA3; clear hA3 hg3 hs3)
  have HE3 := Lib.hid (show EnArr w3 e up lg sl bk wt mp from Arr.keep HE.out HB3.out)
  have HXL := Lib.hid (show w.heap.size ≤ xq by have := HB1.out.size; have := HXQ.out; omega)
  clear HE HG HA2 HB1 HB2 HXQ hxq hw2
  go_cut [7] from 27 to 48 (fun s7 wc => ∃ A' c', s7 = .slice A' l.length c' ∧ Rps wc A' l ∧ R wc)
  case first =>
    rcases HW.out with ⟨h1, h2, h3⟩ | ⟨h1, h2, h3, h4⟩ | ⟨h1, h2, mb, f, hm, hM, hf, hC⟩
    · have h1' : ((rqGet b).2 == 0) = false := beq_eq_false_iff_ne.2 h1
      go_wp2_with fail
      refine (refusal_in Rq.zero 200 w3).mono ?_
      rintro en w4 ⟨A', c', rfl, h5, h6⟩
      have HH := Lib.hid (show ∃ A'' c'', Value.slice A' 1 c' = .slice A'' l.length c'' ∧ Rps w4 A'' l ∧ R w4 from by subst h2; exact ⟨A', c', rfl, h5, h3 _ (ext_trans HB3.out h6)⟩)
      clear h1 h2 h3 h5 h6 h1'
      go_wp2_with fail
      go_meet
      exact HH.out
    · subst h2
      have e1 : w3.cell? ⟨e, 1, none⟩ = some (.bool false) := HE3.out.cell 1
      have h1a : ((rqGet b).2 == 0) = true := by rw [h1]; rfl
      have h1b : ((rqGet b).2 != 0) = false := by rw [h1]; rfl
      clear h1
      go_wp2_with (refine wpList_load_blk rfl 223 (.tmp 5) rfl xq 223 _ HQ3.out rfl _ Tryz.underlying223 rfl request_size ?_)
      refine (refusal_in (rqGet b).1 230 w3).mono ?_
      rintro en w4 ⟨A', c', rfl, h5, h6⟩
      have HH := Lib.hid (show ∃ A'' c'', Value.slice A' 1 c' = .slice A'' l.length c'' ∧ Rps w4 A'' l ∧ R w4 from by subst h3; exact ⟨A', c', rfl, h5, h4 _ (ext_trans HB3.out h6)⟩)
      clear h1a h1b h3 h4 h5 h6 e1
      go_wp2_with fail
      go_meet
      exact HH.out
    · subst h2
      subst hm
      have e1 : w3.cell? ⟨e, 1, none⟩ = some (.bool true) := HE3.out.cell 1
      have HM := Lib.hid hM; have HC := Lib.hid hC; have HF := Lib.hid hf
      have HK := Lib.hid (rqGet_kind b h1)
      have h1a : ((rqGet b).2 == 0) = true := by rw [h1]; rfl
      have h1b : ((rqGet b).2 != 0) = false := by rw [h1]; rfl
      clear hM hC hf h1
      rcases does_fn HK.out HF.out with rfl | rfl | rfl | rfl
      · go_upto_region 5 with fail
        clear e1 h1a h1b
        obtain ⟨wd, hwd⟩ : ∃ wd, w3.drew = wd := ⟨_, rfl⟩
        have HBd := Lib.hid (show Below w3.heap.size w3 wd by rw [← hwd]; exact ext_drew (Below.refl _ _))
        have HSS := Lib.hid (show ∀ W, Below w3.heap.size w3 W → W.cell? ⟨e, 6, none⟩ = some (.map (some mb)) ∧ W.cell? ⟨xq, 0, none⟩ = some (.int .i64 (rqGet b).1.kind) ∧ W.rangeAt xq 0 (rqV (rqGet b).1).toList ∧ MapL W mb (doesL e) from fun W hW => ⟨(HE3.out.keep hW).cell 6, (HQ3.out.keep hW).cell 0, fun j u hj => by rw [Nat.zero_add, (HQ3.out.keep hW).cell j]; simpa using hj, (HM.out.keep HB3.out).keep hW⟩)
        refine wp_region_held_drew (S := fun w' => w'.cell? ⟨e, 6, none⟩ = some (.map (some mb)) ∧ w'.cell? ⟨xq, 0, none⟩ = some (.int .i64 (rqGet b).1.kind) ∧ w'.rangeAt xq 0 (rqV (rqGet b).1).toList ∧ MapL w' mb (doesL e)) (by kernel_rfl) (by rw [hwd]; exact HSS.out _ HBd.out) (fun hHeld => ?_)
        rw [hwd] at hHeld ⊢
        refine tky 0 (some 27) hHeld ?_
        refine tky 1 (some 28) hHeld ?_
        refine tky 2 (some 29) hHeld ?_
        refine tky 3 (some 30) hHeld ?_
        refine tky 4 (some 31) hHeld ?_
        refine tky 5 (some 32) hHeld ?_
        try simp only [Act.put, List.setIfInBounds_toArray, List.set_cons_zero, List.set_cons_succ]
        refine take_yes (i := 6) (oi := ?o61) (d := some 33) (v := .func (.func 96) #[.pointer (some ⟨e, 0, none⟩)] #[]) ?hi61 (by kernel_rfl) (by kernel_rfl) (by kernel_rfl) (fun _ _ _ h => h) ?hd61 ?hw61 ?hy61 hHeld ?_
        case hi61 => (simp only [List.getElem?_toArray, List.getElem?_cons_zero, List.getElem?_cons_succ]; exact rfl)
        case hd61 => rfl
        case hw61 => rfl
        case hy61 =>
          intro w' hSw
          have h7 := MapV.look1 (z := .nilFunc) hSw.2.2.2 Tryz.underlying209 Tryz.underlying206 (by kernel_rfl) (i := (rqGet b).1.kind) (WalkArith.wf_i64 (by have := HK.out; omega))
          rw [HF.out] at h7
          simp [execOp, h7, Act.eval]
        try simp only [Act.put, List.setIfInBounds_toArray, List.set_cons_zero, List.set_cons_succ]
        refine tk_load 7 (some 34) hHeld 223 (.tmp 5) xq 0 (rqV (rqGet b).1).toList _ (fun w' h => h.2.2.1) Tryz.underlying223 rfl request_size ?_
        try simp only [Act.put, List.setIfInBounds_toArray, List.set_cons_zero, List.set_cons_succ]
        refine wpAnyH_ready (rs := [8]) (by kernel_rfl) (by simp) ?_
        refine AllReadyH.cons rfl (fun K hK => ?_) AllReadyH.nil
        go_simp
        refine (HC.out _ (ext_trans HB3.out HBd.out)).mono ?_
        rintro en w4 ⟨⟨A', c', rfl, h5⟩, h6, ⟨T, h7, h8⟩, h9, h10⟩
        have HH := Lib.hid (show ∃ A'' c'', Value.slice A' l.length c' = .slice A'' l.length c'' ∧ Rps w4 A'' l ∧ R w4 from ⟨A', c', rfl, h5, h6⟩)
        have hq4 : Arr w4 xq 223 (rqV (rqGet b).1) := h7.arr (HQ3.out.keep HBd.out) (fun hx => by have := h8 _ hx; have := HXL.out; omega)
        have HB4 := Lib.hid (show w4.cell? ⟨e, 6, none⟩ = some (.map (some mb)) ∧ w4.cell? ⟨xq, 0, none⟩ = some (.int .i64 (rqGet b).1.kind) ∧ w4.rangeAt xq 0 (rqV (rqGet b).1).toList ∧ MapL w4 mb (doesL e) from ⟨h9, hq4.cell 0, fun j u hj => by rw [Nat.zero_add, hq4.cell j]; simpa using hj, h10⟩)
        clear h5 h6 h7 h8 h9 h10 hq4
        go_wp2_with fail
        refine hK.out _ _ (by exact HB4.out) (fun hH8 => ?_)
        clear hK K
        try simp only [Act.put, List.setIfInBounds_toArray, List.set_cons_zero, List.set_cons_succ]
        refine tky 9 (some 7) hH8 ?_
        try simp only [Act.put, List.setIfInBounds_toArray, List.set_cons_zero, List.set_cons_succ]
        refine wpAnyH_done (by kernel_rfl) ?_ _
        go_wp2_with fail
        go_meet
        exact HH.out
      · go_upto_region 5 with fail
        clear e1 h1a h1b
        obtain ⟨wd, hwd⟩ : ∃ wd, w3.drew = wd := ⟨_, rfl⟩
        have HBd := Lib.hid (show Below w3.heap.size w3 wd by rw [← hwd]; exact ext_drew (Below.refl _ _))
        have HSS := Lib.hid (show ∀ W, Below w3.heap.size w3 W → W.cell? ⟨e, 6, none⟩ = some (.map (some mb)) ∧ W.cell? ⟨xq, 0, none⟩ = some (.int .i64 (rqGet b).1.kind) ∧ W.rangeAt xq 0 (rqV (rqGet b).1).toList ∧ MapL W mb (doesL e) from fun W hW => ⟨(HE3.out.keep hW).cell 6, (HQ3.out.keep hW).cell 0, fun j u hj => by rw [Nat.zero_add, (HQ3.out.keep hW).cell j]; simpa using hj, (HM.out.keep HB3.out).keep hW⟩)
        refine wp_region_held_drew (S := fun w' => w'.cell? ⟨e, 6, none⟩ = some (.map (some mb)) ∧ w'.cell? ⟨xq, 0, none⟩ = some (.int .i64 (rqGet b).1.kind) ∧ w'.rangeAt xq 0 (rqV (rqGet b).1).toList ∧ MapL w' mb (doesL e)) (by kernel_rfl) (by rw [hwd]; exact HSS.out _ HBd.out) (fun hHeld => ?_)
        rw [hwd] at hHeld ⊢
        refine tky 0 (some 27) hHeld ?_
        refine tky 1 (some 28) hHeld ?_
        refine tky 2 (some 29) hHeld ?_
        refine tky 3 (some 30) hHeld ?_
        refine tky 4 (some 31) hHeld ?_
        refine tky 5 (some 32) hHeld ?_
        try simp only [Act.put, List.setIfInBounds_toArray, List.set_cons_zero, List.set_cons_succ]
        refine take_yes (i := 6) (oi := ?o62) (d := some 33) (v := .func (.func 94) #[.pointer (some ⟨e, 0, none⟩)] #[]) ?hi62 (by kernel_rfl) (by kernel_rfl) (by kernel_rfl) (fun _ _ _ h => h) ?hd62 ?hw62 ?hy62 hHeld ?_
        case hi62 => (simp only [List.getElem?_toArray, List.getElem?_cons_zero, List.getElem?_cons_succ]; exact rfl)
        case hd62 => rfl
        case hw62 => rfl
        case hy62 =>
          intro w' hSw
          have h7 := MapV.look1 (z := .nilFunc) hSw.2.2.2 Tryz.underlying209 Tryz.underlying206 (by kernel_rfl) (i := (rqGet b).1.kind) (WalkArith.wf_i64 (by have := HK.out; omega))
          rw [HF.out] at h7
          simp [execOp, h7, Act.eval]
        try simp only [Act.put, List.setIfInBounds_toArray, List.set_cons_zero, List.set_cons_succ]
        refine tk_load 7 (some 34) hHeld 223 (.tmp 5) xq 0 (rqV (rqGet b).1).toList _ (fun w' h => h.2.2.1) Tryz.underlying223 rfl request_size ?_
        try simp only [Act.put, List.setIfInBounds_toArray, List.set_cons_zero, List.set_cons_succ]
        refine wpAnyH_ready (rs := [8]) (by kernel_rfl) (by simp) ?_
        refine AllReadyH.cons rfl (fun K hK => ?_) AllReadyH.nil
        go_simp
        refine (HC.out _ (ext_trans HB3.out HBd.out)).mono ?_
        rintro en w4 ⟨⟨A', c', rfl, h5⟩, h6, ⟨T, h7, h8⟩, h9, h10⟩
        have HH := Lib.hid (show ∃ A'' c'', Value.slice A' l.length c' = .slice A'' l.length c'' ∧ Rps w4 A'' l ∧ R w4 from ⟨A', c', rfl, h5, h6⟩)
        have hq4 : Arr w4 xq 223 (rqV (rqGet b).1) := h7.arr (HQ3.out.keep HBd.out) (fun hx => by have := h8 _ hx; have := HXL.out; omega)
        have HB4 := Lib.hid (show w4.cell? ⟨e, 6, none⟩ = some (.map (some mb)) ∧ w4.cell? ⟨xq, 0, none⟩ = some (.int .i64 (rqGet b).1.kind) ∧ w4.rangeAt xq 0 (rqV (rqGet b).1).toList ∧ MapL w4 mb (doesL e) from ⟨h9, hq4.cell 0, fun j u hj => by rw [Nat.zero_add, hq4.cell j]; simpa using hj, h10⟩)
        clear h5 h6 h7 h8 h9 h10 hq4
        go_wp2_with fail
        refine hK.out _ _ (by exact HB4.out) (fun hH8 => ?_)
        clear hK K
        try simp only [Act.put, List.setIfInBounds_toArray, List.set_cons_zero, List.set_cons_succ]
        refine tky 9 (some 7) hH8 ?_
        try simp only [Act.put, List.setIfInBounds_toArray, List.set_cons_zero, List.set_cons_succ]
        refine wpAnyH_done (by kernel_rfl) ?_ _
        go_wp2_with fail
        go_meet
        exact HH.out
      · go_upto_region 5 with fail
        clear e1 h1a h1b
        obtain ⟨wd, hwd⟩ : ∃ wd, w3.drew = wd := ⟨_, rfl⟩
        have HBd := Lib.hid (show Below w3.heap.size w3 wd by rw [← hwd]; exact ext_drew (Below.refl _ _))
        have HSS := Lib.hid (show ∀ W, Below w3.heap.size w3 W → W.cell? ⟨e, 6, none⟩ = some (.map (some mb)) ∧ W.cell? ⟨xq, 0, none⟩ = some (.int .i64 (rqGet b).1.kind) ∧ W.rangeAt xq 0 (rqV (rqGet b).1).toList ∧ MapL W mb (doesL e) from fun W hW => ⟨(HE3.out.keep hW).cell 6, (HQ3.out.keep hW).cell 0, fun j u hj => by rw [Nat.zero_add, (HQ3.out.keep hW).cell j]; simpa using hj, (HM.out.keep HB3.out).keep hW⟩)
        refine wp_region_held_drew (S := fun w' => w'.cell? ⟨e, 6, none⟩ = some (.map (some mb)) ∧ w'.cell? ⟨xq, 0, none⟩ = some (.int .i64 (rqGet b).1.kind) ∧ w'.rangeAt xq 0 (rqV (rqGet b).1).toList ∧ MapL w' mb (doesL e)) (by kernel_rfl) (by rw [hwd]; exact HSS.out _ HBd.out) (fun hHeld => ?_)
        rw [hwd] at hHeld ⊢
        refine tky 0 (some 27) hHeld ?_
        refine tky 1 (some 28) hHeld ?_
        refine tky 2 (some 29) hHeld ?_
        refine tky 3 (some 30) hHeld ?_
        refine tky 4 (some 31) hHeld ?_
        refine tky 5 (some 32) hHeld ?_
        try simp only [Act.put, List.setIfInBounds_toArray, List.set_cons_zero, List.set_cons_succ]
        refine take_yes (i := 6) (oi := ?o63) (d := some 33) (v := .func (.func 95) #[.pointer (some ⟨e, 0, none⟩)] #[]) ?hi63 (by kernel_rfl) (by kernel_rfl) (by kernel_rfl) (fun _ _ _ h => h) ?hd63 ?hw63 ?hy63 hHeld ?_
        case hi63 => (simp only [List.getElem?_toArray, List.getElem?_cons_zero, List.getElem?_cons_succ]; exact rfl)
        case hd63 => rfl
        case hw63 => rfl
        case hy63 =>
          intro w' hSw
          have h7 := MapV.look1 (z := .nilFunc) hSw.2.2.2 Tryz.underlying209 Tryz.underlying206 (by kernel_rfl) (i := (rqGet b).1.kind) (WalkArith.wf_i64 (by have := HK.out; omega))
          rw [HF.out] at h7
          simp [execOp, h7, Act.eval]
        try simp only [Act.put, List.setIfInBounds_toArray, List.set_cons_zero, List.set_cons_succ]
        refine tk_load 7 (some 34) hHeld 223 (.tmp 5) xq 0 (rqV (rqGet b).1).toList _ (fun w' h => h.2.2.1) Tryz.underlying223 rfl request_size ?_
        try simp only [Act.put, List.setIfInBounds_toArray, List.set_cons_zero, List.set_cons_succ]
        refine wpAnyH_ready (rs := [8]) (by kernel_rfl) (by simp) ?_
        refine AllReadyH.cons rfl (fun K hK => ?_) AllReadyH.nil
        go_simp
        refine (HC.out _ (ext_trans HB3.out HBd.out)).mono ?_
        rintro en w4 ⟨⟨A', c', rfl, h5⟩, h6, ⟨T, h7, h8⟩, h9, h10⟩
        have HH := Lib.hid (show ∃ A'' c'', Value.slice A' l.length c' = .slice A'' l.length c'' ∧ Rps w4 A'' l ∧ R w4 from ⟨A', c', rfl, h5, h6⟩)
        have hq4 : Arr w4 xq 223 (rqV (rqGet b).1) := h7.arr (HQ3.out.keep HBd.out) (fun hx => by have := h8 _ hx; have := HXL.out; omega)
        have HB4 := Lib.hid (show w4.cell? ⟨e, 6, none⟩ = some (.map (some mb)) ∧ w4.cell? ⟨xq, 0, none⟩ = some (.int .i64 (rqGet b).1.kind) ∧ w4.rangeAt xq 0 (rqV (rqGet b).1).toList ∧ MapL w4 mb (doesL e) from ⟨h9, hq4.cell 0, fun j u hj => by rw [Nat.zero_add, hq4.cell j]; simpa using hj, h10⟩)
        clear h5 h6 h7 h8 h9 h10 hq4
        go_wp2_with fail
        refine hK.out _ _ (by exact HB4.out) (fun hH8 => ?_)
        clear hK K
        try simp only [Act.put, List.setIfInBounds_toArray, List.set_cons_zero, List.set_cons_succ]
        refine tky 9 (some 7) hH8 ?_
        try simp only [Act.put, List.setIfInBounds_toArray, List.set_cons_zero, List.set_cons_succ]
        refine wpAnyH_done (by kernel_rfl) ?_ _
        go_wp2_with fail
        go_meet
        exact HH.out
      · go_upto_region 5 with fail
        clear e1 h1a h1b
        obtain ⟨wd, hwd⟩ : ∃ wd, w3.drew = wd := ⟨_, rfl⟩
        have HBd := Lib.hid (show Below w3.heap.size w3 wd by rw [← hwd]; exact ext_drew (Below.refl _ _))
        have HSS := Lib.hid (show ∀ W, Below w3.heap.size w3 W → W.cell? ⟨e, 6, none⟩ = some (.map (some mb)) ∧ W.cell? ⟨xq, 0, none⟩ = some (.int .i64 (rqGet b).1.kind) ∧ W.rangeAt xq 0 (rqV (rqGet b).1).toList ∧ MapL W mb (doesL e) from fun W hW => ⟨(HE3.out.keep hW).cell 6, (HQ3.out.keep hW).cell 0, fun j u hj => by rw [Nat.zero_add, (HQ3.out.keep hW).cell j]; simpa using hj, (HM.out.keep HB3.out).keep hW⟩)
        refine wp_region_held_drew (S := fun w' => w'.cell? ⟨e, 6, none⟩ = some (.map (some mb)) ∧ w'.cell? ⟨xq, 0, none⟩ = some (.int .i64 (rqGet b).1.kind) ∧ w'.rangeAt xq 0 (rqV (rqGet b).1).toList ∧ MapL w' mb (doesL e)) (by kernel_rfl) (by rw [hwd]; exact HSS.out _ HBd.out) (fun hHeld => ?_)
        rw [hwd] at hHeld ⊢
        refine tky 0 (some 27) hHeld ?_
        refine tky 1 (some 28) hHeld ?_
        refine tky 2 (some 29) hHeld ?_
        refine tky 3 (some 30) hHeld ?_
        refine tky 4 (some 31) hHeld ?_
        refine tky 5 (some 32) hHeld ?_
        try simp only [Act.put, List.setIfInBounds_toArray, List.set_cons_zero, List.set_cons_succ]
        refine take_yes (i := 6) (oi := ?o64) (d := some 33) (v := .func (.func 93) #[.pointer (some ⟨e, 0, none⟩)] #[]) ?hi64 (by kernel_rfl) (by kernel_rfl) (by kernel_rfl) (fun _ _ _ h => h) ?hd64 ?hw64 ?hy64 hHeld ?_
        case hi64 => (simp only [List.getElem?_toArray, List.getElem?_cons_zero, List.getElem?_cons_succ]; exact rfl)
        case hd64 => rfl
        case hw64 => rfl
        case hy64 =>
          intro w' hSw
          have h7 := MapV.look1 (z := .nilFunc) hSw.2.2.2 Tryz.underlying209 Tryz.underlying206 (by kernel_rfl) (i := (rqGet b).1.kind) (WalkArith.wf_i64 (by have := HK.out; omega))
          rw [HF.out] at h7
          simp [execOp, h7, Act.eval]
        try simp only [Act.put, List.setIfInBounds_toArray, List.set_cons_zero, List.set_cons_succ]
        refine tk_load 7 (some 34) hHeld 223 (.tmp 5) xq 0 (rqV (rqGet b).1).toList _ (fun w' h => h.2.2.1) Tryz.underlying223 rfl request_size ?_
        try simp only [Act.put, List.setIfInBounds_toArray, List.set_cons_zero, List.set_cons_succ]
        refine wpAnyH_ready (rs := [8]) (by kernel_rfl) (by simp) ?_
        refine AllReadyH.cons rfl (fun K hK => ?_) AllReadyH.nil
        go_simp
        refine (HC.out _ (ext_trans HB3.out HBd.out)).mono ?_
        rintro en w4 ⟨⟨A', c', rfl, h5⟩, h6, ⟨T, h7, h8⟩, h9, h10⟩
        have HH := Lib.hid (show ∃ A'' c'', Value.slice A' l.length c' = .slice A'' l.length c'' ∧ Rps w4 A'' l ∧ R w4 from ⟨A', c', rfl, h5, h6⟩)
        have hq4 : Arr w4 xq 223 (rqV (rqGet b).1) := h7.arr (HQ3.out.keep HBd.out) (fun hx => by have := h8 _ hx; have := HXL.out; omega)
        have HB4 := Lib.hid (show w4.cell? ⟨e, 6, none⟩ = some (.map (some mb)) ∧ w4.cell? ⟨xq, 0, none⟩ = some (.int .i64 (rqGet b).1.kind) ∧ w4.rangeAt xq 0 (rqV (rqGet b).1).toList ∧ MapL w4 mb (doesL e) from ⟨h9, hq4.cell 0, fun j u hj => by rw [Nat.zero_add, hq4.cell j]; simpa using hj, h10⟩)
        clear h5 h6 h7 h8 h9 h10 hq4
        go_wp2_with fail
        refine hK.out _ _ (by exact HB4.out) (fun hH8 => ?_)
        clear hK K
        try simp only [Act.put, List.setIfInBounds_toArray, List.set_cons_zero, List.set_cons_succ]
        refine tky 9 (some 7) hH8 ?_
        try simp only [Act.put, List.setIfInBounds_toArray, List.set_cons_zero, List.set_cons_succ]
        refine wpAnyH_done (by kernel_rfl) ?_ _
        go_wp2_with fail
        go_meet
        exact HH.out
  case rest =>
    obtain ⟨Ar, cr, rfl, hr, hRc⟩ := hcut
    obtain ⟨j0, hj, hz0, hz1, hz2⟩ := info_parts outs_info
    have HRc := Lib.hid hRc
    have HZc := Lib.hid (HS.out wc hRc)
    have HRPc := Lib.hid hr
    clear hRc HW hr
    go_wp2_with fail
    go_loopw [8, 51] (fun v8 i wr => ∃ (j : Nat) (G C : Nat → Nat), j ≤ l.length ∧ i = .int .i64 j ∧ OutsAt wc.heap.size wr v8 ((l.take j).map rpBytes) G C ∧ Below wc.heap.size wc wr) (fun _ i _ => (l.length - intOf i).toNat)
    case atStart => exact ⟨0, fun _ => 0, fun _ => 0, Nat.zero_le _, rfl, OutsAt.nil _ _, Below.refl _ _⟩
    case round =>
      obtain ⟨j, G, C, hjl, rfl, hO, hbr⟩ := hrel
      have hr := HRPc.out.keep hbr
      have hRr := HR.out _ _ HRc.out hbr
      by_cases h2 : j < l.length
      · have HBR := Lib.hid hbr
        obtain ⟨g, off, rfl, hgl, hcell⟩ := hr (fun h0 => by rw [h0] at h2; simp at h2)
        have h2' : (j : Int) < l.length := by omega
        obtain ⟨r, hre⟩ : ∃ r, l[j] = r := ⟨_, rfl⟩
        have HCE := Lib.hid (hcell j h2)
        have HRK := Lib.hid (HOK.out r (by rw [← hre]; exact List.getElem_mem h2))
        rw [hre] at HCE
        have HRE := Lib.hid hre
        have HO := Lib.hid hO; have HRr := Lib.hid hRr
        have HJ := Lib.hid h2
        clear hcell hO hRr hbr hgl hre hr
        obtain ⟨xb, hxb⟩ : ∃ xb, wr.heap.size = xb := ⟨_, rfl⟩
        obtain ⟨w4, hw4⟩ : ∃ w4, wr.alloc (.cells #[.int .u32 0, .int .i64 0, .int .i64 0, .int .u32 0, .int .i64 0, .int .i64 0, .int .i64 0] 228) = w4 := ⟨_, rfl⟩
        have HA4 := Lib.hid (show Arr w4 xb 228 #[.int .u32 0, .int .i64 0, .int .i64 0, .int .u32 0, .int .i64 0, .int .i64 0, .int .i64 0] by rw [← hw4, ← hxb]; exact Arr.fresh wr _ _)
        have HB4 := Lib.hid (show Below wr.heap.size wr w4 by rw [← hw4]; exact ext_alloc (Below.refl _ _) _)
        have HXB := Lib.hid hxb
        go_wp2_with (first | (refine wpList_load_mid rfl 228 (.tmp 53) rfl g (off + j * 7) rfl (rpV r).toList _ HCE.out Tryz.underlying228 rfl reply_size ?_) | (refine wpList_store_blk rfl 228 (.tmp 10) _ rfl xb 228 _ (rpV r) HA4.out rfl rfl rfl reply_size (by simp [rpV, Value.oneCell']) ?_; intro w5 hA5 hg5 hs5; have HB5 := Lib.hid (show Below wr.heap.size wr w5 from ext_only HB4.out hg5 (Nat.le_of_eq HXB.out)); have HA5 := Lib.hid hA5; clear hA5 hg5 hs5) | (refine wpList_load_blk rfl 228 (.tmp 10) rfl xb 228 _ HA5.out rfl _ Tryz.underlying228 rfl reply_size ?_))
        refine (RpPut_in r w5 (HT.out _ (HR.out _ _ HRr.out HB5.out)) HRK.out).mono ?_
        rintro en w6 ⟨A2, c2, rfl, hG2, hc2, hb6⟩
        obtain ⟨g2, rfl, hg2, hbk2⟩ := hG2 (fun h0 => by have := (rpBytes_len r).1; rw [h0] at this; simp at this)
        have HB6 := Lib.hid (ext_trans HB5.out hb6)
        have HG2 := Lib.hid (show wr.heap.size ≤ g2 ∧ Blk w6 5 g2 (rpBytes r) ∧ (rpBytes r).length ≤ c2 from ⟨by have := HB5.out.size; omega, hbk2, hc2⟩)
        have HLJ := Lib.hid (show ((l.take j).map rpBytes).length = j by have := HJ.out; simp; omega)
        have HO6 := Lib.hid (HO.out.keep (ext_alloc HB6.out (.cells #[.slice (some ⟨g2, 0, none⟩) (rpBytes r).length c2] 22)))
        clear hG2 hc2 hg2 hbk2 hb6
        go_wp2_with (refine wpList_append_elem _ rfl (.tmp 60) (.tmp 62) 24 rfl 22 j0 (.slice none 0 0) 1 24 Tryz.underlying24 hj hz0 hz1 hz2 rfl (by decide) u8 ((l.take j).map rpBytes).length _ rfl HO6.out.row ⟨w6.heap.size, 0, none⟩ 1 [.slice (some ⟨g2, 0, none⟩) (rpBytes r).length c2] rfl rfl (news_any w6 _ _) (by intro u hu; simp at hu; subst hu; rfl) (by have := HLJ.out; unfold maxLen; omega) (by have := HLJ.out; omega) ?_; intro ga ca w8 hr8 hg8; have HN8 := Lib.hid (show RowIn _ w8 _ _ _ _ _ ∧ (w6.alloc (.cells #[.slice (some ⟨g2, 0, none⟩) (rpBytes r).length c2] 22)).grownBy w8 u8.ownBlock from ⟨hr8, hg8⟩); clear hr8 hg8)
        go_roundw
        case rel =>
          have hb7 := ext_alloc HB6.out (.cells #[.slice (some ⟨g2, 0, none⟩) (rpBytes r).length c2] 22)
          have ho8 := HO.out.snoc (x := rpBytes r) (g2 := g2) (c2 := c2) (ga := ga) (ca := ca) hb7 (Blk.same HG2.out.2.1 (Below.heap_alloc w6 _ _ (Blk.lt HG2.out.2.1))) HG2.out.1 HBR.out.size HG2.out.2.2 HN8.out.1 HN8.out.2
          have hl8 : (l.take (j + 1)).map rpBytes = (l.take j).map rpBytes ++ [rpBytes r] := by
            rw [List.take_add_one, List.getElem?_eq_getElem HJ.out, HRE.out]; simp
          rw [← hl8, HLJ.out] at ho8
          exact ⟨j + 1, _, _, HJ.out, by go_num, ho8, (ext_trans HBR.out hb7).grown HN8.out.2 (ext_trans HBR.out hb7).size (fun k e => HO.out.new k e)⟩
        case measure => simp [intOf]; omega
      · obtain rfl : j = l.length := by omega
        rw [List.take_length] at hO
        have HF := Lib.hid (show DoOut (l.map rpBytes) R w (.returned u8) wr from ⟨u8, G, C, rfl, ⟨hO.row, fun i hi => ⟨(hO.each i hi).1, (hO.each i hi).2.1, Nat.le_trans HZc.out (hO.each i hi).2.2.1, (hO.each i hi).2.2.2⟩, fun k hk => Nat.le_trans HZc.out (hO.new k hk)⟩, hRr⟩)
        clear hO hr hRr hbr
        go_wp2_with fail
        go_ret
        exact HF.out

end Go.Proofs.YtkmpchffflemcaaGreatDoor.En
end

/- Layer 22: cases.Answer: how many bookings there are. -/
section
set_option linter.unusedVariables false
set_option linter.unusedSimpArgs false
namespace Go.Proofs.YtkmpchffflemcaaGreatDoor.En
open Go.RowKit
open Go.Proofs.YtkmpchffflemcaaGreatDoor.Bk (Comp Parts Shape_in Len_in shape_size)

set_option maxRecDepth 100000 in
set_option maxHeartbeats 4000000 in
theorem AnsCount_in {S : Nat → Prop} {w : World} {b n codes : Nat} {group next clock : Int} {len : Nat} {p : Parts} (h : Comp S w b n codes group next clock len p) (hn : 1 ≤ n) (q : Rq) (hq : RqOk q) (hk : q.kind = 10) :
    Calls Tryz.prog 138 #[.pointer (some ⟨b, 0, none⟩), .agg (rqV q)] w fun e w' => e = .returned (.tuple #[.agg (rpV ⟨q.tag, 10, 0, 0, 0, 0, len⟩), .int .i64 0]) ∧ Below w.heap.size w w' := by
  obtain ⟨xq, hxq⟩ : ∃ xq, w.heap.size = xq := ⟨_, rfl⟩
  obtain ⟨w1, hw1⟩ : ∃ w1, w.alloc (.cells (rqV q) 223) = w1 := ⟨_, rfl⟩
  obtain ⟨xr, hxr⟩ : ∃ xr, w1.heap.size = xr := ⟨_, rfl⟩
  obtain ⟨w2, hw2⟩ : ∃ w2, w1.alloc (.cells #[.int .u32 0, .int .i64 0, .int .i64 0, .int .u32 0, .int .i64 0, .int .i64 0, .int .i64 0] 228) = w2 := ⟨_, rfl⟩
  have HQ2 := Lib.hid (show Arr w2 xq 223 (rqV q) by rw [← hw2, ← hw1, ← hxq]; exact (Arr.fresh w _ _).alloc _)
  have HR2 := Lib.hid (show Arr w2 xr 228 #[.int .u32 0, .int .i64 0, .int .i64 0, .int .u32 0, .int .i64 0, .int .i64 0, .int .i64 0] by rw [← hw2, ← hxr]; exact Arr.fresh w1 _ _)
  have HB2 := Lib.hid (show Below w.heap.size w w2 by rw [← hw2, ← hw1]; exact ext_alloc (ext_alloc (Below.refl _ _) _) _)
  have HXR := Lib.hid (show w.heap.size ≤ xr ∧ xr < w2.heap.size from ⟨by rw [← hxr, ← hw1]; simp, HR2.out.lt⟩)
  have HC2 := Lib.hid (h.below HB2.out)
  have HCK := Lib.hid hq
  have hz : ((n : Int) == 0) = false := beq_eq_false_iff_ne.2 (by omega)
  have hz2 : ¬ (n : Int) = 0 := by omega
  clear h hq
  go_enter Tryz.func138, Tryz.ntmps138
  go_wp2_with fail
  refine (Shape_in HC2.out).mono ?_
  rintro e w3 ⟨rfl, hb3⟩
  have HQ3 := Lib.hid (HQ2.out.keep hb3); have HR3 := Lib.hid (HR2.out.keep hb3); have HC3 := Lib.hid (HC2.out.below hb3); have HB3 := Lib.hid (ext_trans HB2.out hb3)
  clear hb3 HQ2 HR2 HC2
  go_wp2_with (refine wpList_load_blk rfl 223 (.tmp 3) rfl xq 223 _ HQ3.out rfl _ Tryz.underlying223 rfl request_size ?_)
  refine (RqCheck_ok q w3 HCK.out).mono ?_
  rintro e w4 ⟨rfl, hb4⟩
  have HQ4 := Lib.hid (HQ3.out.keep hb4); have HR4 := Lib.hid (HR3.out.keep hb4); have HC4 := Lib.hid (HC3.out.below hb4); have HB4 := Lib.hid (ext_trans HB3.out hb4)
  clear hb4 HQ3 HR3 HC3 hz hz2
  have c0 : w4.cell? ⟨xq, 0, none⟩ = some (.int .i64 10) := by rw [← hk]; exact HQ4.out.cell 0
  have c1 : w4.cell? ⟨xq, 1, none⟩ = some (.int .u32 q.tag) := HQ4.out.cell 1
  obtain ⟨x6, hx6⟩ : ∃ x6, w4.heap.size = x6 := ⟨_, rfl⟩
  obtain ⟨w5, hw5⟩ : ∃ w5, w4.alloc (.cells #[.int .u32 0, .int .i64 0, .int .i64 0, .int .u32 0, .int .i64 0, .int .i64 0, .int .i64 0] 228) = w5 := ⟨_, rfl⟩
  have HA5 := Lib.hid (show Arr w5 x6 228 #[.int .u32 0, .int .i64 0, .int .i64 0, .int .u32 0, .int .i64 0, .int .i64 0, .int .i64 0] by rw [← hw5, ← hx6]; exact Arr.fresh w4 _ _)
  have HB5 := Lib.hid (show Below w4.heap.size w4 w5 by rw [← hw5]; exact ext_alloc (Below.refl _ _) _)
  have HX6 := Lib.hid hx6
  have HLT := Lib.hid (show xr < x6 ∧ w.heap.size ≤ x6 by have := HR4.out.lt; have := HX6.out; have := HB4.out.size; omega)
  go_upto_region 6 with (refine wpList_store_blk rfl 228 _ _ rfl x6 228 _ (rpV ⟨q.tag, 10, 0, 0, 0, 0, 0⟩) HA5.out rfl rfl rfl reply_size (by simp [rpV, Value.oneCell']) ?_; intro w6 hA6 hg6 hs6; have HB6 := Lib.hid (show Below w4.heap.size w4 w6 from ext_only HB5.out hg6 (Nat.le_of_eq HX6.out)); have HA6 := Lib.hid hA6; clear hA6 hg6 hs6)
  obtain ⟨w7, hw7⟩ : ∃ w7, w6.alloc (.cells #[.int .u32 0, .int .i64 0, .int .i64 0] 258) = w7 := ⟨_, rfl⟩
  have hb7 : Below w6.heap.size w6 w7 := by rw [← hw7]; exact ext_alloc (Below.refl _ _) _
  have HA7 := Lib.hid (HA6.out.keep hb7)
  have HB7 := Lib.hid (ext_trans HB6.out hb7)
  have HC7 := Lib.hid (HC4.out.below HB7.out)
  have HR7 := Lib.hid (HR4.out.keep HB7.out)
  have d0 : w7.cell? ⟨xq, 0, none⟩ = some (.int .i64 10) := by rw [← hk]; exact (HQ4.out.keep HB7.out).cell 0
  clear hb7 c0 c1 HC4 HR4 HQ4
  go_wp2_with fail
  refine (Len_in HC7.out).mono ?_
  rintro e wq ⟨rfl, hwq⟩
  rw [hwq]
  clear hwq wq
  have d6 : w7.cell? ⟨x6, 6, none⟩ = some (.int .i64 0) := HA7.out.cell 6
  have m6 := HA7.out.mark 6
  have HAz := Lib.hid (show Arr (w7.setCell ⟨x6, 6, none⟩ (.int .i64 (len : Int))) x6 228 (rpV ⟨q.tag, 10, 0, 0, 0, 0, len⟩) from HA7.out.put 6 _)
  have HNE := Lib.hid (show xr ≠ x6 ∧ w.heap.size ≤ x6 by have := HLT.out; omega)
  have HRz := Lib.hid (show Arr (w7.setCell ⟨x6, 6, none⟩ (.int .i64 (len : Int))) xr 228 _ from HR7.out.other (p := ⟨x6, 6, none⟩) HNE.out.1 _)
  have HBz := Lib.hid (show Below w.heap.size w (w7.setCell ⟨x6, 6, none⟩ (.int .i64 (len : Int))) from (ext_trans HB4.out HB7.out).setCell (by exact HNE.out.2) _)
  go_wp2_with (first | (refine wpList_load_blk rfl 228 (.tmp 6) rfl x6 228 _ HAz.out rfl _ Tryz.underlying228 rfl reply_size ?_) | (refine wpList_store_blk rfl 228 (.tmp 4) _ rfl xr 228 _ (rpV ⟨q.tag, 10, 0, 0, 0, 0, len⟩) HRz.out rfl rfl rfl reply_size (by simp [rpV, Value.oneCell']) ?_; intro w9 hA9 hg9 hs9; have HA9 := Lib.hid hA9; have HG9 := Lib.hid hg9; clear hA9 hg9 hs9))
  exact bodyPost_ret (results_cell_tmp Tryz.results138 _ (by rfl) (run_load_blk 228 HA9.out _ Tryz.underlying228 rfl reply_size)) rfl ⟨rfl, ext_only HBz.out HG9.out HXR.out.1⟩

end Go.Proofs.YtkmpchffflemcaaGreatDoor.En
end
