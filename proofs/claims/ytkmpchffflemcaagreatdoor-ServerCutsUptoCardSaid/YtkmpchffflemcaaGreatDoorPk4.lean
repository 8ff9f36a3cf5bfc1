/- Packed: EnPlain3, Req1, Req2, Req3, Rep1, Rep2, Rep3, ReqC. -/
import Derived.Test.YtkmpchffflemcaaGreatDoorPk3
import Derived.Test.YtkmpchffflemcaaGreatDoorPk5
import Derived.Test.YtkmpchffflemcaaGreatDoorPk6
import Derived.Deep.CutRange
import Derived.Test.YtkmpchffflemcaaGreatDoorPk1
import Derived.Lib.SliceRun
set_option linter.unusedVariables false
set_option linter.unusedSimpArgs false
/- The engine's layers as plain functions: records, requests, replies. No program in sight. -/
section
set_option linter.unusedVariables false
set_option linter.unusedSimpArgs false
namespace Go.Proofs.YtkmpchffflemcaaGreatDoor.En
open Go.Proofs.YtkmpchffflemcaaGreatDoor.Oc (le val)
open Go.Proofs.YtkmpchffflemcaaGreatDoor.Cr (crc)

/-- a record -/
structure Rec where
  kind : Int
  id : Int
  seat : Int
  til : Int
  clock : Int
def recHas (k : Int) : Bool × Bool × Bool × Bool :=
  if k = 1 then (true, true, true, false) else if k = 2 then (true, false, false, false) else if k = 3 then (true, false, false, false)
  else if k = 4 then (true, true, false, false) else if k = 5 then (false, false, false, true) else (false, false, false, false)
def recKind (k : Int) : Bool := decide (1 ≤ k) && decide (k ≤ 5)
def within (there : Bool) (n lo hi : Int) : Bool := if there = true then decide (lo ≤ n) && decide (n ≤ hi) else decide (n = 0)
def Rec.ok (r : Rec) : Bool :=
  recKind r.kind && within (recHas r.kind).1 r.id 1 4294967295 && within (recHas r.kind).2.1 r.seat 0 1023 && within (recHas r.kind).2.2.1 r.til 1 1099511627776 && within (recHas r.kind).2.2.2 r.clock 1 1099511627776
/-- a request -/
structure Rq where
  kind : Int
  tag : Int
  id : Int
  seat : Int
  ttl : Int
def rqHas (k : Int) : Bool × Bool × Bool :=
  if k = 1 then (false, true, true) else if k = 2 then (true, false, false) else if k = 3 then (true, false, false) else if k = 4 then (true, true, false)
  else if k = 5 then (true, false, false) else if k = 6 then (false, true, false) else if k = 7 then (false, false, true) else (false, false, false)
def rqKind (k : Int) : Bool := decide (1 ≤ k) && decide (k ≤ 10)
def Rq.ok (q : Rq) : Bool :=
  rqKind q.kind && decide (0 ≤ q.seat) && decide (q.seat ≤ 65535) && decide (0 ≤ q.ttl) && ((rqHas q.kind).1 || decide (q.id = 0)) && ((rqHas q.kind).2.1 || decide (q.seat = 0)) && ((rqHas q.kind).2.2 || decide (q.ttl = 0))
/-- a reply -/
structure Rp where
  tag : Int
  kind : Int
  err : Int
  id : Int
  seat : Int
  til : Int
  count : Int
/-- which fields: an id, a seat, a tick, a count -/
def rpHas (k e : Int) : Bool × Bool × Bool × Bool :=
  if e ≠ 0 then (false, false, false, false)
  else if k = 1 then (true, false, true, false) else if k = 4 then (false, true, false, false) else if k = 5 then (false, true, true, false)
  else if k = 6 then (true, false, true, false) else if k = 7 then (false, false, true, false) else if k = 8 then (false, false, false, true)
  else if k = 9 then (false, false, false, true) else if k = 10 then (false, false, false, true) else (false, false, false, false)
def Rp.ok (r : Rp) : Bool :=
  decide (0 ≤ r.kind) && decide (r.kind ≤ 10) && decide (0 ≤ r.err) && decide (r.err ≤ 65535) && !(decide (r.kind = 0) && (!decide (r.tag = 0) || !decide (r.err = 200)))
  && (decide (r.id = 0) || (rpHas r.kind r.err).1) && (decide (r.til = 0) || (rpHas r.kind r.err).2.2.1) && decide (0 ≤ r.til)
  && (decide (r.seat = 0) || (rpHas r.kind r.err).2.1 && decide (0 < r.seat) && decide (r.seat ≤ 65535)) && (decide (r.count = 0) || (rpHas r.kind r.err).2.2.2 && decide (0 < r.count) && decide (r.count ≤ 65535))
end Go.Proofs.YtkmpchffflemcaaGreatDoor.En
end

/- Layer 20: requests: which fields a kind has, how each is read. -/
section
set_option linter.unusedVariables false
set_option linter.unusedSimpArgs false
namespace Go.Proofs.YtkmpchffflemcaaGreatDoor.En
open Go.RowKit
open Go.Proofs.YtkmpchffflemcaaGreatDoor.Oc (le val RdAt RdOut tk RFour_in RTwo_in REight_in tk_len val_bound)

/-- a kind's fields, in order -/
def hasL (k : Int) : List Nat := if k = 1 then [1, 2] else if k = 2 then [0] else if k = 3 then [0] else if k = 5 then [0] else if k = 4 then [0, 1] else if k = 6 then [1] else if k = 7 then [2] else []
def intsV (l : List Nat) : Array Value := (l.map fun (n : Nat) => Value.int .i64 ((n : Nat) : Int)).toArray
def HsOut (k : Int) (w : World) (e : Ending) (w' : World) : Prop :=
  ∃ A, e = .returned (.tuple #[.slice A (hasL k).length (hasL k).length, .bool (rqKind k)]) ∧ (hasL k ≠ [] → ∃ g, A = some ⟨g, 0, none⟩ ∧ w.heap.size ≤ g ∧ Arr w' g 3 (intsV (hasL k))) ∧ Below w.heap.size w w'
set_option maxRecDepth 100000 in
set_option maxHeartbeats 4000000 in
theorem rqof_in (k : Int) (w : World) : Calls Tryz.prog 155 #[.int .i64 k] w (HsOut k w) := by
  by_cases h1 : k = 1
  · subst h1
    go_enter Tryz.func155, Tryz.ntmps155
    go_wp2_with fail
    go_ret2
    exact ⟨_, rfl, fun _ => ⟨_, rfl, Nat.le_refl _, Arr.fresh w 3 (intsV (hasL 1))⟩, ext_alloc (Below.refl _ _) _⟩
  by_cases h2 : k = 2
  · subst h2
    go_enter Tryz.func155, Tryz.ntmps155
    go_wp2_with fail
    go_ret2
    exact ⟨_, rfl, fun _ => ⟨_, rfl, Nat.le_refl _, Arr.fresh w 3 (intsV (hasL 2))⟩, ext_alloc (Below.refl _ _) _⟩
  by_cases h3 : k = 3
  · subst h3
    go_enter Tryz.func155, Tryz.ntmps155
    go_wp2_with fail
    go_ret2
    exact ⟨_, rfl, fun _ => ⟨_, rfl, Nat.le_refl _, Arr.fresh w 3 (intsV (hasL 3))⟩, ext_alloc (Below.refl _ _) _⟩
  by_cases h5 : k = 5
  · subst h5
    go_enter Tryz.func155, Tryz.ntmps155
    go_wp2_with fail
    go_ret2
    exact ⟨_, rfl, fun _ => ⟨_, rfl, Nat.le_refl _, Arr.fresh w 3 (intsV (hasL 5))⟩, ext_alloc (Below.refl _ _) _⟩
  by_cases h4 : k = 4
  · subst h4
    go_enter Tryz.func155, Tryz.ntmps155
    go_wp2_with fail
    go_ret2
    exact ⟨_, rfl, fun _ => ⟨_, rfl, Nat.le_refl _, Arr.fresh w 3 (intsV (hasL 4))⟩, ext_alloc (Below.refl _ _) _⟩
  by_cases h6 : k = 6
  · subst h6
    go_enter Tryz.func155, Tryz.ntmps155
    go_wp2_with fail
    go_ret2
    exact ⟨_, rfl, fun _ => ⟨_, rfl, Nat.le_refl _, Arr.fresh w 3 (intsV (hasL 6))⟩, ext_alloc (Below.refl _ _) _⟩
  by_cases h7 : k = 7
  · subst h7
    go_enter Tryz.func155, Tryz.ntmps155
    go_wp2_with fail
    go_ret2
    exact ⟨_, rfl, fun _ => ⟨_, rfl, Nat.le_refl _, Arr.fresh w 3 (intsV (hasL 7))⟩, ext_alloc (Below.refl _ _) _⟩
  by_cases h8 : k = 8
  · subst h8
    go_enter Tryz.func155, Tryz.ntmps155
    go_wp2_with fail
    go_ret2
    exact ⟨none, rfl, fun h => absurd rfl h, Below.refl _ _⟩
  by_cases h9 : k = 9
  · subst h9
    go_enter Tryz.func155, Tryz.ntmps155
    go_wp2_with fail
    go_ret2
    exact ⟨none, rfl, fun h => absurd rfl h, Below.refl _ _⟩
  by_cases h10 : k = 10
  · subst h10
    go_enter Tryz.func155, Tryz.ntmps155
    go_wp2_with fail
    go_ret2
    exact ⟨none, rfl, fun h => absurd rfl h, Below.refl _ _⟩
  have hl : hasL k = [] := by unfold hasL; simp [h1, h2, h3, h4, h5, h6, h7]
  have hr : rqKind k = false := by unfold rqKind; rcases (show k < 1 ∨ 10 < k by omega) with h | h <;> simp <;> omega
  have b1 : (k == 1) = false := beq_eq_false_iff_ne.2 h1
  have b2 : (k == 2) = false := beq_eq_false_iff_ne.2 h2
  have b3 : (k == 3) = false := beq_eq_false_iff_ne.2 h3
  have b4 : (k == 4) = false := beq_eq_false_iff_ne.2 h4
  have b5 : (k == 5) = false := beq_eq_false_iff_ne.2 h5
  have b6 : (k == 6) = false := beq_eq_false_iff_ne.2 h6
  have b7 : (k == 7) = false := beq_eq_false_iff_ne.2 h7
  have b8 : (k == 8) = false := beq_eq_false_iff_ne.2 h8
  have b9 : (k == 9) = false := beq_eq_false_iff_ne.2 h9
  have b10 : (k == 10) = false := beq_eq_false_iff_ne.2 h10
  have HR := Lib.hid hr; have HL := Lib.hid hl
  clear hr hl
  go_enter Tryz.func155, Tryz.ntmps155
  go_wp2_with fail
  go_ret2
  exact ⟨none, by rw [HR.out, HL.out]; rfl, fun h => absurd HL.out h, Below.refl _ _⟩
def fieldsV : Array Value := #[.func (.func 196) #[] #[], .func (.func 197) #[] #[], .func (.func 198) #[] #[],
  .func (.func 199) #[] #[], .func (.func 200) #[] #[], .func (.func 201) #[] #[],
  .func (.func 202) #[] #[], .func (.func 203) #[] #[], .func (.func 205) #[] #[]]
theorem fields_size : (Tryz.prog.info? 334).map (·.size) = some 9 := by kernel_rfl
set_option maxRecDepth 100000 in
set_option maxHeartbeats 1000000 in
theorem fields_in (w : World) : Calls Tryz.prog 156 #[] w fun e w' => e = .returned (.agg fieldsV) ∧ Below w.heap.size w w' := by
  obtain ⟨xf, hxf⟩ : ∃ xf, w.heap.size = xf := ⟨_, rfl⟩
  obtain ⟨w1, hw1⟩ : ∃ w1, w.alloc (.cells #[.nilFunc, .nilFunc, .nilFunc, .nilFunc, .nilFunc, .nilFunc, .nilFunc, .nilFunc, .nilFunc] 334) = w1 := ⟨_, rfl⟩
  have HA1 := Lib.hid (show Arr w1 xf 334 #[.nilFunc, .nilFunc, .nilFunc, .nilFunc, .nilFunc, .nilFunc, .nilFunc, .nilFunc, .nilFunc] by rw [← hw1, ← hxf]; exact Arr.fresh w _ _)
  have HB1 := Lib.hid (show Below w.heap.size w w1 by rw [← hw1]; exact ext_alloc (Below.refl _ _) _)
  have HXF := Lib.hid hxf
  go_enter Tryz.func156, Tryz.ntmps156
  go_wp2_with (refine wpList_store_blk rfl 334 _ _ rfl xf 334 _ fieldsV HA1.out rfl rfl rfl fields_size (by simp [fieldsV, Value.oneCell']) ?_; intro w2 hA2 hg2 hs2; have HA2 := Lib.hid hA2; have HB2 := Lib.hid (ext_only HB1.out hg2 (Nat.le_of_eq HXF.out)); clear hA2 hg2 hs2)
  refine bodyPost_ret (results_cell_row Tryz.results156 _ _ xf 334 fieldsV (0, 0) _ rfl HA2.out Tryz.underlying334 rfl fields_size) rfl ⟨rfl, HB2.out⟩
/-- a request's block -/
def rqV (q : Rq) : Array Value := #[.int .i64 q.kind, .int .u32 q.tag, .int .u32 q.id, .int .i64 q.seat, .int .i64 q.ttl]
def rdF : Nat → Rq × By × Int → Rq × By × Int
  | 0, st => (⟨st.1.kind, st.1.tag, (val (tk st.2.1 st.2.2 4).1 : Nat), st.1.seat, st.1.ttl⟩, (tk st.2.1 st.2.2 4).2.1, (tk st.2.1 st.2.2 4).2.2)
  | 1, st => (⟨st.1.kind, st.1.tag, st.1.id, (val (tk st.2.1 st.2.2 2).1 : Nat), st.1.ttl⟩, (tk st.2.1 st.2.2 2).2.1, (tk st.2.1 st.2.2 2).2.2)
  | _, st => (⟨st.1.kind, st.1.tag, st.1.id, st.1.seat, wrap64 (val (tk st.2.1 st.2.2 8).1 : Nat)⟩, (tk st.2.1 st.2.2 8).2.1, (tk st.2.1 st.2.2 8).2.2)
theorem rq_kind_mk (a b c d e : Int) (x : By) (y : Int) : (((⟨a, b, c, d, e⟩ : Rq), x, y) : Rq × By × Int).1.kind = a := rfl
theorem rdF_kind : ∀ (f : Nat) (st : Rq × By × Int), (rdF f st).1.kind = st.1.kind
  | 0, _ => rq_kind_mk _ _ _ _ _ _ _
  | 1, _ => rq_kind_mk _ _ _ _ _ _ _
  | _ + 2, _ => rq_kind_mk _ _ _ _ _ _ _
/-- a request that is being read -/
structure RqI (W : World) (p qq xq : Nat) (st : Rq × By × Int) : Prop where
  rd : RdAt W p qq st.2.1 st.2.2
  rq : Arr W xq 223 (rqV st.1)
  ne : xq ≠ qq ∧ xq ≠ p
def FgOut (f p qq xq : Nat) (st : Rq × By × Int) (w : World) (e : Ending) (w' : World) : Prop := (∃ u, e = .returned u) ∧ RqI w' p qq xq (rdF f st) ∧ Tch (fun k => k = qq ∨ k = xq) w w'
theorem RqI.turn {w w1 : World} {p qq xq i : Nat} {st : Rq × By × Int} {bs : By} {e : Int} {q : Rq} {v : Value} (h : RqI w p qq xq st) (hr : RdAt w1 p qq bs e) (ht : Tch (· = qq) w w1) (hv : (rqV st.1).setIfInBounds i v = rqV q) : RqI (w1.setCell ⟨xq, i, none⟩ v) p qq xq (q, bs, e) ∧ Tch (fun k => k = qq ∨ k = xq) w (w1.setCell ⟨xq, i, none⟩ v) := by
  have h1 := h.ne
  have h2 := ht.arr h.rq h1.1
  refine ⟨⟨?_, by rw [← hv]; exact h2.put i v, h1⟩, ?_⟩
  · obtain ⟨A, c, a1, a2, a3, a4⟩ := hr.rest.ex
    refine ⟨hr.own.other (p := ⟨xq, i, none⟩) (fun e => h1.2 e.symm) v, A, c, a1.other (p := ⟨xq, i, none⟩) (fun e => h1.1 e.symm) v, ?_, a3, fun g off e => ⟨(a4 g off e).1, fun hne => by
      obtain ⟨cur, hc⟩ := (a4 g off e).2 hne
      have hgx : g ≠ xq := by
        rintro rfl
        unfold Arr at h2
        rw [h2] at hc
        injection hc with hc
        injection hc with _ h5 _
        revert h5; decide
      exact ⟨cur, ((Tch.at w1 xq i v).block g (Array.getElem?_eq_some_iff.1 hc).1 hgx).trans hc⟩⟩⟩
    intro hne
    obtain ⟨g, off, e1, e2, e3⟩ := a2 hne
    have hgx : g ≠ xq := by
      rintro rfl
      have h5 := e3 0 _ (Oc.bytesV_get (List.length_pos_iff.2 hne))
      rw [h2.cell] at h5
      rcases off with _ | _ | _ | _ | _ | off <;> simp [rqV, Oc.byteV] at h5
    exact ⟨g, off, e1, by simpa using e2, fun j u hj => by rw [← e3 j u hj]; exact World.cell?_of_block (a := ⟨g, off + j, none⟩) ((Tch.at w1 xq i v).block g e2 hgx)⟩
  · exact (ht.mono fun k _ e => .inl e).put (p := ⟨xq, i, none⟩) (.inl (.inr rfl)) v

end Go.Proofs.YtkmpchffflemcaaGreatDoor.En
end

/- Layer 20: requests: each field is read. -/
section
set_option linter.unusedVariables false
set_option linter.unusedSimpArgs false
namespace Go.Proofs.YtkmpchffflemcaaGreatDoor.En
open Go.RowKit
open Go.Proofs.YtkmpchffflemcaaGreatDoor.Oc (le val RdAt RdOut tk RFour_in RTwo_in REight_in tk_len val_bound)

set_option maxRecDepth 100000 in
set_option maxHeartbeats 1000000 in
theorem fget0_in (p qq xq : Nat) (st : Rq × By × Int) (w : World) (h : RqI w p qq xq st) : Calls Tryz.prog 197 #[.pointer (some ⟨p, 0, none⟩), .pointer (some ⟨xq, 0, none⟩)] w (FgOut 0 p qq xq st w) := by
  have HH := Lib.hid h
  have HN := Lib.hid (RFour_in p qq st.2.1 st.2.2 w h.rd)
  clear h
  go_enter Tryz.func197, Tryz.ntmps197
  go_wp2_with fail
  refine HN.out.mono ?_
  rintro en w1 ⟨rfl, h2, h3⟩
  have ha := h3.arr HH.out.rq HH.out.ne.1
  have c2 : w1.cell? ⟨xq, 2, none⟩ = some (.int .u32 st.1.id) := ha.cell 2
  have f2 := ha.mark 2
  have HF := Lib.hid (HH.out.turn (i := 2) (q := ⟨st.1.kind, st.1.tag, (val (tk st.2.1 st.2.2 4).1 : Nat), st.1.seat, st.1.ttl⟩) (v := .int .u32 (val (tk st.2.1 st.2.2 4).1 : Nat)) h2 h3 rfl)
  clear h2 h3 ha
  go_wp2_with fail
  exact bodyPost_end (results_none Tryz.results197 _ _ _) rfl ⟨⟨_, rfl⟩, HF.out.1, HF.out.2⟩
set_option maxRecDepth 100000 in
set_option maxHeartbeats 1000000 in
theorem fget1_in (p qq xq : Nat) (st : Rq × By × Int) (w : World) (h : RqI w p qq xq st) : Calls Tryz.prog 200 #[.pointer (some ⟨p, 0, none⟩), .pointer (some ⟨xq, 0, none⟩)] w (FgOut 1 p qq xq st w) := by
  have HH := Lib.hid h
  have HN := Lib.hid (RTwo_in p qq st.2.1 st.2.2 w h.rd)
  have hv := val_bound (tk_len st.2.1 st.2.2 2)
  have hw : IntKind.i64.wrap ((val (tk st.2.1 st.2.2 2).1 : Nat) : Int) = ((val (tk st.2.1 st.2.2 2).1 : Nat) : Int) := by rw [IntKind.wrap_i64]; omega
  clear h hv
  go_enter Tryz.func200, Tryz.ntmps200
  go_wp2_with fail
  refine HN.out.mono ?_
  rintro en w1 ⟨rfl, h2, h3⟩
  have ha := h3.arr HH.out.rq HH.out.ne.1
  have c2 : w1.cell? ⟨xq, 3, none⟩ = some (.int .i64 st.1.seat) := ha.cell 3
  have f2 := ha.mark 3
  have HF := Lib.hid (HH.out.turn (i := 3) (q := ⟨st.1.kind, st.1.tag, st.1.id, (val (tk st.2.1 st.2.2 2).1 : Nat), st.1.ttl⟩) (v := .int .i64 (val (tk st.2.1 st.2.2 2).1 : Nat)) h2 h3 rfl)
  clear h2 h3 ha
  go_wp2_with fail
  exact bodyPost_end (results_none Tryz.results200 _ _ _) rfl ⟨⟨_, rfl⟩, HF.out.1, HF.out.2⟩
set_option maxRecDepth 100000 in
set_option maxHeartbeats 1000000 in
theorem fget2_in (p qq xq : Nat) (st : Rq × By × Int) (w : World) (h : RqI w p qq xq st) : Calls Tryz.prog 203 #[.pointer (some ⟨p, 0, none⟩), .pointer (some ⟨xq, 0, none⟩)] w (FgOut 2 p qq xq st w) := by
  have HH := Lib.hid h
  have HN := Lib.hid (REight_in p qq st.2.1 st.2.2 w h.rd)
  clear h
  go_enter Tryz.func203, Tryz.ntmps203
  go_wp2_with fail
  refine HN.out.mono ?_
  rintro en w1 ⟨rfl, h2, h3⟩
  have ha := h3.arr HH.out.rq HH.out.ne.1
  have c2 : w1.cell? ⟨xq, 4, none⟩ = some (.int .i64 st.1.ttl) := ha.cell 4
  have f2 := ha.mark 4
  have HF := Lib.hid (HH.out.turn (i := 4) (q := ⟨st.1.kind, st.1.tag, st.1.id, st.1.seat, wrap64 (val (tk st.2.1 st.2.2 8).1 : Nat)⟩) (v := .int .i64 (wrap64 (val (tk st.2.1 st.2.2 8).1 : Nat))) h2 h3 rfl)
  clear h2 h3 ha
  go_wp2_with fail
  exact bodyPost_end (results_none Tryz.results203 _ _ _) rfl ⟨⟨_, rfl⟩, HF.out.1, HF.out.2⟩

end Go.Proofs.YtkmpchffflemcaaGreatDoor.En
end

/- Layer 20: requests.Get. -/
section
set_option linter.unusedVariables false
set_option linter.unusedSimpArgs false
namespace Go.Proofs.YtkmpchffflemcaaGreatDoor.En
open Go.RowKit
open Go.Proofs.YtkmpchffflemcaaGreatDoor.Oc (le val Bs okA OfOut Of_in RdAt RdOut tk RByte_in RFour_in REnd_in endE tk_len val_bound)

def rq0 (b : By) : Rq × By × Int := (⟨val (tk b 0 1).1, val (tk (tk b 0 1).2.1 (tk b 0 1).2.2 4).1, 0, 0, 0⟩, (tk (tk b 0 1).2.1 (tk b 0 1).2.2 4).2.1, (tk (tk b 0 1).2.1 (tk b 0 1).2.2 4).2.2)
def rqFold (l : List Nat) (st : Rq × By × Int) : Rq × By × Int := l.foldl (fun s f => rdF f s) st
def rqRun (b : By) : Rq × By × Int := rqFold (hasL (rq0 b).1.kind) (rq0 b)
def Rq.zero : Rq := ⟨0, 0, 0, 0, 0⟩
def rqGet (b : By) : Rq × Int := if rqKind (rq0 b).1.kind = true ∧ endE (rqRun b).2.1 (rqRun b).2.2 = 0 ∧ 0 ≤ (rqRun b).1.ttl then ((rqRun b).1, 0) else (Rq.zero, 200)
def RgtOut (b : By) (w : World) (e : Ending) (w' : World) : Prop := e = .returned (.tuple #[.agg (rqV (rqGet b).1), .int .i64 (rqGet b).2]) ∧ Below w.heap.size w w'
theorem request_size : (Tryz.prog.info? 223).map (·.size) = some 5 := by kernel_rfl
theorem rqFold_take (l : List Nat) (st : Rq × By × Int) {j : Nat} (h : j < l.length) : rqFold (l.take (j + 1)) st = rdF l[j] (rqFold (l.take j) st) := by
  unfold rqFold
  rw [List.take_add_one, List.getElem?_eq_getElem h, List.foldl_append]
  rfl
theorem hasL_le (k : Int) : ∀ f ∈ hasL k, f = 0 ∨ f = 1 ∨ f = 2 := by
  intro f hf
  unfold hasL at hf
  repeat (split at hf; · simp at hf; omega)
  simp at hf
theorem hasL_len (k : Int) : (hasL k).length ≤ 2 := by
  unfold hasL
  repeat (split; · simp)
  simp
theorem rqFold_kind (l : List Nat) : ∀ st : Rq × By × Int, (rqFold l st).1.kind = st.1.kind := by
  induction l with
  | nil => intro st; rfl
  | cons f r ih =>
    intro st
    have h3 : rqFold (f :: r) st = rqFold r (rdF f st) := by unfold rqFold; rw [List.foldl_cons]
    rw [h3, ih (rdF f st), rdF_kind]
theorem RqI.tch {W W' : World} {p qq xq : Nat} {st : Rq × By × Int} (h : RqI W p qq xq st) (hb : Below W.heap.size W W') : RqI W' p qq xq st := ⟨h.rd.keep hb, h.rq.keep hb, h.ne⟩
set_option maxRecDepth 100000 in
set_option maxHeartbeats 8000000 in
theorem RqGet_in (b : By) (A : Option Addr) (c : Nat) (w : World) (hB : Bs w A b) (hA : okA A) (hl : b.length ≤ 70368744177664) : Calls Tryz.prog 101 #[.slice A b.length c] w (RgtOut b w) := by
  obtain ⟨xr, hxr⟩ : ∃ xr, w.heap.size = xr := ⟨_, rfl⟩
  obtain ⟨w1, hw1⟩ : ∃ w1, w.alloc (.cells #[.int .i64 0, .int .u32 0, .int .u32 0, .int .i64 0, .int .i64 0] 223) = w1 := ⟨_, rfl⟩
  have HR1 := Lib.hid (show Arr w1 xr 223 (rqV Rq.zero) by rw [← hw1, ← hxr]; exact Arr.fresh w _ _)
  have hb1 : Below w.heap.size w w1 := by rw [← hw1]; exact ext_alloc (Below.refl _ _) _
  have HB1 := Lib.hid hb1
  have HXR := Lib.hid hxr
  have HOF := Lib.hid (Of_in b A c w1 (hB.keep hb1) hA hl)
  obtain ⟨k, hk⟩ : ∃ k : Nat, val (tk b 0 1).1 = k := ⟨_, rfl⟩
  have hk2 : k < 256 := by rw [← hk]; exact val_bound (tk_len b 0 1)
  have hkw : IntKind.i64.wrap (k : Int) = (k : Int) := by rw [IntKind.wrap_i64]; omega
  obtain ⟨b1, e1, hb1'⟩ : ∃ b1 e1, (tk b 0 1).2 = (b1, e1) := ⟨_, _, rfl⟩
  obtain ⟨tg, htg⟩ : ∃ tg : Nat, val (tk b1 e1 4).1 = tg := ⟨_, rfl⟩
  obtain ⟨b2, e2, hb2'⟩ : ∃ b2 e2, (tk b1 e1 4).2 = (b2, e2) := ⟨_, _, rfl⟩
  have hq0 : rq0 b = (⟨k, tg, 0, 0, 0⟩, b2, e2) := by unfold rq0; rw [hb1', hk, htg]; show (_, (tk b1 e1 4).2.1, (tk b1 e1 4).2.2) = _; rw [hb2']
  have HQ0 := Lib.hid hq0
  have HTK := Lib.hid (show val (tk b 0 1).1 = k ∧ (tk b 0 1).2.1 = b1 ∧ (tk b 0 1).2.2 = e1 ∧ val (tk b1 e1 4).1 = tg ∧ (tk b1 e1 4).2.1 = b2 ∧ (tk b1 e1 4).2.2 = e2 from ⟨hk, by rw [hb1'], by rw [hb1'], htg, by rw [hb2'], by rw [hb2']⟩)
  clear hB hA hl hb1 hq0 hk2 hk hb1' htg hb2'
  go_enter Tryz.func101, Tryz.ntmps101
  go_wp2_with fail
  refine HOF.out.mono ?_
  rintro e w2 ⟨p, qq, rfl, hrd, hp, hq, hb2⟩
  have HR2 := Lib.hid (HR1.out.keep hb2)
  have HB2 := Lib.hid (ext_trans HB1.out hb2)
  have HPQ := Lib.hid (show xr < p ∧ xr < qq by have := HR1.out.lt; omega)
  have HBY := Lib.hid (RByte_in p qq b 0 w2 hrd)
  clear hrd hp hq hb2 HOF HR1
  go_wp2_with fail
  refine HBY.out.mono ?_
  rintro e w3 ⟨rfl, hrd, ht⟩
  rw [HTK.out.2.1, HTK.out.2.2.1] at hrd
  rw [HTK.out.1]
  have HFO := Lib.hid (RFour_in p qq b1 e1 w3 hrd)
  have HR3 := Lib.hid (ht.arr HR2.out (by have := HPQ.out; omega))
  have HT3 := Lib.hid ht
  have HB3 := Lib.hid (show Below w.heap.size w w3 from Tch.fresh ht HB2.out (fun j hj => by have := HPQ.out; have := HXR.out; omega))
  clear hrd ht HBY
  go_wp2_with fail
  refine HFO.out.mono ?_
  rintro e w4 ⟨rfl, hrd, ht⟩
  rw [HTK.out.2.2.2.2.1, HTK.out.2.2.2.2.2] at hrd
  rw [HTK.out.2.2.2.1]
  have HR4 := Lib.hid (ht.arr HR3.out (by have := HPQ.out; omega))
  have HB4 := Lib.hid (show Below w.heap.size w w4 from Tch.fresh ht HB3.out (fun j hj => by have := HPQ.out; have := HXR.out; omega))
  have HRD4 := Lib.hid hrd
  clear hrd ht HFO HT3
  obtain ⟨xq, hxq⟩ : ∃ xq, w4.heap.size = xq := ⟨_, rfl⟩
  obtain ⟨w5, hw5⟩ : ∃ w5, w4.alloc (.cells #[.int .i64 0, .int .u32 0, .int .u32 0, .int .i64 0, .int .i64 0] 223) = w5 := ⟨_, rfl⟩
  have HA5 := Lib.hid (show Arr w5 xq 223 #[.int .i64 0, .int .u32 0, .int .u32 0, .int .i64 0, .int .i64 0] by rw [← hw5, ← hxq]; exact Arr.fresh w4 _ _)
  have HB5 := Lib.hid (show Below w4.heap.size w4 w5 by rw [← hw5]; exact ext_alloc (Below.refl _ _) _)
  have HXQ := Lib.hid hxq
  go_wp2_with (refine wpList_store_blk rfl 223 _ _ rfl xq 223 _ #[.int .i64 (k : Int), .int .u32 (tg : Int), .int .u32 0, .int .i64 0, .int .i64 0] HA5.out rfl rfl rfl request_size (by simp [Value.oneCell']) ?_; intro w6 hA6 hg6 hs6; have HB6 := Lib.hid (show Below w4.heap.size w4 w6 from ext_only HB5.out hg6 (Nat.le_of_eq HXQ.out)); have HQ6 := Lib.hid hA6; have y0 := HQ6.out.cell 0; clear hA6 hg6 hs6)
  refine (rqof_in (k : Int) w6).mono ?_
  rintro e w7 ⟨B, rfl, hG, hb7⟩
  have HG := Lib.hid hG
  have HB7 := Lib.hid (ext_trans HB6.out hb7)
  have HQ7 := Lib.hid (HQ6.out.keep hb7)
  have HQ6L := Lib.hid HQ6.out.lt
  clear hG hb7 y0 HQ6
  go_wp2_with fail
  refine (fields_in w7).mono ?_
  rintro e w8 ⟨rfl, hb8⟩
  have HB8 := Lib.hid (ext_trans HB7.out hb8)
  have HQ8 := Lib.hid (HQ7.out.keep hb8)
  have HG8 := Lib.hid (show hasL k ≠ [] → ∃ g, B = some ⟨g, 0, none⟩ ∧ w6.heap.size ≤ g ∧ Arr w8 g 3 (intsV (hasL k)) from fun h => by obtain ⟨g, h1, h2, h3⟩ := HG.out h; exact ⟨g, h1, h2, h3.keep hb8⟩)
  clear hb8 HQ7 HG
  obtain ⟨xf, hxf⟩ : ∃ xf, w8.heap.size = xf := ⟨_, rfl⟩
  obtain ⟨w9, hw9⟩ : ∃ w9, w8.alloc (.cells #[.nilFunc, .nilFunc, .nilFunc, .nilFunc, .nilFunc, .nilFunc, .nilFunc, .nilFunc, .nilFunc] 334) = w9 := ⟨_, rfl⟩
  have HA9 := Lib.hid (show Arr w9 xf 334 #[.nilFunc, .nilFunc, .nilFunc, .nilFunc, .nilFunc, .nilFunc, .nilFunc, .nilFunc, .nilFunc] by rw [← hw9, ← hxf]; exact Arr.fresh w8 _ _)
  have HB9 := Lib.hid (show Below w8.heap.size w8 w9 by rw [← hw9]; exact ext_alloc (Below.refl _ _) _)
  have HXF := Lib.hid hxf
  go_wp2_with (refine wpList_store_blk rfl 334 _ _ rfl xf 334 _ fieldsV HA9.out rfl rfl rfl fields_size (by simp [fieldsV, Value.oneCell']) ?_; intro wa hAa hga hsa; have HBa := Lib.hid (show Below w8.heap.size w8 wa from ext_only HB9.out hga (Nat.le_of_eq HXF.out)); have HFa := Lib.hid hAa; clear hAa hga hsa)
  have HI := Lib.hid (show RqI wa p qq xq (rq0 b) from by
    rw [HQ0.out]
    have h1 := ext_trans HB8.out HBa.out
    exact ⟨HRD4.out.keep h1, (HQ8.out).keep HBa.out, by obtain ⟨A', c', a1, _⟩ := HRD4.out.rest.ex; have := a1.lt; have := HRD4.out.own.lt; have := HXQ.out; omega⟩)
  have HRa := Lib.hid (HR4.out.keep (ext_trans HB8.out HBa.out))
  have HGa := Lib.hid (show hasL k ≠ [] → ∃ g, B = some ⟨g, 0, none⟩ ∧ w6.heap.size ≤ g ∧ Arr wa g 3 (intsV (hasL k)) from fun h => by obtain ⟨g, h1, h2, h3⟩ := HG8.out h; exact ⟨g, h1, h2, h3.keep HBa.out⟩)
  have HBw := Lib.hid (ext_trans HB4.out (ext_trans HB8.out HBa.out))
  have HN := Lib.hid (show xr < qq ∧ qq < xq ∧ xr < xq ∧ xq < xf ∧ xq < w6.heap.size ∧ qq < xf ∧ w.heap.size ≤ xr from by
    obtain ⟨A', c', a1, _⟩ := HRD4.out.rest.ex
    have h1 := a1.lt; have h2 := HPQ.out; have h3 := HXQ.out; have h4 := HQ8.out.lt; have h5 := HXF.out; have h6 := HB6.out.size; have h7 := HXR.out; have h8 := HA5.out.lt; have h9 := HB5.out.size; have h10 := HB8.out.size
    have h11 := HQ6L.out
    omega)
  have hlen2 := hasL_len (k : Int)
  have HK := Lib.hid (show (rq0 b).1.kind = (k : Int) by rw [HQ0.out])
  clear HQ8 HG8 HA9 HB9 HXF HB8 HBa HA5 HB5 HXQ HRD4 HTK HB4 HB3 HB2 HR2 HR3 HR4 HPQ HQ6L
  go_loopw [28] (fun i wr => ∃ j : Nat, j ≤ (hasL k).length ∧ i = .int .i64 j ∧ RqI wr p qq xq (rqFold ((hasL k).take j) (rq0 b)) ∧ Arr wr xf 334 fieldsV ∧ (hasL k ≠ [] → ∃ g, B = some ⟨g, 0, none⟩ ∧ w6.heap.size ≤ g ∧ Arr wr g 3 (intsV (hasL k))) ∧ Arr wr xr 223 (rqV Rq.zero) ∧ Below w.heap.size w wr) (fun i _ => ((hasL k).length - intOf i).toNat)
  case atStart => exact ⟨0, Nat.zero_le _, rfl, HI.out, HFa.out, HGa.out, HRa.out, HBw.out⟩
  case round =>
    obtain ⟨j, hj, rfl, hi, hf, hg, hr, hb⟩ := hrel
    by_cases h2 : j < (hasL k).length
    · obtain ⟨g, hB', hgz, hga⟩ := hg (fun h0 => by rw [h0] at h2; simp at h2)
      subst hB'
      have h2' : (j : Int) < (hasL k).length := by omega
      obtain ⟨f, hfe⟩ : ∃ f, (hasL k)[j] = f := ⟨_, rfl⟩
      have c1 : wr.cell? ⟨g, j, none⟩ = some (.int .i64 (f : Int)) := by rw [hga.cell, ← hfe]; simp [intsV, h2]
      have hfm := hasL_le k f (by rw [← hfe]; exact List.getElem_mem h2)
      have HST := Lib.hid (rqFold_take (hasL k) (rq0 b) h2)
      rw [hfe] at HST
      have HII := Lib.hid hi; have HFF := Lib.hid hf; have HGG := Lib.hid hga; have HRR := Lib.hid hr; have HBB := Lib.hid hb; have HGZ := Lib.hid hgz
      clear hi hf hg hga hr hb hgz
      have HNX := Lib.hid (show ∀ W', RqI W' p qq xq (rdF f (rqFold ((hasL k).take j) (rq0 b))) → Tch (fun k => k = qq ∨ k = xq) wr W' → RqI W' p qq xq (rqFold ((hasL k).take (j + 1)) (rq0 b)) ∧ Arr W' xf 334 fieldsV ∧ (hasL k ≠ [] → ∃ g', some (⟨g, 0, none⟩ : Addr) = some ⟨g', 0, none⟩ ∧ w6.heap.size ≤ g' ∧ Arr W' g' 3 (intsV (hasL k))) ∧ Arr W' xr 223 (rqV Rq.zero) ∧ Below w.heap.size w W' from fun W' h1 h2 => by
        have hn := HN.out
        have hz := HGZ.out
        exact ⟨by rw [HST.out]; exact h1, h2.arr HFF.out (by omega), fun _ => ⟨g, rfl, hz, h2.arr HGG.out (by omega)⟩, h2.arr HRR.out (by omega), Tch.fresh h2 HBB.out (fun j hj => by omega)⟩)
      have v0 : wr.cell? ⟨xf, 1, none⟩ = some (.func (.func 197) #[] #[]) := HFF.out.cell 1
      have v1 : wr.cell? ⟨xf, 4, none⟩ = some (.func (.func 200) #[] #[]) := HFF.out.cell 4
      have v2 : wr.cell? ⟨xf, 7, none⟩ = some (.func (.func 203) #[] #[]) := HFF.out.cell 7
      rcases hfm with rfl | rfl | rfl
      · have HF := Lib.hid (fget0_in p qq xq _ wr HII.out)
        go_wp2_with fail
        refine HF.out.mono ?_
        rintro e wn ⟨⟨u, rfl⟩, h1, ht⟩
        have HXX := Lib.hid (HNX.out wn h1 ht)
        clear h1 ht c1 v0 v1 v2
        go_wp2_with fail
        go_roundw
        case rel => exact ⟨j + 1, by omega, by go_num, HXX.out⟩
        case measure => simp [intOf]; omega
      · have HF := Lib.hid (fget1_in p qq xq _ wr HII.out)
        go_wp2_with fail
        refine HF.out.mono ?_
        rintro e wn ⟨⟨u, rfl⟩, h1, ht⟩
        have HXX := Lib.hid (HNX.out wn h1 ht)
        clear h1 ht c1 v0 v1 v2
        go_wp2_with fail
        go_roundw
        case rel => exact ⟨j + 1, by omega, by go_num, HXX.out⟩
        case measure => simp [intOf]; omega
      · have HF := Lib.hid (fget2_in p qq xq _ wr HII.out)
        go_wp2_with fail
        refine HF.out.mono ?_
        rintro e wn ⟨⟨u, rfl⟩, h1, ht⟩
        have HXX := Lib.hid (HNX.out wn h1 ht)
        clear h1 ht c1 v0 v1 v2
        go_wp2_with fail
        go_roundw
        case rel => exact ⟨j + 1, by omega, by go_num, HXX.out⟩
        case measure => simp [intOf]; omega
    · obtain rfl : j = (hasL k).length := by omega
      rw [List.take_length] at hi
      have hi' : RqI wr p qq xq (rqRun b) := by unfold rqRun; rw [HK.out]; exact hi
      have hkq : (rqRun b).1.kind = (k : Int) := by unfold rqRun; rw [rqFold_kind]; exact HK.out
      obtain ⟨st, hst⟩ : ∃ st, rqRun b = st := ⟨_, rfl⟩
      have HGT := Lib.hid (show rqGet b = if rqKind (k : Int) = true ∧ endE st.2.1 st.2.2 = 0 ∧ 0 ≤ st.1.ttl then (st.1, 0) else (Rq.zero, 200) by unfold rqGet; rw [HK.out, hst])
      rw [hst] at hi'
      have HII := Lib.hid hi'; have HRR := Lib.hid hr; have HBB := Lib.hid hb
      clear hi hi' hf hg hr hb hst hkq
      obtain ⟨kd, hkd⟩ : ∃ kd, rqKind (k : Int) = kd := ⟨_, rfl⟩
      have HXR2 := Lib.hid (show w.heap.size ≤ xr from HN.out.2.2.2.2.2.2)
      cases kd
      · have HV := Lib.hid (show rqGet b = (Rq.zero, 200) by rw [HGT.out, hkd]; simp)
        go_wp2_with (refine wpList_store_blk rfl 223 (.tmp 2) _ rfl xr 223 _ (rqV Rq.zero) HRR.out rfl rfl rfl request_size (by simp [rqV, Value.oneCell']) ?_; intro wz hAz hgz hsz; have HAz := Lib.hid hAz; have HGz := Lib.hid hgz; clear hAz hgz hsz)
        refine bodyPost_ret (results_cell_tmp Tryz.results101 _ (by rfl) (run_load_blk 223 HAz.out _ Tryz.underlying223 rfl request_size)) rfl ⟨by rw [HV.out]; rfl, ext_only HBB.out HGz.out HXR2.out⟩
      · have HEN := Lib.hid (REnd_in p qq st.2.1 st.2.2 wr HII.out.rd)
        go_wp2_with fail
        refine HEN.out.mono ?_
        rintro e wq ⟨rfl, hwq⟩
        rw [hwq]
        clear hwq wq
        by_cases hee : endE st.2.1 st.2.2 = 0
        · have t4 : wr.cell? ⟨xq, 4, none⟩ = some (.int .i64 st.1.ttl) := HII.out.rq.cell 4
          have HQR := Lib.hid HII.out.rq
          by_cases htt : 0 ≤ st.1.ttl
          · have HV := Lib.hid (show rqGet b = (st.1, 0) by rw [HGT.out, if_pos ⟨hkd, hee, htt⟩])
            have h9 : ¬ st.1.ttl < 0 := by omega
            go_wp2_with (first | (refine wpList_load_blk rfl 223 (.tmp 5) rfl xq 223 _ HQR.out rfl _ Tryz.underlying223 rfl request_size ?_) | (refine wpList_store_blk rfl 223 (.tmp 2) _ rfl xr 223 _ (rqV st.1) HRR.out rfl rfl rfl request_size (by simp [rqV, Value.oneCell']) ?_; intro wz hAz hgz hsz; have HAz := Lib.hid hAz; have HGz := Lib.hid hgz; clear hAz hgz hsz))
            refine bodyPost_ret (results_cell_tmp Tryz.results101 _ (by rfl) (run_load_blk 223 HAz.out _ Tryz.underlying223 rfl request_size)) rfl ⟨by rw [HV.out]; rfl, ext_only HBB.out HGz.out HXR2.out⟩
          · have HV := Lib.hid (show rqGet b = (Rq.zero, 200) by rw [HGT.out, if_neg (fun h => htt h.2.2)])
            have h9 : st.1.ttl < 0 := by omega
            go_wp2_with (refine wpList_store_blk rfl 223 (.tmp 2) _ rfl xr 223 _ (rqV Rq.zero) HRR.out rfl rfl rfl request_size (by simp [rqV, Value.oneCell']) ?_; intro wz hAz hgz hsz; have HAz := Lib.hid hAz; have HGz := Lib.hid hgz; clear hAz hgz hsz)
            refine bodyPost_ret (results_cell_tmp Tryz.results101 _ (by rfl) (run_load_blk 223 HAz.out _ Tryz.underlying223 rfl request_size)) rfl ⟨by rw [HV.out]; rfl, ext_only HBB.out HGz.out HXR2.out⟩
        · have HV := Lib.hid (show rqGet b = (Rq.zero, 200) by rw [HGT.out, if_neg (fun h => hee h.2.1)])
          have hee' : (endE st.2.1 st.2.2 == 0) = false := beq_eq_false_iff_ne.2 hee
          go_wp2_with (refine wpList_store_blk rfl 223 (.tmp 2) _ rfl xr 223 _ (rqV Rq.zero) HRR.out rfl rfl rfl request_size (by simp [rqV, Value.oneCell']) ?_; intro wz hAz hgz hsz; have HAz := Lib.hid hAz; have HGz := Lib.hid hgz; clear hAz hgz hsz)
          refine bodyPost_ret (results_cell_tmp Tryz.results101 _ (by rfl) (run_load_blk 223 HAz.out _ Tryz.underlying223 rfl request_size)) rfl ⟨by rw [HV.out]; rfl, ext_only HBB.out HGz.out HXR2.out⟩

end Go.Proofs.YtkmpchffflemcaaGreatDoor.En
end

/- Replies: which fields a kind has; may a reply be; its bytes. -/
section
set_option linter.unusedVariables false
set_option linter.unusedSimpArgs false
namespace Go.Proofs.YtkmpchffflemcaaGreatDoor.En
open Go.RowKit
open Go.Proofs.YtkmpchffflemcaaGreatDoor.Oc (le val)

def rpT : List Nat := [0, 5, 0, 0, 2, 6, 5, 4, 8, 8, 8]
def RpTab (w : World) : Prop := ∀ i : Nat, i < 11 → w.cell? ⟨0, i, none⟩ = some (.int .i64 (rpT.getD i 0 : Nat))
theorem RpTab.same {w w' : World} (h : RpTab w) (hk : w'.heap[0]? = w.heap[0]?) : RpTab w' := fun i hi => by
  rw [← h i hi]; exact World.cell?_of_block (a := ⟨0, i, none⟩) hk
theorem RpTab.lt {w : World} (h : RpTab w) : 0 < w.heap.size := World.block_lt_of_cell? w _ (h 0 (by decide))
theorem RpTab.keep {w w' : World} (h : RpTab w) (hb : Below w.heap.size w w') : RpTab w' := h.same (hb.block _ h.lt)
theorem RpTab.tch {S : Nat → Prop} {w w' : World} (h : RpTab w) (ht : Tch S w w') (hS : ¬ S 0) : RpTab w' := h.same (ht.block _ h.lt hS)
/-- a kind's flags -/
def rpF (k e : Int) : Nat := if e ≠ 0 then 0 else rpT.getD k.toNat 0
set_option maxRecDepth 100000 in
set_option maxHeartbeats 2000000 in
theorem rpof_in (k e : Int) (w : World) (ht : RpTab w) (hk : 0 ≤ k ∧ k ≤ 10) : Calls Tryz.prog 162 #[.int .i64 k, .int .i64 e] w fun en w' => en = .returned (.int .i64 (rpF k e : Nat)) ∧ w' = w := by
  obtain ⟨n, rfl⟩ : ∃ n : Nat, k = n := ⟨k.toNat, by omega⟩
  have hn : n < 11 := by omega
  have hc := ht n hn
  by_cases h0 : e = 0
  · subst h0
    have HF := Lib.hid (show rpF (n : Int) 0 = rpT.getD n 0 by unfold rpF; simp)
    have h1 : ¬ (n : Int) < 0 := by omega
    have h2 : ¬ (11 : Int) ≤ (n : Int) := by omega
    have h3 : decide ((11 : Int) ≤ (n : Int)) = false := decide_eq_false h2
    have h4 : decide ((n : Int) < 0) = false := decide_eq_false h1
    clear ht hk
    go_enter Tryz.func162, Tryz.ntmps162
    go_wp2_with fail
    go_ret
    exact ⟨by rw [HF.out, List.getD_eq_getElem?_getD]; rfl, rfl⟩
  · have HF := Lib.hid (show rpF (n : Int) e = 0 by unfold rpF; rw [if_pos h0])
    have h1 : (e == 0) = false := beq_eq_false_iff_ne.2 h0
    clear ht hk hc
    go_enter Tryz.func162, Tryz.ntmps162
    go_wp2_with fail
    go_ret
    exact ⟨by rw [HF.out]; rfl, rfl⟩
/-- a reply's block -/
def rpV (r : Rp) : Array Value := #[.int .u32 r.tag, .int .i64 r.kind, .int .i64 r.err, .int .u32 r.id, .int .i64 r.seat, .int .i64 r.til, .int .i64 r.count]
theorem reply_size : (Tryz.prog.info? 228).map (·.size) = some 7 := by kernel_rfl
set_option maxRecDepth 100000 in
set_option maxHeartbeats 2000000 in
theorem in_zero (b f : Nat) (flag : Int) (w : World) (h : w.cell? ⟨b, 0, none⟩ = some (.int .i64 f)) : Calls Tryz.prog 207 #[.int .i64 0, .int .i64 flag, .pointer (some ⟨b, 0, none⟩)] w fun en w' => en = .returned (.bool true) ∧ w' = w := by
  go_enter Tryz.func207, Tryz.ntmps207
  go_wp2_with fail
  go_ret
  exact ⟨rfl, rfl⟩
set_option maxRecDepth 100000 in
set_option maxHeartbeats 2000000 in
theorem in_some (b : Nat) (n : Int) (f flag : Nat) (w : World) (h : w.cell? ⟨b, 0, none⟩ = some (.int .i64 (f : Int))) (hn : 0 < n ∧ n ≤ 65535) (hf : (f = 2 ∧ flag = 2) ∨ (f = 6 ∧ flag = 2) ∨ (f = 8 ∧ flag = 8)) : Calls Tryz.prog 207 #[.int .i64 n, .int .i64 (flag : Int), .pointer (some ⟨b, 0, none⟩)] w fun en w' => en = .returned (.bool true) ∧ w' = w := by
  have h1 : (n == 0) = false := beq_eq_false_iff_ne.2 (by omega)
  have h2 : decide (0 < n) = true := decide_eq_true hn.1
  have h3 : decide (n ≤ 65535) = true := decide_eq_true hn.2
  rcases hf with ⟨rfl, rfl⟩ | ⟨rfl, rfl⟩ | ⟨rfl, rfl⟩
  all_goals
    go_enter Tryz.func207, Tryz.ntmps207
    go_wp2_with fail
    go_ret
    exact ⟨rfl, rfl⟩

end Go.Proofs.YtkmpchffflemcaaGreatDoor.En
end

/- Replies: one that may be is let through. -/
section
set_option linter.unusedVariables false
set_option linter.unusedSimpArgs false
namespace Go.Proofs.YtkmpchffflemcaaGreatDoor.En
open Go.RowKit
open Go.Proofs.YtkmpchffflemcaaGreatDoor.Oc (le val)

/-- a reply that may be, its flags told -/
structure RpOk (r : Rp) (f : Nat) : Prop where
  flag : rpF r.kind r.err = f
  kind : 0 ≤ r.kind ∧ r.kind ≤ 10
  err : 0 ≤ r.err ∧ r.err ≤ 65535
  none : r.kind = 0 → r.tag = 0 ∧ r.err = 200
  tag : 0 ≤ r.tag ∧ r.tag < 4294967296
  id : 0 ≤ r.id ∧ r.id < 4294967296
  idf : r.id = 0 ∨ f = 5
  til : 0 ≤ r.til ∧ r.til < 9223372036854775808
  tilf : r.til = 0 ∨ f = 4 ∨ f = 5 ∨ f = 6
  seat : r.seat = 0 ∨ (0 < r.seat ∧ r.seat ≤ 65535 ∧ (f = 2 ∨ f = 6))
  count : r.count = 0 ∨ (0 < r.count ∧ r.count ≤ 65535 ∧ f = 8)
theorem rpF_is (k e : Int) : (rpF k e = 0 ∨ rpF k e = 2 ∨ rpF k e = 4 ∨ rpF k e = 5 ∨ rpF k e = 6 ∨ rpF k e = 8) := by
  unfold rpF
  split
  · exact .inl rfl
  · rcases Nat.lt_or_ge k.toNat 11 with h | h
    · have : ∀ i : Fin 11, (rpT.getD i.val 0 = 0 ∨ rpT.getD i.val 0 = 2 ∨ rpT.getD i.val 0 = 4 ∨ rpT.getD i.val 0 = 5 ∨ rpT.getD i.val 0 = 6 ∨ rpT.getD i.val 0 = 8) := by decide
      exact this ⟨_, h⟩
    · left; rw [List.getD_eq_getElem?_getD, List.getElem?_eq_none (by simpa [rpT] using h)]; rfl
set_option maxRecDepth 100000 in
set_option maxHeartbeats 16000000 in
theorem RpCheck_ok (r : Rp) (f : Nat) (w : World) (ht : RpTab w) (h : RpOk r f) : Calls Tryz.prog 158 #[.agg (rpV r)] w fun en w' => en = .returned (.int .i64 0) ∧ Below w.heap.size w w' := by
  obtain ⟨xr, hxr⟩ : ∃ xr, w.heap.size = xr := ⟨_, rfl⟩
  obtain ⟨w1, hw1⟩ : ∃ w1, w.alloc (.cells (rpV r) 228) = w1 := ⟨_, rfl⟩
  obtain ⟨xi, hxi⟩ : ∃ xi, w1.heap.size = xi := ⟨_, rfl⟩
  obtain ⟨w2, hw2⟩ : ∃ w2, w1.alloc (.cells #[.int .i64 0] 3) = w2 := ⟨_, rfl⟩
  obtain ⟨w3, hw3⟩ : ∃ w3, w2.setCell ⟨xi, 0, none⟩ (.int .i64 (f : Int)) = w3 := ⟨_, rfl⟩
  have hA1 : Arr w1 xr 228 (rpV r) := by rw [← hw1, ← hxr]; exact Arr.fresh w _ _
  have hb1 : Below w.heap.size w w1 := by rw [← hw1]; exact ext_alloc (Below.refl _ _) _
  have hI2 : Arr w2 xi 3 #[.int .i64 0] := by rw [← hw2, ← hxi]; exact Arr.fresh w1 _ _
  have hA2 : Arr w2 xr 228 (rpV r) := by rw [← hw2]; exact hA1.alloc _
  have hne : xr ≠ xi := by have := hA1.lt; omega
  have hA3 : Arr w3 xr 228 (rpV r) := by rw [← hw3]; exact hA2.other (p := ⟨xi, 0, none⟩) hne _
  have hI3 : Arr w3 xi 3 #[.int .i64 (f : Int)] := by rw [← hw3]; exact hI2.put 0 _
  have HB3 := Lib.hid (show Below w.heap.size w w3 by rw [← hw3, ← hw2]; exact (ext_alloc hb1 _).setCell (by show w.heap.size ≤ xi; rw [← hxi]; exact hb1.size) _)
  have HOF := Lib.hid (rpof_in r.kind r.err w1 (ht.keep hb1) h.kind)
  rw [h.flag] at HOF
  have a1 : w1.cell? ⟨xr, 1, none⟩ = some (.int .i64 r.kind) := hA1.cell 1
  have a2 : w1.cell? ⟨xr, 2, none⟩ = some (.int .i64 r.err) := hA1.cell 2
  have i2 : w2.cell? ⟨xi, 0, none⟩ = some (.int .i64 0) := hI2.cell 0
  have m2 := hI2.mark 0
  have c0 : w3.cell? ⟨xr, 0, none⟩ = some (.int .u32 r.tag) := hA3.cell 0
  have c1 : w3.cell? ⟨xr, 1, none⟩ = some (.int .i64 r.kind) := hA3.cell 1
  have c2 : w3.cell? ⟨xr, 2, none⟩ = some (.int .i64 r.err) := hA3.cell 2
  have c3 : w3.cell? ⟨xr, 3, none⟩ = some (.int .u32 r.id) := hA3.cell 3
  have c4 : w3.cell? ⟨xr, 4, none⟩ = some (.int .i64 r.seat) := hA3.cell 4
  have c5 : w3.cell? ⟨xr, 5, none⟩ = some (.int .i64 r.til) := hA3.cell 5
  have c6 : w3.cell? ⟨xr, 6, none⟩ = some (.int .i64 r.count) := hA3.cell 6
  have ci : w3.cell? ⟨xi, 0, none⟩ = some (.int .i64 (f : Int)) := hI3.cell 0
  have HCI := Lib.hid ci
  have HR := Lib.hid h
  obtain ⟨tg, kd, er, id, st, tl, ct⟩ := r
  have hk := h.kind; have he := h.err; have htl := h.til
  simp only at *
  have k1 : ¬ kd < 0 := by omega
  have k2 : ¬ 10 < kd := by omega
  have e1 : ¬ er < 0 := by omega
  have e2 : ¬ 65535 < er := by omega
  have t1 : ¬ tl < 0 := by omega
  have hff := rpF_is kd er
  rw [h.flag] at hff
  have HSEAT := Lib.hid (show Calls Tryz.prog 207 #[.int .i64 st, .int .i64 2, .pointer (some ⟨xi, 0, none⟩)] w3 fun en w' => en = .returned (.bool true) ∧ w' = w3 from by
    rcases h.seat with h1 | ⟨h1, h2, h3⟩
    · simp only at h1; rw [h1]; exact in_zero xi f 2 w3 ci
    · exact in_some xi st f 2 w3 ci ⟨h1, h2⟩ (by rcases h3 with rfl | rfl; exact .inl ⟨rfl, rfl⟩; exact .inr (.inl ⟨rfl, rfl⟩)))
  have HCNT := Lib.hid (show Calls Tryz.prog 207 #[.int .i64 ct, .int .i64 8, .pointer (some ⟨xi, 0, none⟩)] w3 fun en w' => en = .returned (.bool true) ∧ w' = w3 from by
    rcases h.count with h1 | ⟨h1, h2, h3⟩
    · simp only at h1; rw [h1]; exact in_zero xi f 8 w3 ci
    · exact in_some xi ct f 8 w3 ci ⟨h1, h2⟩ (.inr (.inr ⟨h3, rfl⟩)))
  clear ht h hA1 hA2 hA3 hI2 hI3 hb1 hne hk he htl
  have hid := HR.out.idf; have htf := HR.out.tilf; have hno := HR.out.none
  simp only at hid htf hno
  have hI : id = 0 ∨ (f = 5 ∧ (id == 0) = false) := by
    by_cases h0 : id = 0
    · exact .inl h0
    · exact .inr ⟨hid.resolve_left h0, beq_eq_false_iff_ne.2 h0⟩
  have hT : tl = 0 ∨ ((f = 4 ∨ f = 5 ∨ f = 6) ∧ (tl == 0) = false) := by
    by_cases h0 : tl = 0
    · exact .inl h0
    · exact .inr ⟨htf.resolve_left h0, beq_eq_false_iff_ne.2 h0⟩
  have hK : (kd = 0 ∧ tg = 0 ∧ er = 200 ∧ f = 0) ∨ (kd == 0) = false := by
    by_cases h0 : kd = 0
    · obtain ⟨h1, h2⟩ := hno h0
      refine .inl ⟨h0, h1, h2, ?_⟩
      have h3 := HR.out.flag
      simp only at h3
      rw [h0, h2] at h3
      rw [← h3]; rfl
    · exact .inr (beq_eq_false_iff_ne.2 h0)
  clear hid htf hno HR
  have hall : (kd = 0 ∧ tg = 0 ∧ er = 200 ∧ f = 0 ∧ id = 0 ∧ tl = 0) ∨ ((kd == 0) = false ∧ (f = 0 ∨ f = 2 ∨ f = 8) ∧ id = 0 ∧ tl = 0) ∨ ((kd == 0) = false ∧ (f = 4 ∨ f = 5 ∨ f = 6) ∧ id = 0 ∧ tl = 0) ∨ ((kd == 0) = false ∧ (f = 4 ∨ f = 5 ∨ f = 6) ∧ id = 0 ∧ (tl == 0) = false) ∨ ((kd == 0) = false ∧ f = 5 ∧ (id == 0) = false ∧ tl = 0) ∨ ((kd == 0) = false ∧ f = 5 ∧ (id == 0) = false ∧ (tl == 0) = false) := by
    rcases hK with ⟨q1, q2, q3, q4⟩ | q1
    · refine .inl ⟨q1, q2, q3, q4, ?_, ?_⟩
      · rcases hI with h | ⟨h, _⟩; exact h; omega
      · rcases hT with h | ⟨h, _⟩; exact h; omega
    · rcases hI with h | ⟨h, h'⟩ <;> rcases hT with g | ⟨g, g'⟩
      · rcases hff with h5 | h5 | h5 | h5 | h5 | h5
        · exact .inr (.inl ⟨q1, .inl h5, h, g⟩)
        · exact .inr (.inl ⟨q1, .inr (.inl h5), h, g⟩)
        · exact .inr (.inr (.inl ⟨q1, .inl h5, h, g⟩))
        · exact .inr (.inr (.inl ⟨q1, .inr (.inl h5), h, g⟩))
        · exact .inr (.inr (.inl ⟨q1, .inr (.inr h5), h, g⟩))
        · exact .inr (.inl ⟨q1, .inr (.inr h5), h, g⟩)
      · exact .inr (.inr (.inr (.inl ⟨q1, g, h, g'⟩)))
      · exact .inr (.inr (.inr (.inr (.inl ⟨q1, h, h', g⟩))))
      · exact .inr (.inr (.inr (.inr (.inr ⟨q1, h, h', g'⟩))))
  have HALL := Lib.hid hall
  have HKK := Lib.hid hK
  clear hK hI hT hff hall
  have k1 : decide (kd < 0) = false := decide_eq_false k1
  have k2 : decide (10 < kd) = false := decide_eq_false k2
  have e1 : decide (er < 0) = false := decide_eq_false e1
  have e2 : decide (65535 < er) = false := decide_eq_false e2
  have T1 := Lib.hid (show decide (tl < 0) = false from decide_eq_false t1)
  have C0 := Lib.hid c0; have C3 := Lib.hid c3; have C4 := Lib.hid c4; have C5 := Lib.hid c5; have C6 := Lib.hid c6; have CI := Lib.hid ci
  clear t1 c0 c3 c4 c5 c6 ci
  go_enter Tryz.func158, Tryz.ntmps158
  go_wp2_with fail
  refine HOF.out.mono ?_
  rintro e wq ⟨rfl, hwq⟩
  rw [hwq]
  clear hwq wq
  go_upto_region 5 with fail
  clear a1 a2 i2 m2 hw1 hw2 hw3 hxr hxi k1 k2 e1 e2
  go_cut [30] from 31 to 43 (fun s30 wx => s30 = .bool false ∧ wx = w3)
  case first =>
    have c0 := C0.out
    rcases HKK.out with ⟨h1, h2, h3, _⟩ | h1
    · rw [h1] at c1
      rw [h2] at c0
      rw [h3] at c2
      go_wp2_with fail
      go_meet
      exact ⟨rfl, rfl⟩
    · go_wp2_with fail
      go_meet
      exact ⟨rfl, rfl⟩
  case rest =>
    obtain ⟨rfl, rfl⟩ := hcut
    clear c1 c2 HKK
    go_upto_region 7 with fail
    go_cut [44] from 45 to 67 (fun s44 wx => s44 = .bool false ∧ wx = wc)
    case first =>
      have c3 := C3.out
      have c5 := C5.out
      have ci := CI.out
      have t1 := T1.out
      clear C0 C3 C4 C5 C6 CI T1
      rcases HALL.out with ⟨_, _, _, hf, hi, ht⟩ | ⟨_, hf | hf | hf, hi, ht⟩ | ⟨_, hf | hf | hf, hi, ht⟩ | ⟨_, hf | hf | hf, hi, ht⟩ | ⟨_, hf, hi, ht⟩ | ⟨_, hf, hi, ht⟩
      · have n1 : Go.bits BinOp.and IntKind.i64 0 1 = 0 := by decide
        have n4 : Go.bits BinOp.and IntKind.i64 0 4 = 0 := by decide
        rw [hf] at ci
        push_cast at ci
        clear hf
        rw [hi] at c3
        rw [ht] at c5
        clear t1
        go_wp2_with fail
        go_meet
        exact ⟨rfl, rfl⟩
      · have n1 : Go.bits BinOp.and IntKind.i64 0 1 = 0 := by decide
        have n4 : Go.bits BinOp.and IntKind.i64 0 4 = 0 := by decide
        rw [hf] at ci
        push_cast at ci
        clear hf
        rw [hi] at c3
        rw [ht] at c5
        clear t1
        go_wp2_with fail
        go_meet
        exact ⟨rfl, rfl⟩
      · have n1 : Go.bits BinOp.and IntKind.i64 2 1 = 0 := by decide
        have n4 : Go.bits BinOp.and IntKind.i64 2 4 = 0 := by decide
        rw [hf] at ci
        push_cast at ci
        clear hf
        rw [hi] at c3
        rw [ht] at c5
        clear t1
        go_wp2_with fail
        go_meet
        exact ⟨rfl, rfl⟩
      · have n1 : Go.bits BinOp.and IntKind.i64 8 1 = 0 := by decide
        have n4 : Go.bits BinOp.and IntKind.i64 8 4 = 0 := by decide
        rw [hf] at ci
        push_cast at ci
        clear hf
        rw [hi] at c3
        rw [ht] at c5
        clear t1
        go_wp2_with fail
        go_meet
        exact ⟨rfl, rfl⟩
      · have n1 : Go.bits BinOp.and IntKind.i64 4 1 = 0 := by decide
        have n4 : Go.bits BinOp.and IntKind.i64 4 4 = 4 := by decide
        rw [hf] at ci
        push_cast at ci
        clear hf
        rw [hi] at c3
        rw [ht] at c5
        clear t1
        go_wp2_with fail
        go_meet
        exact ⟨rfl, rfl⟩
      · have n1 : Go.bits BinOp.and IntKind.i64 5 1 = 1 := by decide
        have n4 : Go.bits BinOp.and IntKind.i64 5 4 = 4 := by decide
        rw [hf] at ci
        push_cast at ci
        clear hf
        rw [hi] at c3
        rw [ht] at c5
        clear t1
        go_wp2_with fail
        go_meet
        exact ⟨rfl, rfl⟩
      · have n1 : Go.bits BinOp.and IntKind.i64 6 1 = 0 := by decide
        have n4 : Go.bits BinOp.and IntKind.i64 6 4 = 4 := by decide
        rw [hf] at ci
        push_cast at ci
        clear hf
        rw [hi] at c3
        rw [ht] at c5
        clear t1
        go_wp2_with fail
        go_meet
        exact ⟨rfl, rfl⟩
      · have n1 : Go.bits BinOp.and IntKind.i64 4 1 = 0 := by decide
        have n4 : Go.bits BinOp.and IntKind.i64 4 4 = 4 := by decide
        rw [hf] at ci
        push_cast at ci
        clear hf
        rw [hi] at c3
        have ht2 : (tl != 0) = true := by simp [bne, ht]
        go_wp2_with fail
        go_meet
        exact ⟨rfl, rfl⟩
      · have n1 : Go.bits BinOp.and IntKind.i64 5 1 = 1 := by decide
        have n4 : Go.bits BinOp.and IntKind.i64 5 4 = 4 := by decide
        rw [hf] at ci
        push_cast at ci
        clear hf
        rw [hi] at c3
        have ht2 : (tl != 0) = true := by simp [bne, ht]
        go_wp2_with fail
        go_meet
        exact ⟨rfl, rfl⟩
      · have n1 : Go.bits BinOp.and IntKind.i64 6 1 = 0 := by decide
        have n4 : Go.bits BinOp.and IntKind.i64 6 4 = 4 := by decide
        rw [hf] at ci
        push_cast at ci
        clear hf
        rw [hi] at c3
        have ht2 : (tl != 0) = true := by simp [bne, ht]
        go_wp2_with fail
        go_meet
        exact ⟨rfl, rfl⟩
      · have n1 : Go.bits BinOp.and IntKind.i64 5 1 = 1 := by decide
        have n4 : Go.bits BinOp.and IntKind.i64 5 4 = 4 := by decide
        rw [hf] at ci
        push_cast at ci
        clear hf
        have hi2 : (id != 0) = true := by simp [bne, hi]
        rw [ht] at c5
        clear t1
        go_wp2_with fail
        go_meet
        exact ⟨rfl, rfl⟩
      · have n1 : Go.bits BinOp.and IntKind.i64 5 1 = 1 := by decide
        have n4 : Go.bits BinOp.and IntKind.i64 5 4 = 4 := by decide
        rw [hf] at ci
        push_cast at ci
        clear hf
        have hi2 : (id != 0) = true := by simp [bne, hi]
        have ht2 : (tl != 0) = true := by simp [bne, ht]
        go_wp2_with fail
        go_meet
        exact ⟨rfl, rfl⟩
    case rest =>
      obtain ⟨rfl, rfl⟩ := hcut
      have c4 := C4.out
      have c6 := C6.out
      go_wp2_with fail
      refine HSEAT.out.mono ?_
      rintro e wq ⟨rfl, hwq⟩
      rw [hwq]
      clear hwq wq
      go_wp2_with fail
      refine HCNT.out.mono ?_
      rintro e wq ⟨rfl, hwq⟩
      rw [hwq]
      clear hwq wq
      go_wp2_with fail
      go_ret
      exact ⟨rfl, HB3.out⟩

end Go.Proofs.YtkmpchffflemcaaGreatDoor.En
end

/- Replies: the bytes of one that may be. -/
section
set_option linter.unusedVariables false
set_option linter.unusedSimpArgs false
namespace Go.Proofs.YtkmpchffflemcaaGreatDoor.En
open Go.RowKit
open Go.Proofs.YtkmpchffflemcaaGreatDoor.Oc (le val WrAt AdOut WByte_in WTwo_in WFour_in WEight_in WOut_in ClOut)

/-- the bytes of a reply whose flags are told -/
def rpBf (f : Nat) (tg kd er id st tl ct : Nat) : By :=
  le tg 4 ++ le kd 1 ++ le er 2 ++ (if f = 5 then le id 4 else []) ++ (if f = 2 ∨ f = 6 then le st 2 else []) ++ (if f = 4 ∨ f = 5 ∨ f = 6 then le tl 8 else []) ++ (if f = 8 then le ct 2 else [])
def RpOut (bs : By) (w : World) (e : Ending) (w' : World) : Prop :=
  ∃ A c, e = .returned (.tuple #[.slice A bs.length c, .int .i64 0]) ∧ (bs ≠ [] → ∃ g, A = some ⟨g, 0, none⟩ ∧ w.heap.size ≤ g ∧ Blk w' 5 g bs) ∧ bs.length ≤ c ∧ Below w.heap.size w w'
/-- a reply that is being written -/
structure RwI (w : World) (xr xw : Nat) (V : Array Value) (bs : By) (W : World) : Prop where
  box : Arr W xr 228 V
  wr : WrAt W xw bs
  bel : Below w.heap.size w W
theorem RwI.step {w W W' : World} {xr xw : Nat} {V : Array Value} {bs bs' : By} (h : RwI w xr xw V bs W) (hne : xr ≠ xw ∧ w.heap.size ≤ xw) (h1 : WrAt W' xw bs') (ht : Tch (· = xw) W W') : RwI w xr xw V bs' W' :=
  ⟨ht.arr h.box hne.1, h1, Tch.fresh ht h.bel (fun j hj => by omega)⟩
set_option maxRecDepth 100000 in
set_option maxHeartbeats 16000000 in
theorem RpPut_ok (tg kd er id st tl ct : Nat) (f : Nat) (w : World) (ht : RpTab w) (h : RpOk ⟨tg, kd, er, id, st, tl, ct⟩ f) : Calls Tryz.prog 103 #[.agg (rpV ⟨tg, kd, er, id, st, tl, ct⟩)] w (RpOut (rpBf f tg kd er id st tl ct) w) := by
  obtain ⟨xr, hxr⟩ : ∃ xr, w.heap.size = xr := ⟨_, rfl⟩
  obtain ⟨w1, hw1⟩ : ∃ w1, w.alloc (.cells (rpV ⟨tg, kd, er, id, st, tl, ct⟩) 228) = w1 := ⟨_, rfl⟩
  have hA1 : Arr w1 xr 228 (rpV ⟨tg, kd, er, id, st, tl, ct⟩) := by rw [← hw1, ← hxr]; exact Arr.fresh w _ _
  have hb1 : Below w.heap.size w w1 := by rw [← hw1]; exact ext_alloc (Below.refl _ _) _
  have HCK := Lib.hid (RpCheck_ok ⟨tg, kd, er, id, st, tl, ct⟩ f w1 (ht.keep hb1) h)
  have HA1 := Lib.hid hA1; have HB1 := Lib.hid hb1; have HXR := Lib.hid hxr
  have HT := Lib.hid (show ∀ W, Below w.heap.size w W → RpTab W from fun W hW => ht.keep hW)
  have HR := Lib.hid h
  clear ht h hA1 hb1
  go_enter Tryz.func103, Tryz.ntmps103
  go_wp2_with (refine wpList_load_blk rfl 228 (.tmp 1) rfl xr 228 _ HA1.out rfl _ Tryz.underlying228 rfl reply_size ?_)
  refine HCK.out.mono ?_
  rintro e w2 ⟨rfl, hb2⟩
  have HA2 := Lib.hid (HA1.out.keep hb2)
  have HB2 := Lib.hid (ext_trans HB1.out hb2)
  clear hb2 HCK HA1 HB1 hxr hw1
  obtain ⟨xw, hxw⟩ : ∃ xw, w2.heap.size = xw := ⟨_, rfl⟩
  obtain ⟨w3, hw3⟩ : ∃ w3, w2.alloc (.cells #[.slice none 0 0] 133) = w3 := ⟨_, rfl⟩
  have HNE := Lib.hid (show xr ≠ xw ∧ w.heap.size ≤ xw by have := HA2.out.lt; have := HB2.out.size; omega)
  have HI3 := Lib.hid (show RwI w xr xw (rpV ⟨tg, kd, er, id, st, tl, ct⟩) [] w3 from ⟨by rw [← hw3]; exact HA2.out.alloc _, by rw [← hw3, ← hxw]; exact WrAt.fresh w2, by rw [← hw3]; exact ext_alloc HB2.out _⟩)
  have hk := HR.out.kind; have he := HR.out.err; have htg := HR.out.tag; have hid := HR.out.id; have htl := HR.out.til; have hst := HR.out.seat; have hct := HR.out.count
  simp only at hk he htg hid htl hst hct
  have htg' : tg < 4294967296 := by omega
  have hid' : id < 4294967296 := by omega
  have htl' : tl < 18446744073709551616 := by omega
  have hkd' : kd < 256 := by omega
  have her' : er < 65536 := by omega
  have hst' : st < 65536 := by omega
  have hct' : ct < 65536 := by omega
  have k1 : IntKind.u8.wrap (kd : Int) = (kd : Int) := by rw [IntKind.wrap_u8']; omega
  have k2 : IntKind.u16.wrap (er : Int) = (er : Int) := by rw [IntKind.wrap_u16]; omega
  have k3 : IntKind.u16.wrap (st : Int) = (st : Int) := by rw [IntKind.wrap_u16]; omega
  have k4 : IntKind.u64.wrap (tl : Int) = (tl : Int) := by rw [IntKind.wrap_u64]; omega
  have k5 : IntKind.u16.wrap (ct : Int) = (ct : Int) := by rw [IntKind.wrap_u16]; omega
  have HL := Lib.hid (show tg < 4294967296 ∧ id < 4294967296 ∧ tl < 18446744073709551616 ∧ kd < 256 ∧ er < 65536 ∧ st < 65536 ∧ ct < 65536 from ⟨htg', hid', htl', hkd', her', hst', hct'⟩)
  clear hk he htg hid htl hst hct htg' hid' htl' hkd' her' hst' hct'
  have c0 : w3.cell? ⟨xr, 0, none⟩ = some (.int .u32 tg) := HI3.out.box.cell 0
  have hff := rpF_is kd er
  have hfl := HR.out.flag
  simp only at hfl
  rw [hfl] at hff
  go_wp2_with fail
  rcases hff with rfl | rfl | rfl | rfl | rfl | rfl
  · refine (WFour_in xw tg [] w3 HI3.out.wr (by simp) HL.out.1).mono ?_
    rintro e w4 ⟨⟨u4, rfl⟩, h1, h2⟩
    have HI4 := Lib.hid (HI3.out.step HNE.out h1 h2)
    have d4_1 : w4.cell? ⟨xr, 1, none⟩ = some (.int .i64 kd) := HI4.out.box.cell 1
    clear h1 h2 c0
    go_wp2_with fail
    refine (WByte_in xw kd ([] ++ le tg 4) w4 HI4.out.wr (by simp [Oc.le_len]) HL.out.2.2.2.1).mono ?_
    rintro e w5 ⟨⟨u5, rfl⟩, h1, h2⟩
    have HI5 := Lib.hid (HI4.out.step HNE.out h1 h2)
    have d5_2 : w5.cell? ⟨xr, 2, none⟩ = some (.int .i64 er) := HI5.out.box.cell 2
    clear h1 h2
    clear d4_1
    go_wp2_with fail
    refine (WTwo_in xw er (([] ++ le tg 4) ++ le kd 1) w5 HI5.out.wr (by simp [Oc.le_len]) HL.out.2.2.2.2.1).mono ?_
    rintro e w6 ⟨⟨u6, rfl⟩, h1, h2⟩
    have HI6 := Lib.hid (HI5.out.step HNE.out h1 h2)
    have d6_1 : w6.cell? ⟨xr, 1, none⟩ = some (.int .i64 kd) := HI6.out.box.cell 1
    have d6_2 : w6.cell? ⟨xr, 2, none⟩ = some (.int .i64 er) := HI6.out.box.cell 2
    clear h1 h2
    clear d5_2
    go_wp2_with fail
    refine (rpof_in (kd : Int) (er : Int) w6 (HT.out _ HI6.out.bel) HR.out.kind).mono ?_
    rintro e wq ⟨rfl, hwq⟩
    rw [hwq, hfl]
    clear hwq wq hfl d6_1 d6_2
    have n1 : Go.bits BinOp.and IntKind.i64 0 1 = 0 := by decide
    have n2 : Go.bits BinOp.and IntKind.i64 0 2 = 0 := by decide
    have n4 : Go.bits BinOp.and IntKind.i64 0 4 = 0 := by decide
    have n8 : Go.bits BinOp.and IntKind.i64 0 8 = 0 := by decide
    go_wp2_with fail
    refine (WOut_in xw ((([] ++ le tg 4) ++ le kd 1) ++ le er 2) w6 HI6.out.wr (by simp [Oc.le_len])).mono ?_
    rintro e wz ⟨A, c, rfl, hG, hc, hA1, hA2, hbz⟩
    have HV := Lib.hid (show rpBf 0 tg kd er id st tl ct = (([] ++ le tg 4) ++ le kd 1) ++ le er 2 by simp [rpBf])
    have HF := Lib.hid (show RpOut (rpBf 0 tg kd er id st tl ct) w (.returned (.tuple #[.slice A ((([] ++ le tg 4) ++ le kd 1) ++ le er 2).length c, .int .i64 0])) wz from ⟨A, c, by rw [HV.out], fun hne => by obtain ⟨g, q1, q2, q3⟩ := hG (by rw [← HV.out]; exact hne); exact ⟨g, q1, by have := HI6.out.bel.size; omega, by rw [HV.out]; exact q3⟩, by rw [HV.out]; exact hc, ext_trans HI6.out.bel hbz⟩)
    clear hG hc hA1 hA2 hbz
    go_wp2_with fail
    go_ret2
    exact HF.out
  · refine (WFour_in xw tg [] w3 HI3.out.wr (by simp) HL.out.1).mono ?_
    rintro e w4 ⟨⟨u4, rfl⟩, h1, h2⟩
    have HI4 := Lib.hid (HI3.out.step HNE.out h1 h2)
    have d4_1 : w4.cell? ⟨xr, 1, none⟩ = some (.int .i64 kd) := HI4.out.box.cell 1
    clear h1 h2 c0
    go_wp2_with fail
    refine (WByte_in xw kd ([] ++ le tg 4) w4 HI4.out.wr (by simp [Oc.le_len]) HL.out.2.2.2.1).mono ?_
    rintro e w5 ⟨⟨u5, rfl⟩, h1, h2⟩
    have HI5 := Lib.hid (HI4.out.step HNE.out h1 h2)
    have d5_2 : w5.cell? ⟨xr, 2, none⟩ = some (.int .i64 er) := HI5.out.box.cell 2
    clear h1 h2
    clear d4_1
    go_wp2_with fail
    refine (WTwo_in xw er (([] ++ le tg 4) ++ le kd 1) w5 HI5.out.wr (by simp [Oc.le_len]) HL.out.2.2.2.2.1).mono ?_
    rintro e w6 ⟨⟨u6, rfl⟩, h1, h2⟩
    have HI6 := Lib.hid (HI5.out.step HNE.out h1 h2)
    have d6_1 : w6.cell? ⟨xr, 1, none⟩ = some (.int .i64 kd) := HI6.out.box.cell 1
    have d6_2 : w6.cell? ⟨xr, 2, none⟩ = some (.int .i64 er) := HI6.out.box.cell 2
    clear h1 h2
    clear d5_2
    go_wp2_with fail
    refine (rpof_in (kd : Int) (er : Int) w6 (HT.out _ HI6.out.bel) HR.out.kind).mono ?_
    rintro e wq ⟨rfl, hwq⟩
    rw [hwq, hfl]
    clear hwq wq hfl d6_1 d6_2
    have n1 : Go.bits BinOp.and IntKind.i64 2 1 = 0 := by decide
    have n2 : Go.bits BinOp.and IntKind.i64 2 2 = 2 := by decide
    have n4 : Go.bits BinOp.and IntKind.i64 2 4 = 0 := by decide
    have n8 : Go.bits BinOp.and IntKind.i64 2 8 = 0 := by decide
    have d6_4 : w6.cell? ⟨xr, 4, none⟩ = some (.int .i64 st) := HI6.out.box.cell 4
    go_wp2_with fail
    refine (WTwo_in xw st ((([] ++ le tg 4) ++ le kd 1) ++ le er 2) w6 HI6.out.wr (by simp [Oc.le_len]) HL.out.2.2.2.2.2.1).mono ?_
    rintro e w7 ⟨⟨u7, rfl⟩, h1, h2⟩
    have HI7 := Lib.hid (HI6.out.step HNE.out h1 h2)
    clear h1 h2
    clear d6_4
    go_wp2_with fail
    refine (WOut_in xw (((([] ++ le tg 4) ++ le kd 1) ++ le er 2) ++ le st 2) w7 HI7.out.wr (by simp [Oc.le_len])).mono ?_
    rintro e wz ⟨A, c, rfl, hG, hc, hA1, hA2, hbz⟩
    have HV := Lib.hid (show rpBf 2 tg kd er id st tl ct = ((([] ++ le tg 4) ++ le kd 1) ++ le er 2) ++ le st 2 by simp [rpBf])
    have HF := Lib.hid (show RpOut (rpBf 2 tg kd er id st tl ct) w (.returned (.tuple #[.slice A (((([] ++ le tg 4) ++ le kd 1) ++ le er 2) ++ le st 2).length c, .int .i64 0])) wz from ⟨A, c, by rw [HV.out], fun hne => by obtain ⟨g, q1, q2, q3⟩ := hG (by rw [← HV.out]; exact hne); exact ⟨g, q1, by have := HI7.out.bel.size; omega, by rw [HV.out]; exact q3⟩, by rw [HV.out]; exact hc, ext_trans HI7.out.bel hbz⟩)
    clear hG hc hA1 hA2 hbz
    go_wp2_with fail
    go_ret2
    exact HF.out
  · refine (WFour_in xw tg [] w3 HI3.out.wr (by simp) HL.out.1).mono ?_
    rintro e w4 ⟨⟨u4, rfl⟩, h1, h2⟩
    have HI4 := Lib.hid (HI3.out.step HNE.out h1 h2)
    have d4_1 : w4.cell? ⟨xr, 1, none⟩ = some (.int .i64 kd) := HI4.out.box.cell 1
    clear h1 h2 c0
    go_wp2_with fail
    refine (WByte_in xw kd ([] ++ le tg 4) w4 HI4.out.wr (by simp [Oc.le_len]) HL.out.2.2.2.1).mono ?_
    rintro e w5 ⟨⟨u5, rfl⟩, h1, h2⟩
    have HI5 := Lib.hid (HI4.out.step HNE.out h1 h2)
    have d5_2 : w5.cell? ⟨xr, 2, none⟩ = some (.int .i64 er) := HI5.out.box.cell 2
    clear h1 h2
    clear d4_1
    go_wp2_with fail
    refine (WTwo_in xw er (([] ++ le tg 4) ++ le kd 1) w5 HI5.out.wr (by simp [Oc.le_len]) HL.out.2.2.2.2.1).mono ?_
    rintro e w6 ⟨⟨u6, rfl⟩, h1, h2⟩
    have HI6 := Lib.hid (HI5.out.step HNE.out h1 h2)
    have d6_1 : w6.cell? ⟨xr, 1, none⟩ = some (.int .i64 kd) := HI6.out.box.cell 1
    have d6_2 : w6.cell? ⟨xr, 2, none⟩ = some (.int .i64 er) := HI6.out.box.cell 2
    clear h1 h2
    clear d5_2
    go_wp2_with fail
    refine (rpof_in (kd : Int) (er : Int) w6 (HT.out _ HI6.out.bel) HR.out.kind).mono ?_
    rintro e wq ⟨rfl, hwq⟩
    rw [hwq, hfl]
    clear hwq wq hfl d6_1 d6_2
    have n1 : Go.bits BinOp.and IntKind.i64 4 1 = 0 := by decide
    have n2 : Go.bits BinOp.and IntKind.i64 4 2 = 0 := by decide
    have n4 : Go.bits BinOp.and IntKind.i64 4 4 = 4 := by decide
    have n8 : Go.bits BinOp.and IntKind.i64 4 8 = 0 := by decide
    have d6_5 : w6.cell? ⟨xr, 5, none⟩ = some (.int .i64 tl) := HI6.out.box.cell 5
    go_wp2_with fail
    refine (WEight_in xw tl ((([] ++ le tg 4) ++ le kd 1) ++ le er 2) w6 HI6.out.wr (by simp [Oc.le_len]) HL.out.2.2.1).mono ?_
    rintro e w7 ⟨⟨u7, rfl⟩, h1, h2⟩
    have HI7 := Lib.hid (HI6.out.step HNE.out h1 h2)
    clear h1 h2
    clear d6_5
    go_wp2_with fail
    refine (WOut_in xw (((([] ++ le tg 4) ++ le kd 1) ++ le er 2) ++ le tl 8) w7 HI7.out.wr (by simp [Oc.le_len])).mono ?_
    rintro e wz ⟨A, c, rfl, hG, hc, hA1, hA2, hbz⟩
    have HV := Lib.hid (show rpBf 4 tg kd er id st tl ct = ((([] ++ le tg 4) ++ le kd 1) ++ le er 2) ++ le tl 8 by simp [rpBf])
    have HF := Lib.hid (show RpOut (rpBf 4 tg kd er id st tl ct) w (.returned (.tuple #[.slice A (((([] ++ le tg 4) ++ le kd 1) ++ le er 2) ++ le tl 8).length c, .int .i64 0])) wz from ⟨A, c, by rw [HV.out], fun hne => by obtain ⟨g, q1, q2, q3⟩ := hG (by rw [← HV.out]; exact hne); exact ⟨g, q1, by have := HI7.out.bel.size; omega, by rw [HV.out]; exact q3⟩, by rw [HV.out]; exact hc, ext_trans HI7.out.bel hbz⟩)
    clear hG hc hA1 hA2 hbz
    go_wp2_with fail
    go_ret2
    exact HF.out
  · refine (WFour_in xw tg [] w3 HI3.out.wr (by simp) HL.out.1).mono ?_
    rintro e w4 ⟨⟨u4, rfl⟩, h1, h2⟩
    have HI4 := Lib.hid (HI3.out.step HNE.out h1 h2)
    have d4_1 : w4.cell? ⟨xr, 1, none⟩ = some (.int .i64 kd) := HI4.out.box.cell 1
    clear h1 h2 c0
    go_wp2_with fail
    refine (WByte_in xw kd ([] ++ le tg 4) w4 HI4.out.wr (by simp [Oc.le_len]) HL.out.2.2.2.1).mono ?_
    rintro e w5 ⟨⟨u5, rfl⟩, h1, h2⟩
    have HI5 := Lib.hid (HI4.out.step HNE.out h1 h2)
    have d5_2 : w5.cell? ⟨xr, 2, none⟩ = some (.int .i64 er) := HI5.out.box.cell 2
    clear h1 h2
    clear d4_1
    go_wp2_with fail
    refine (WTwo_in xw er (([] ++ le tg 4) ++ le kd 1) w5 HI5.out.wr (by simp [Oc.le_len]) HL.out.2.2.2.2.1).mono ?_
    rintro e w6 ⟨⟨u6, rfl⟩, h1, h2⟩
    have HI6 := Lib.hid (HI5.out.step HNE.out h1 h2)
    have d6_1 : w6.cell? ⟨xr, 1, none⟩ = some (.int .i64 kd) := HI6.out.box.cell 1
    have d6_2 : w6.cell? ⟨xr, 2, none⟩ = some (.int .i64 er) := HI6.out.box.cell 2
    clear h1 h2
    clear d5_2
    go_wp2_with fail
    refine (rpof_in (kd : Int) (er : Int) w6 (HT.out _ HI6.out.bel) HR.out.kind).mono ?_
    rintro e wq ⟨rfl, hwq⟩
    rw [hwq, hfl]
    clear hwq wq hfl d6_1 d6_2
    have d6_3 : w6.cell? ⟨xr, 3, none⟩ = some (.int .u32 id) := HI6.out.box.cell 3
    have n1 : Go.bits BinOp.and IntKind.i64 5 1 = 1 := by decide
    have n2 : Go.bits BinOp.and IntKind.i64 5 2 = 0 := by decide
    have n4 : Go.bits BinOp.and IntKind.i64 5 4 = 4 := by decide
    have n8 : Go.bits BinOp.and IntKind.i64 5 8 = 0 := by decide
    go_wp2_with fail
    refine (WFour_in xw id ((([] ++ le tg 4) ++ le kd 1) ++ le er 2) w6 HI6.out.wr (by simp [Oc.le_len]) HL.out.2.1).mono ?_
    rintro e w7 ⟨⟨u7, rfl⟩, h1, h2⟩
    have HI7 := Lib.hid (HI6.out.step HNE.out h1 h2)
    have d7_5 : w7.cell? ⟨xr, 5, none⟩ = some (.int .i64 tl) := HI7.out.box.cell 5
    clear h1 h2
    clear d6_3
    go_wp2_with fail
    refine (WEight_in xw tl (((([] ++ le tg 4) ++ le kd 1) ++ le er 2) ++ le id 4) w7 HI7.out.wr (by simp [Oc.le_len]) HL.out.2.2.1).mono ?_
    rintro e w8 ⟨⟨u8, rfl⟩, h1, h2⟩
    have HI8 := Lib.hid (HI7.out.step HNE.out h1 h2)
    clear h1 h2
    clear d7_5
    go_wp2_with fail
    refine (WOut_in xw ((((([] ++ le tg 4) ++ le kd 1) ++ le er 2) ++ le id 4) ++ le tl 8) w8 HI8.out.wr (by simp [Oc.le_len])).mono ?_
    rintro e wz ⟨A, c, rfl, hG, hc, hA1, hA2, hbz⟩
    have HV := Lib.hid (show rpBf 5 tg kd er id st tl ct = (((([] ++ le tg 4) ++ le kd 1) ++ le er 2) ++ le id 4) ++ le tl 8 by simp [rpBf])
    have HF := Lib.hid (show RpOut (rpBf 5 tg kd er id st tl ct) w (.returned (.tuple #[.slice A ((((([] ++ le tg 4) ++ le kd 1) ++ le er 2) ++ le id 4) ++ le tl 8).length c, .int .i64 0])) wz from ⟨A, c, by rw [HV.out], fun hne => by obtain ⟨g, q1, q2, q3⟩ := hG (by rw [← HV.out]; exact hne); exact ⟨g, q1, by have := HI8.out.bel.size; omega, by rw [HV.out]; exact q3⟩, by rw [HV.out]; exact hc, ext_trans HI8.out.bel hbz⟩)
    clear hG hc hA1 hA2 hbz
    go_wp2_with fail
    go_ret2
    exact HF.out
  · refine (WFour_in xw tg [] w3 HI3.out.wr (by simp) HL.out.1).mono ?_
    rintro e w4 ⟨⟨u4, rfl⟩, h1, h2⟩
    have HI4 := Lib.hid (HI3.out.step HNE.out h1 h2)
    have d4_1 : w4.cell? ⟨xr, 1, none⟩ = some (.int .i64 kd) := HI4.out.box.cell 1
    clear h1 h2 c0
    go_wp2_with fail
    refine (WByte_in xw kd ([] ++ le tg 4) w4 HI4.out.wr (by simp [Oc.le_len]) HL.out.2.2.2.1).mono ?_
    rintro e w5 ⟨⟨u5, rfl⟩, h1, h2⟩
    have HI5 := Lib.hid (HI4.out.step HNE.out h1 h2)
    have d5_2 : w5.cell? ⟨xr, 2, none⟩ = some (.int .i64 er) := HI5.out.box.cell 2
    clear h1 h2
    clear d4_1
    go_wp2_with fail
    refine (WTwo_in xw er (([] ++ le tg 4) ++ le kd 1) w5 HI5.out.wr (by simp [Oc.le_len]) HL.out.2.2.2.2.1).mono ?_
    rintro e w6 ⟨⟨u6, rfl⟩, h1, h2⟩
    have HI6 := Lib.hid (HI5.out.step HNE.out h1 h2)
    have d6_1 : w6.cell? ⟨xr, 1, none⟩ = some (.int .i64 kd) := HI6.out.box.cell 1
    have d6_2 : w6.cell? ⟨xr, 2, none⟩ = some (.int .i64 er) := HI6.out.box.cell 2
    clear h1 h2
    clear d5_2
    go_wp2_with fail
    refine (rpof_in (kd : Int) (er : Int) w6 (HT.out _ HI6.out.bel) HR.out.kind).mono ?_
    rintro e wq ⟨rfl, hwq⟩
    rw [hwq, hfl]
    clear hwq wq hfl d6_1 d6_2
    have n1 : Go.bits BinOp.and IntKind.i64 6 1 = 0 := by decide
    have n2 : Go.bits BinOp.and IntKind.i64 6 2 = 2 := by decide
    have n4 : Go.bits BinOp.and IntKind.i64 6 4 = 4 := by decide
    have n8 : Go.bits BinOp.and IntKind.i64 6 8 = 0 := by decide
    have d6_4 : w6.cell? ⟨xr, 4, none⟩ = some (.int .i64 st) := HI6.out.box.cell 4
    go_wp2_with fail
    refine (WTwo_in xw st ((([] ++ le tg 4) ++ le kd 1) ++ le er 2) w6 HI6.out.wr (by simp [Oc.le_len]) HL.out.2.2.2.2.2.1).mono ?_
    rintro e w7 ⟨⟨u7, rfl⟩, h1, h2⟩
    have HI7 := Lib.hid (HI6.out.step HNE.out h1 h2)
    have d7_5 : w7.cell? ⟨xr, 5, none⟩ = some (.int .i64 tl) := HI7.out.box.cell 5
    clear h1 h2
    clear d6_4
    go_wp2_with fail
    refine (WEight_in xw tl (((([] ++ le tg 4) ++ le kd 1) ++ le er 2) ++ le st 2) w7 HI7.out.wr (by simp [Oc.le_len]) HL.out.2.2.1).mono ?_
    rintro e w8 ⟨⟨u8, rfl⟩, h1, h2⟩
    have HI8 := Lib.hid (HI7.out.step HNE.out h1 h2)
    clear h1 h2
    clear d7_5
    go_wp2_with fail
    refine (WOut_in xw ((((([] ++ le tg 4) ++ le kd 1) ++ le er 2) ++ le st 2) ++ le tl 8) w8 HI8.out.wr (by simp [Oc.le_len])).mono ?_
    rintro e wz ⟨A, c, rfl, hG, hc, hA1, hA2, hbz⟩
    have HV := Lib.hid (show rpBf 6 tg kd er id st tl ct = (((([] ++ le tg 4) ++ le kd 1) ++ le er 2) ++ le st 2) ++ le tl 8 by simp [rpBf])
    have HF := Lib.hid (show RpOut (rpBf 6 tg kd er id st tl ct) w (.returned (.tuple #[.slice A ((((([] ++ le tg 4) ++ le kd 1) ++ le er 2) ++ le st 2) ++ le tl 8).length c, .int .i64 0])) wz from ⟨A, c, by rw [HV.out], fun hne => by obtain ⟨g, q1, q2, q3⟩ := hG (by rw [← HV.out]; exact hne); exact ⟨g, q1, by have := HI8.out.bel.size; omega, by rw [HV.out]; exact q3⟩, by rw [HV.out]; exact hc, ext_trans HI8.out.bel hbz⟩)
    clear hG hc hA1 hA2 hbz
    go_wp2_with fail
    go_ret2
    exact HF.out
  · refine (WFour_in xw tg [] w3 HI3.out.wr (by simp) HL.out.1).mono ?_
    rintro e w4 ⟨⟨u4, rfl⟩, h1, h2⟩
    have HI4 := Lib.hid (HI3.out.step HNE.out h1 h2)
    have d4_1 : w4.cell? ⟨xr, 1, none⟩ = some (.int .i64 kd) := HI4.out.box.cell 1
    clear h1 h2 c0
    go_wp2_with fail
    refine (WByte_in xw kd ([] ++ le tg 4) w4 HI4.out.wr (by simp [Oc.le_len]) HL.out.2.2.2.1).mono ?_
    rintro e w5 ⟨⟨u5, rfl⟩, h1, h2⟩
    have HI5 := Lib.hid (HI4.out.step HNE.out h1 h2)
    have d5_2 : w5.cell? ⟨xr, 2, none⟩ = some (.int .i64 er) := HI5.out.box.cell 2
    clear h1 h2
    clear d4_1
    go_wp2_with fail
    refine (WTwo_in xw er (([] ++ le tg 4) ++ le kd 1) w5 HI5.out.wr (by simp [Oc.le_len]) HL.out.2.2.2.2.1).mono ?_
    rintro e w6 ⟨⟨u6, rfl⟩, h1, h2⟩
    have HI6 := Lib.hid (HI5.out.step HNE.out h1 h2)
    have d6_1 : w6.cell? ⟨xr, 1, none⟩ = some (.int .i64 kd) := HI6.out.box.cell 1
    have d6_2 : w6.cell? ⟨xr, 2, none⟩ = some (.int .i64 er) := HI6.out.box.cell 2
    clear h1 h2
    clear d5_2
    go_wp2_with fail
    refine (rpof_in (kd : Int) (er : Int) w6 (HT.out _ HI6.out.bel) HR.out.kind).mono ?_
    rintro e wq ⟨rfl, hwq⟩
    rw [hwq, hfl]
    clear hwq wq hfl d6_1 d6_2
    have n1 : Go.bits BinOp.and IntKind.i64 8 1 = 0 := by decide
    have n2 : Go.bits BinOp.and IntKind.i64 8 2 = 0 := by decide
    have n4 : Go.bits BinOp.and IntKind.i64 8 4 = 0 := by decide
    have n8 : Go.bits BinOp.and IntKind.i64 8 8 = 8 := by decide
    have d6_6 : w6.cell? ⟨xr, 6, none⟩ = some (.int .i64 ct) := HI6.out.box.cell 6
    go_wp2_with fail
    refine (WTwo_in xw ct ((([] ++ le tg 4) ++ le kd 1) ++ le er 2) w6 HI6.out.wr (by simp [Oc.le_len]) HL.out.2.2.2.2.2.2).mono ?_
    rintro e w7 ⟨⟨u7, rfl⟩, h1, h2⟩
    have HI7 := Lib.hid (HI6.out.step HNE.out h1 h2)
    clear h1 h2
    clear d6_6
    go_wp2_with fail
    refine (WOut_in xw (((([] ++ le tg 4) ++ le kd 1) ++ le er 2) ++ le ct 2) w7 HI7.out.wr (by simp [Oc.le_len])).mono ?_
    rintro e wz ⟨A, c, rfl, hG, hc, hA1, hA2, hbz⟩
    have HV := Lib.hid (show rpBf 8 tg kd er id st tl ct = ((([] ++ le tg 4) ++ le kd 1) ++ le er 2) ++ le ct 2 by simp [rpBf])
    have HF := Lib.hid (show RpOut (rpBf 8 tg kd er id st tl ct) w (.returned (.tuple #[.slice A (((([] ++ le tg 4) ++ le kd 1) ++ le er 2) ++ le ct 2).length c, .int .i64 0])) wz from ⟨A, c, by rw [HV.out], fun hne => by obtain ⟨g, q1, q2, q3⟩ := hG (by rw [← HV.out]; exact hne); exact ⟨g, q1, by have := HI7.out.bel.size; omega, by rw [HV.out]; exact q3⟩, by rw [HV.out]; exact hc, ext_trans HI7.out.bel hbz⟩)
    clear hG hc hA1 hA2 hbz
    go_wp2_with fail
    go_ret2
    exact HF.out

end Go.Proofs.YtkmpchffflemcaaGreatDoor.En
end

/- Layer 20: requests.Check of a request that may be. -/
section
set_option linter.unusedVariables false
set_option linter.unusedSimpArgs false
namespace Go.Proofs.YtkmpchffflemcaaGreatDoor.En
open Go.RowKit

/-- a row of numbers that can be read -/
def Nts (w : World) (A : Option Addr) (l : List Nat) : Prop := l ≠ [] → ∃ g off, A = some ⟨g, off, none⟩ ∧ g < w.heap.size ∧ ∀ i (h : i < l.length), w.cell? ⟨g, off + i, none⟩ = some (.int .i64 (l[i] : Int))
theorem Nts.keep {w w' : World} {A : Option Addr} {l : List Nat} (h : Nts w A l) (hb : Below w.heap.size w w') : Nts w' A l := fun hne => by
  obtain ⟨g, off, h1, h2, h3⟩ := h hne
  exact ⟨g, off, h1, Nat.lt_of_lt_of_le h2 hb.size, fun i hi => (hb.cell (p := ⟨g, off + i, none⟩) h2).trans (h3 i hi)⟩
set_option maxRecDepth 100000 in
set_option maxHeartbeats 2000000 in
theorem Index_yes (A : Option Addr) (c x : Nat) (l : List Nat) (w : World) (h : Nts w A l) (hx : x ∈ l) (hl : l.length ≤ 1000) : Calls Tryz.prog 244 #[.slice A l.length c, .int .i64 (x : Int)] w fun e w' => (∃ i : Nat, e = .returned (.int .i64 i)) ∧ w' = w := by
  obtain ⟨g, off, rfl, _, hc⟩ := h (fun h0 => by rw [h0] at hx; cases hx)
  have HC := Lib.hid hc; have HX := Lib.hid hx
  clear h hc hx
  go_enter Tryz.func244, Tryz.ntmps244
  go_wp2_with fail
  go_loopw [8] (fun i wr => ∃ j : Nat, j ≤ l.length ∧ i = .int .i64 j ∧ (∀ q, q < j → l.getD q 0 ≠ x) ∧ wr = w) (fun i _ => (l.length - intOf i).toNat)
  case atStart => exact ⟨0, Nat.zero_le _, rfl, fun q hq => by omega, rfl⟩
  case round =>
    obtain ⟨j, hj, rfl, hn, rfl⟩ := hrel
    by_cases h2 : j < l.length
    · have h2' : (j : Int) < l.length := by omega
      have c1 : wr.cell? ⟨g, off + j, none⟩ = some (.int .i64 (l[j] : Int)) := HC.out j h2
      obtain ⟨y, hy⟩ : ∃ y, l[j] = y := ⟨_, rfl⟩
      rw [hy] at c1
      have HN := Lib.hid hn
      have HY := Lib.hid (show l.getD j 0 = y by rw [← hy]; simp [h2])
      clear hn hy
      by_cases hxy : x = y
      · have hb : ((x : Int) == (y : Int)) = true := by rw [hxy]; simp
        clear hxy
        go_wp2_with fail
        go_ret
        exact ⟨⟨j, rfl⟩, rfl⟩
      · have hb : ((x : Int) == (y : Int)) = false := by rw [beq_eq_false_iff_ne]; omega
        have HXY := Lib.hid hxy
        clear hxy
        go_wp2_with fail
        go_roundw
        case rel =>
          refine ⟨j + 1, by omega, by go_num, fun q hq => ?_, by first | rfl | trivial⟩
          rcases Nat.lt_or_ge q j with h | h
          · exact HN.out q h
          · have h5 : q = j := by omega
            rw [h5, HY.out]
            exact fun e => HXY.out e.symm
        case measure => simp [intOf]; omega
    · exfalso
      obtain ⟨q, hq, he⟩ := List.getElem_of_mem HX.out
      exact hn q (by omega) (by simp [hq, he])
set_option maxRecDepth 100000 in
set_option maxHeartbeats 2000000 in
theorem Contains_yes (A : Option Addr) (c x : Nat) (l : List Nat) (w : World) (h : Nts w A l) (hx : x ∈ l) (hl : l.length ≤ 1000) : Calls Tryz.prog 210 #[.slice A l.length c, .int .i64 (x : Int)] w fun e w' => e = .returned (.bool true) ∧ w' = w := by
  have HI := Lib.hid (Index_yes A c x l w h hx hl)
  clear h hx
  go_enter Tryz.func210, Tryz.ntmps210
  go_wp2_with fail
  refine HI.out.mono ?_
  rintro e wq ⟨⟨i, rfl⟩, hwq⟩
  rw [hwq]
  clear hwq wq
  have h0 : decide ((0 : Int) ≤ (i : Int)) = true := decide_eq_true (by omega)
  go_wp2_with fail
  go_ret
  exact ⟨rfl, rfl⟩
set_option maxRecDepth 100000 in
set_option maxHeartbeats 2000000 in
theorem zero_id (q : Rq) (w : World) : Calls Tryz.prog 198 #[.agg (rqV q)] w fun e w' => e = .returned (.bool (q.id == 0)) ∧ Below w.heap.size w w' := by
  obtain ⟨xq, hxq⟩ : ∃ xq, w.heap.size = xq := ⟨_, rfl⟩
  obtain ⟨w1, hw1⟩ : ∃ w1, w.alloc (.cells (rqV q) 223) = w1 := ⟨_, rfl⟩
  have hA : Arr w1 xq 223 (rqV q) := by rw [← hw1, ← hxq]; exact Arr.fresh w _ _
  have c2 : w1.cell? ⟨xq, 2, none⟩ = some (.int .u32 q.id) := hA.cell 2
  have HB := Lib.hid (show Below w.heap.size w w1 by rw [← hw1]; exact ext_alloc (Below.refl _ _) _)
  clear hA
  go_enter Tryz.func198, Tryz.ntmps198
  go_wp2_with fail
  go_ret
  exact ⟨rfl, HB.out⟩
set_option maxRecDepth 100000 in
set_option maxHeartbeats 2000000 in
theorem zero_seat (q : Rq) (w : World) : Calls Tryz.prog 201 #[.agg (rqV q)] w fun e w' => e = .returned (.bool (q.seat == 0)) ∧ Below w.heap.size w w' := by
  obtain ⟨xq, hxq⟩ : ∃ xq, w.heap.size = xq := ⟨_, rfl⟩
  obtain ⟨w1, hw1⟩ : ∃ w1, w.alloc (.cells (rqV q) 223) = w1 := ⟨_, rfl⟩
  have hA : Arr w1 xq 223 (rqV q) := by rw [← hw1, ← hxq]; exact Arr.fresh w _ _
  have c2 : w1.cell? ⟨xq, 3, none⟩ = some (.int .i64 q.seat) := hA.cell 3
  have HB := Lib.hid (show Below w.heap.size w w1 by rw [← hw1]; exact ext_alloc (Below.refl _ _) _)
  clear hA
  go_enter Tryz.func201, Tryz.ntmps201
  go_wp2_with fail
  go_ret
  exact ⟨rfl, HB.out⟩
set_option maxRecDepth 100000 in
set_option maxHeartbeats 2000000 in
theorem zero_ttl (q : Rq) (w : World) : Calls Tryz.prog 205 #[.agg (rqV q)] w fun e w' => e = .returned (.bool (q.ttl == 0)) ∧ Below w.heap.size w w' := by
  obtain ⟨xq, hxq⟩ : ∃ xq, w.heap.size = xq := ⟨_, rfl⟩
  obtain ⟨w1, hw1⟩ : ∃ w1, w.alloc (.cells (rqV q) 223) = w1 := ⟨_, rfl⟩
  have hA : Arr w1 xq 223 (rqV q) := by rw [← hw1, ← hxq]; exact Arr.fresh w _ _
  have c2 : w1.cell? ⟨xq, 4, none⟩ = some (.int .i64 q.ttl) := hA.cell 4
  have HB := Lib.hid (show Below w.heap.size w w1 by rw [← hw1]; exact ext_alloc (Below.refl _ _) _)
  clear hA
  go_enter Tryz.func205, Tryz.ntmps205
  go_wp2_with fail
  go_ret
  exact ⟨rfl, HB.out⟩
/-- a request that may be -/
structure RqOk (q : Rq) : Prop where
  kind : rqKind q.kind = true
  seat : 0 ≤ q.seat ∧ q.seat ≤ 65535
  ttl : 0 ≤ q.ttl
  idf : q.id = 0 ∨ 0 ∈ hasL q.kind
  seatf : q.seat = 0 ∨ 1 ∈ hasL q.kind
  ttlf : q.ttl = 0 ∨ 2 ∈ hasL q.kind
theorem field_size : (Tryz.prog.info? 333).map (·.size) = some 3 := by kernel_rfl
theorem idx_f0 (W : World) : (Instr.index 334 (.agg fieldsV) (.int .i64 0)).run Tryz.prog W = .ok (.agg #[.func (.func 196) #[] #[], .func (.func 197) #[] #[], .func (.func 198) #[] #[]]) W := by kernel_rfl
theorem idx_f1 (W : World) : (Instr.index 334 (.agg fieldsV) (.int .i64 1)).run Tryz.prog W = .ok (.agg #[.func (.func 199) #[] #[], .func (.func 200) #[] #[], .func (.func 201) #[] #[]]) W := by kernel_rfl
theorem idx_f2 (W : World) : (Instr.index 334 (.agg fieldsV) (.int .i64 2)).run Tryz.prog W = .ok (.agg #[.func (.func 202) #[] #[], .func (.func 203) #[] #[], .func (.func 205) #[] #[]]) W := by kernel_rfl
set_option maxRecDepth 100000 in
set_option maxHeartbeats 8000000 in
theorem RqCheck_ok (q : Rq) (w : World) (h : RqOk q) : Calls Tryz.prog 170 #[.agg (rqV q)] w fun e w' => e = .returned (.int .i64 0) ∧ Below w.heap.size w w' := by
  obtain ⟨xq, hxq⟩ : ∃ xq, w.heap.size = xq := ⟨_, rfl⟩
  obtain ⟨w1, hw1⟩ : ∃ w1, w.alloc (.cells (rqV q) 223) = w1 := ⟨_, rfl⟩
  have HA1 := Lib.hid (show Arr w1 xq 223 (rqV q) by rw [← hw1, ← hxq]; exact Arr.fresh w _ _)
  have HB1 := Lib.hid (show Below w.heap.size w w1 by rw [← hw1]; exact ext_alloc (Below.refl _ _) _)
  have c0 : w1.cell? ⟨xq, 0, none⟩ = some (.int .i64 q.kind) := HA1.out.cell 0
  have HQ := Lib.hid h
  clear h
  go_enter Tryz.func170, Tryz.ntmps170
  go_wp2_with fail
  refine (rqof_in q.kind w1).mono ?_
  rintro e w2 ⟨A, rfl, hG, hb2⟩
  have hkd := HQ.out.kind
  have HN2 := Lib.hid (show Nts w2 A (hasL q.kind) from fun hne => by
    obtain ⟨g, h1, _, h3⟩ := hG hne
    refine ⟨g, 0, h1, h3.lt, fun i hi => ?_⟩
    rw [Nat.zero_add, h3.cell i]
    simp [intsV, hi])
  have HA2 := Lib.hid (HA1.out.keep hb2)
  have HB2 := Lib.hid (ext_trans HB1.out hb2)
  clear hG hb2 c0
  have c3 : w2.cell? ⟨xq, 3, none⟩ = some (.int .i64 q.seat) := HA2.out.cell 3
  have c4 : w2.cell? ⟨xq, 4, none⟩ = some (.int .i64 q.ttl) := HA2.out.cell 4
  have s1 : decide (q.seat < 0) = false := decide_eq_false (by have := HQ.out.seat; omega)
  have s2 : decide ((65535 : Int) < q.seat) = false := decide_eq_false (by have := HQ.out.seat; omega)
  have s3 : decide (q.ttl < 0) = false := decide_eq_false (by have := HQ.out.ttl; omega)
  go_wp2_with fail
  refine (fields_in w2).mono ?_
  rintro e w3 ⟨rfl, hb3⟩
  have HN3 := Lib.hid (HN2.out.keep hb3)
  have HA3 := Lib.hid (HA2.out.keep hb3)
  have HB3 := Lib.hid (ext_trans HB2.out hb3)
  have HLN := Lib.hid (hasL_len q.kind)
  clear hb3 c3 c4 s1 s2 s3 HN2 HA2
  go_wp2_with fail
  go_loopw [31] (fun i wr => ∃ j : Nat, j ≤ 3 ∧ i = .int .i64 j ∧ Nts wr A (hasL q.kind) ∧ Arr wr xq 223 (rqV q) ∧ Below w.heap.size w wr) (fun i _ => (3 - intOf i).toNat)
  case atStart => exact ⟨0, by omega, rfl, HN3.out, HA3.out, HB3.out⟩
  case round =>
    obtain ⟨j, hj, rfl, hn, ha, hb⟩ := hrel
    have HNr := Lib.hid hn; have HAr := Lib.hid ha; have HBr := Lib.hid hb
    clear hn ha hb
    obtain ⟨xb, hxb⟩ : ∃ xb, wr.heap.size = xb := ⟨_, rfl⟩
    obtain ⟨w4, hw4⟩ : ∃ w4, wr.alloc (.cells #[.nilFunc, .nilFunc, .nilFunc] 333) = w4 := ⟨_, rfl⟩
    have HA4 := Lib.hid (show Arr w4 xb 333 #[.nilFunc, .nilFunc, .nilFunc] by rw [← hw4, ← hxb]; exact Arr.fresh wr _ _)
    have HB4 := Lib.hid (show Below wr.heap.size wr w4 by rw [← hw4]; exact ext_alloc (Below.refl _ _) _)
    have HXB := Lib.hid hxb
    rcases (show j = 0 ∨ j = 1 ∨ j = 2 ∨ j = 3 by omega) with rfl | rfl | rfl | rfl
    · have ix := idx_f0 wr
      go_wp2_with (first | (refine wpList_store_blk rfl 333 _ _ rfl xb 333 _ #[.func (.func 196) #[] #[], .func (.func 197) #[] #[], .func (.func 198) #[] #[]] HA4.out rfl rfl rfl field_size (by simp [Value.oneCell']) ?_; intro w5 hA5 hg5 hs5; have HB5 := Lib.hid (show Below wr.heap.size wr w5 from ext_only HB4.out hg5 (Nat.le_of_eq HXB.out)); have c5 : w5.cell? ⟨xb, 2, none⟩ = some (.func (.func 198) #[] #[]) := hA5.cell 2; have HAq := Lib.hid (HAr.out.keep HB5.out); clear hA5 hg5 hs5) | (refine wpList_load_blk rfl 223 (.tmp 1) rfl xq 223 _ HAq.out rfl _ Tryz.underlying223 rfl request_size ?_))
      refine (zero_id q w5).mono ?_
      rintro e w6 ⟨rfl, hb6⟩
      have HB6 := Lib.hid (ext_trans HB5.out hb6)
      have HAq6 := Lib.hid (HAr.out.keep HB6.out)
      have HN6 := Lib.hid (HNr.out.keep HB6.out)
      clear hb6 c5 ix
      by_cases hz : q.id = 0
      · have hz1 : (q.id == 0) = true := by rw [hz]; rfl
        clear hz
        go_wp2_with fail
        go_roundw
        case rel => exact ⟨0 + 1, by omega, by go_num, HN6.out, HAq6.out, ext_trans HBr.out HB6.out⟩
        case measure => simp [intOf]
      · have hz1 : (q.id == 0) = false := beq_eq_false_iff_ne.2 hz
        have hm : 0 ∈ hasL q.kind := HQ.out.idf.resolve_left hz
        have HCY := Lib.hid (Contains_yes A (hasL q.kind).length 0 (hasL q.kind) w6 HN6.out hm (by have := HLN.out; omega))
        clear hz hm
        go_wp2_with fail
        refine HCY.out.mono ?_
        rintro e wq ⟨rfl, hwq⟩
        rw [hwq]
        clear hwq wq
        go_wp2_with fail
        go_roundw
        case rel => exact ⟨0 + 1, by omega, by go_num, HN6.out, HAq6.out, ext_trans HBr.out HB6.out⟩
        case measure => simp [intOf]
    · have ix := idx_f1 wr
      go_wp2_with (first | (refine wpList_store_blk rfl 333 _ _ rfl xb 333 _ #[.func (.func 199) #[] #[], .func (.func 200) #[] #[], .func (.func 201) #[] #[]] HA4.out rfl rfl rfl field_size (by simp [Value.oneCell']) ?_; intro w5 hA5 hg5 hs5; have HB5 := Lib.hid (show Below wr.heap.size wr w5 from ext_only HB4.out hg5 (Nat.le_of_eq HXB.out)); have c5 : w5.cell? ⟨xb, 2, none⟩ = some (.func (.func 201) #[] #[]) := hA5.cell 2; have HAq := Lib.hid (HAr.out.keep HB5.out); clear hA5 hg5 hs5) | (refine wpList_load_blk rfl 223 (.tmp 1) rfl xq 223 _ HAq.out rfl _ Tryz.underlying223 rfl request_size ?_))
      refine (zero_seat q w5).mono ?_
      rintro e w6 ⟨rfl, hb6⟩
      have HB6 := Lib.hid (ext_trans HB5.out hb6)
      have HAq6 := Lib.hid (HAr.out.keep HB6.out)
      have HN6 := Lib.hid (HNr.out.keep HB6.out)
      clear hb6 c5 ix
      by_cases hz : q.seat = 0
      · have hz1 : (q.seat == 0) = true := by rw [hz]; rfl
        clear hz
        go_wp2_with fail
        go_roundw
        case rel => exact ⟨1 + 1, by omega, by go_num, HN6.out, HAq6.out, ext_trans HBr.out HB6.out⟩
        case measure => simp [intOf]
      · have hz1 : (q.seat == 0) = false := beq_eq_false_iff_ne.2 hz
        have hm : 1 ∈ hasL q.kind := HQ.out.seatf.resolve_left hz
        have HCY := Lib.hid (Contains_yes A (hasL q.kind).length 1 (hasL q.kind) w6 HN6.out hm (by have := HLN.out; omega))
        clear hz hm
        go_wp2_with fail
        refine HCY.out.mono ?_
        rintro e wq ⟨rfl, hwq⟩
        rw [hwq]
        clear hwq wq
        go_wp2_with fail
        go_roundw
        case rel => exact ⟨1 + 1, by omega, by go_num, HN6.out, HAq6.out, ext_trans HBr.out HB6.out⟩
        case measure => simp [intOf]
    · have ix := idx_f2 wr
      go_wp2_with (first | (refine wpList_store_blk rfl 333 _ _ rfl xb 333 _ #[.func (.func 202) #[] #[], .func (.func 203) #[] #[], .func (.func 205) #[] #[]] HA4.out rfl rfl rfl field_size (by simp [Value.oneCell']) ?_; intro w5 hA5 hg5 hs5; have HB5 := Lib.hid (show Below wr.heap.size wr w5 from ext_only HB4.out hg5 (Nat.le_of_eq HXB.out)); have c5 : w5.cell? ⟨xb, 2, none⟩ = some (.func (.func 205) #[] #[]) := hA5.cell 2; have HAq := Lib.hid (HAr.out.keep HB5.out); clear hA5 hg5 hs5) | (refine wpList_load_blk rfl 223 (.tmp 1) rfl xq 223 _ HAq.out rfl _ Tryz.underlying223 rfl request_size ?_))
      refine (zero_ttl q w5).mono ?_
      rintro e w6 ⟨rfl, hb6⟩
      have HB6 := Lib.hid (ext_trans HB5.out hb6)
      have HAq6 := Lib.hid (HAr.out.keep HB6.out)
      have HN6 := Lib.hid (HNr.out.keep HB6.out)
      clear hb6 c5 ix
      by_cases hz : q.ttl = 0
      · have hz1 : (q.ttl == 0) = true := by rw [hz]; rfl
        clear hz
        go_wp2_with fail
        go_roundw
        case rel => exact ⟨2 + 1, by omega, by go_num, HN6.out, HAq6.out, ext_trans HBr.out HB6.out⟩
        case measure => simp [intOf]
      · have hz1 : (q.ttl == 0) = false := beq_eq_false_iff_ne.2 hz
        have hm : 2 ∈ hasL q.kind := HQ.out.ttlf.resolve_left hz
        have HCY := Lib.hid (Contains_yes A (hasL q.kind).length 2 (hasL q.kind) w6 HN6.out hm (by have := HLN.out; omega))
        clear hz hm
        go_wp2_with fail
        refine HCY.out.mono ?_
        rintro e wq ⟨rfl, hwq⟩
        rw [hwq]
        clear hwq wq
        go_wp2_with fail
        go_roundw
        case rel => exact ⟨2 + 1, by omega, by go_num, HN6.out, HAq6.out, ext_trans HBr.out HB6.out⟩
        case measure => simp [intOf]
    · go_wp2_with fail
      go_ret
      exact ⟨rfl, HBr.out⟩

end Go.Proofs.YtkmpchffflemcaaGreatDoor.En
end
