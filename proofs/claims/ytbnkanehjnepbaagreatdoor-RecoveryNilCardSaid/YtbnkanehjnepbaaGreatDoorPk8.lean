/- Packed: Oct4, Kit20, Slots6, Slots7, ScanPlain. -/
import Derived.Test.YtbnkanehjnepbaaGreatDoorPk7
import Derived.Test.YtbnkanehjnepbaaGreatDoorPk1
import Derived.Test.YtbnkanehjnepbaaGreatDoorPk11
import Derived.Deep.CutRange
set_option linter.unusedVariables false
set_option linter.unusedSimpArgs false
/- Layer 2: octets: nothing taken of an empty rest; Take of any number. -/
section
set_option linter.unusedVariables false
set_option linter.unusedSimpArgs false
namespace Go.Proofs.YtbnkanehjnepbaaGreatDoor.Oc
open Go.RowKit

set_option maxRecDepth 100000 in
set_option maxHeartbeats 2000000 in
theorem Clone_any (A : Option Addr) (c : Nat) (w : World) : Calls Tryz.prog 104 #[.slice A 0 c] w (ClOut [] w) := by
  cases A with
  | none => exact Clone_none c w
  | some ad =>
    have hq := nil_no ad 0 c
    go_enter Tryz.func104, Tryz.ntmps104
    go_wp2_with fail
    go_ret
    exact ⟨some ⟨w.heap.size, 0, none⟩, 0, rfl, fun h => absurd rfl h, Nat.le_refl _, (fun g' o' e => by injection e with e; injection e with e; subst e; exact ⟨Nat.le_refl _, by simp⟩), (fun e => by cases e), ext_alloc (Below.refl _ _) _⟩
def TzOut (q : Nat) (w : World) (en : Ending) (w' : World) : Prop := ∃ A c, en = .returned (.slice A 0 c) ∧ RsAt w' q [] 0 ∧ Tch (· = q) w w'
set_option maxRecDepth 100000 in
set_option maxHeartbeats 2000000 in
theorem take_zero (q : Nat) (w : World) (h : RsAt w q [] 0) : Calls Tryz.prog 204 #[.pointer (some ⟨q, 0, none⟩), .int .i64 0] w (TzOut q w) := by
  obtain ⟨A, c, h1, h2, h3, h4⟩ := h.ex
  have x0 : w.cell? ⟨q, 0, none⟩ = some (.slice A 0 c) := h1.cell 0
  have x1 : w.cell? ⟨q, 1, none⟩ = some (.int .i64 0) := h1.cell 1
  have m0 := h1.mark 0
  have hfin : ∀ (B : Option Addr) (e : Nat) (W : World) (A' : Option Addr) (c' : Nat), W = w.setCell ⟨q, 0, none⟩ (.slice B 0 e) → (B = A ∨ B = none) → TzOut q w (.returned (.slice A' 0 c')) W := by
    rintro B e W A' c' rfl hB
    refine ⟨A', c', rfl, ⟨B, e, by simpa using h1.put 0 (.slice B 0 e), Bs.nil _ _, Nat.zero_le _, fun g off hg => ?_⟩, Tch.at w q 0 _⟩
    rcases hB with rfl | rfl
    · exact h4 g off hg
    · cases hg
  have HF := Lib.hid hfin
  clear h h2 h3 hfin
  have hc0 : (0 : Int) ≤ (c : Int) := by omega
  cases A with
  | none =>
    clear h1 h4
    go_enter Tryz.func204, Tryz.ntmps204
    go_wp2_with fail
    all_goals go_ret
    all_goals exact HF.out _ _ _ _ _ rfl (.inl rfl)
  | some ad =>
    clear h1 h4
    go_enter Tryz.func204, Tryz.ntmps204
    go_wp2_with fail
    all_goals go_ret
    all_goals exact HF.out _ _ _ _ _ rfl (.inl rfl)
set_option maxRecDepth 100000 in
set_option maxHeartbeats 1000000 in
theorem RTake_zero (p q : Nat) (w : World) (h : RdAt w p q [] 0) : Calls Tryz.prog 159 #[.pointer (some ⟨p, 0, none⟩), .int .i64 0] w (RtOut p q [] 0 0 w) := by
  have x0 : w.cell? ⟨p, 0, none⟩ = some (.pointer (some ⟨q, 0, none⟩)) := h.own.cell 0
  have HH := Lib.hid h
  have HN := Lib.hid (take_zero q w h.rest)
  clear h
  go_enter Tryz.func159, Tryz.ntmps159
  go_wp2_with fail
  refine (made_in p q w x0).mono ?_
  rintro en w1 ⟨rfl, hw⟩
  rw [hw]
  clear hw w1
  go_wp2_with fail
  refine HN.out.mono ?_
  rintro en w1 ⟨A, c, rfl, hr, ht⟩
  have HR := Lib.hid hr; have HT := Lib.hid ht; have HC := Lib.hid (Clone_any A c w1)
  clear hr ht HN
  go_wp2_with fail
  refine HC.out.mono ?_
  rintro en w2 ⟨B, d, rfl, h1, h2, h3, h4, h5⟩
  have hz := HT.out.size
  have hfin : RtOut p q [] 0 0 w (.returned (.slice B 0 d)) w2 := ⟨B, d, rfl, fun hne => absurd rfl hne, fun g off e => by have := h3 g off e; omega, (HH.out.next HR.out HT.out).keep h5, HT.out.below h5⟩
  have HF := Lib.hid hfin
  clear h1 h2 h3 h4 h5 hfin hz
  go_wp2_with fail
  go_ret
  exact HF.out
set_option maxRecDepth 100000 in
set_option maxHeartbeats 1000000 in
theorem RTake_some (p q k : Nat) (bs : List UInt8) (e : Int) (w : World) (h : RdAt w p q bs e) (hk : Calls Tryz.prog 204 #[.pointer (some ⟨q, 0, none⟩), .int .i64 k] w (TkOut q bs e k w)) (hk2 : k ≤ 1000000) : Calls Tryz.prog 159 #[.pointer (some ⟨p, 0, none⟩), .int .i64 k] w (RtOut p q bs e k w) := by
  have x0 : w.cell? ⟨p, 0, none⟩ = some (.pointer (some ⟨q, 0, none⟩)) := h.own.cell 0
  have HH := Lib.hid h
  have HN := Lib.hid hk
  have HK := Lib.hid hk2
  clear h hk hk2
  go_enter Tryz.func159, Tryz.ntmps159
  go_wp2_with fail
  refine (made_in p q w x0).mono ?_
  rintro en w1 ⟨rfl, hw⟩
  rw [hw]
  clear hw w1
  go_wp2_with fail
  refine HN.out.mono ?_
  rintro en w1 ⟨⟨A, c, rfl, hb, hA⟩, hr, ht⟩
  have hC := Clone_in (tk bs e k).1 A c w1 hb hA (Nat.le_trans (tk_len bs e k) (by have := HK.out; omega))
  have HR := Lib.hid hr; have HT := Lib.hid ht; have HC := Lib.hid hC
  clear hb hA hr ht hC HN
  go_wp2_with fail
  refine HC.out.mono ?_
  rintro en w2 ⟨B, d, rfl, h1, h2, h3, h4, h5⟩
  have hz := HT.out.size
  have hfin : RtOut p q bs e k w (.returned (.slice B (tk bs e k).1.length d)) w2 := ⟨B, d, rfl, fun hne => by obtain ⟨g, a, b, c⟩ := h1 hne; exact ⟨g, a, by omega, c⟩, fun g off e => by have := h3 g off e; omega, (HH.out.next HR.out HT.out).keep h5, HT.out.below h5⟩
  have HF := Lib.hid hfin
  clear h1 h2 h3 h4 h5 hfin hz
  go_wp2_with fail
  go_ret
  exact HF.out
theorem RTake_any (p q k : Nat) (bs : List UInt8) (e : Int) (w : World) (h : RdAt w p q bs e) (hk : k ≤ 1000000) : Calls Tryz.prog 159 #[.pointer (some ⟨p, 0, none⟩), .int .i64 k] w (RtOut p q bs e k w) := by
  by_cases h0 : k = 0
  · subst h0
    by_cases he : e = 0
    · subst he
      by_cases hb : bs = []
      · subst hb; exact RTake_zero p q w h
      · exact RTake_some p q 0 bs 0 w h (take_ok q 0 bs w h.rest (Nat.zero_le _) hb) (by decide)
    · exact RTake_some p q 0 bs e w h (take_err q 0 bs e w h.rest he) (by decide)
  · exact RTake_in p q k bs e w h ⟨by omega, hk⟩

end Go.Proofs.YtbnkanehjnepbaaGreatDoor.Oc
end

/- A part of a block that is known whole: loaded, stored into. No program in sight. -/
section
set_option linter.unusedVariables false
set_option linter.unusedSimpArgs false
namespace Go.Proofs.YtbnkanehjnepbaaGreatDoor
open Go.RowKit

/-- vs laid over cs from o on -/
def part (cs : Array Value) (o : Nat) (vs : List Value) : Array Value := (cs.toList.take o ++ vs ++ cs.toList.drop (o + vs.length)).toArray
theorem arr_part {g : Nat} {t : TypeId} {w : World} {cs : Array Value} (hg : Arr w g t cs) (o : Nat) (vs : List Value) (ho : o + vs.length ≤ cs.size) : Arr (w.setCells g o vs) g t (part cs o vs) := by
  obtain ⟨cs', h1, h2, h3, h4⟩ := arr_setCells g t vs o w cs hg ho
  have e : cs' = part cs o vs := by
    apply Array.ext_getElem?
    intro j
    refine Eq.trans (b := (cs.toList.take o ++ vs ++ cs.toList.drop (o + vs.length))[j]?) ?_ (by unfold part; simp only [List.getElem?_toArray])
    have hl : (cs.toList.take o).length = o := by rw [List.length_take, Array.length_toList]; omega
    rcases Nat.lt_or_ge j o with hj | hj
    · rw [h4 j (.inl hj), List.append_assoc, List.getElem?_append_left (by omega), List.getElem?_take_of_lt hj, Array.getElem?_toList]
    · rcases Nat.lt_or_ge j (o + vs.length) with hj2 | hj2
      · obtain ⟨k, rfl⟩ : ∃ k, j = o + k := ⟨j - o, by omega⟩
        rw [h3 k (by omega), List.append_assoc, List.getElem?_append_right (by omega), hl, Nat.add_sub_cancel_left, List.getElem?_append_left (by omega)]
      · rw [h4 j (.inr hj2), List.getElem?_append_right (by rw [List.length_append]; omega), List.length_append, hl, List.getElem?_drop, Array.getElem?_toList]
        congr 1
        omega
  rw [e] at h1; exact h1
theorem wpList_store_part {P : Program} {ops : Array Oper} {rest : List Oper} {o : Oper} {a : Act} {w : World} {Q : Exit → Act → World → Prop} (hgd : o.guard = none) (ty : TypeId) (x y : Operand) (ho : o.op = .store ty x y)
    (g k : Nat) (t : TypeId) (cs cells : Array Value) (hg : Arr w g t cs) (hx : a.eval x = .pointer (some ⟨g, k, none⟩)) (hy : a.eval y = .agg cells) (hsz : k + cells.size ≤ cs.size)
    (hi : (P.info? ty).map (·.size) = some cells.size) (h1 : cells.all (·.oneCell') = true)
    (h : ∀ w', Arr w' g t (part cs k cells.toList) → w.grownBy w' (some g) → w'.heap.size = w.heap.size → wpList P ops Q rest (a.put o.dst undef) w') : wpList P ops Q (o :: rest) a w := by
  refine wpList_store_mid hgd ty x y ho g k cells hx hy (fun j hj => ?_) hi h1 ?_
  · rw [hg.cell (k + j), hg.mark (k + j)]
    rw [Array.getElem?_eq_getElem (by omega)]
    exact ⟨rfl, rfl⟩
  · obtain ⟨h2, h3⟩ := only_setCells g cells.toList k w
    exact h _ (arr_part hg k cells.toList (by simpa using hsz)) h2 h3
theorem wpList_load_part {P : Program} {ops : Array Oper} {rest : List Oper} {o : Oper} {a : Act} {w : World} {Q : Exit → Act → World → Prop} (hgd : o.guard = none) (ty : TypeId) (x : Operand) (ho : o.op = .load ty x)
    (g k : Nat) (t : TypeId) (cs : Array Value) (vs : List Value) (hg : Arr w g t cs) (hx : a.eval x = .pointer (some ⟨g, k, none⟩)) (hv : ∀ j v, vs[j]? = some v → cs[k + j]? = some v) (d : TypeDesc)
    (hu : P.underlying ty = some d) (hd : d.isRow = true) (hi : (P.info? ty).map (·.size) = some vs.length)
    (h : wpList P ops Q rest (a.put o.dst (.agg vs.toArray)) w) : wpList P ops Q (o :: rest) a w :=
  wpList_load_mid hgd ty x ho g k hx vs d (fun j v hj => by rw [hg.cell]; exact hv j v hj) hu hd hi h

theorem results_cell_tmp3 {P : Program} {fn : Func} {p q r s : Tmp} {ty : TypeId} (h : fn.results = #[.cell p ty, .tmp q, .tmp r, .tmp s]) (tmps : Array Value) {w : World} {ad : Addr} {v : Value}
    (hp : tmps.getD p undef = .pointer (some ad)) (hl : (loadVar ty ad).run P w = .ok v w) : (results fn tmps).run P w = .ok (.tuple #[v, tmps.getD q undef, tmps.getD r undef, tmps.getD s undef]) w := by
  have hp' : tmps[p]?.getD undef = .pointer (some ad) := by simpa using hp
  simp [results, h, hp', asAddr, hl]
/-- a whole block is stored into, at an operation of a drawn region -/
theorem wp_store_blk {P : Program} {op : Oper} {a : Act} {w : World} {K : Act → World → Prop} {Q : Exit → Act → World → Prop} (ty : TypeId) (x y : Operand) (ho : op.op = .store ty x y)
    (g : Nat) (t : TypeId) (cs cells : Array Value) (hg : Arr w g t cs) (hx : a.eval x = .pointer (some ⟨g, 0, none⟩)) (hy : a.eval y = .agg cells) (hsz : cells.size = cs.size)
    (hi : (P.info? ty).map (·.size) = some cells.size) (h1 : cells.all (·.oneCell') = true)
    (h : ∀ w', Arr w' g t cells → w.grownBy w' (some g) → w'.heap.size = w.heap.size → K (a.put op.dst undef) w') : op.wp P a w K Q := by
  refine wp_store_mid ty x y ho g 0 cells hx hy (fun j hj => ?_) hi h1 ?_
  · rw [Nat.zero_add, hg.cell j, hg.mark j]
    rw [Array.getElem?_eq_getElem (by omega)]
    exact ⟨rfl, rfl⟩
  · obtain ⟨h2, h3⟩ := only_setCells g cells.toList 0 w
    obtain ⟨cs', h4, h5, h6, _⟩ := arr_setCells g t cells.toList 0 w cs hg (by simp; omega)
    refine h _ ?_ h2 h3
    have e : cs' = cells := by
      apply Array.ext_getElem?
      intro j
      rcases Nat.lt_or_ge j cells.size with hj | hj
      · have := h6 j (by simpa using hj)
        rw [Nat.zero_add] at this
        rw [this]; simp
      · rw [Array.getElem?_eq_none (by omega), Array.getElem?_eq_none hj]
    rw [e] at h4; exact h4

end Go.Proofs.YtbnkanehjnepbaaGreatDoor
end

/- Layer 11: slots: Load. -/
section
set_option linter.unusedVariables false
set_option linter.unusedSimpArgs false
namespace Go.Proofs.YtbnkanehjnepbaaGreatDoor.En
open Go.RowKit
open Go.Proofs.YtbnkanehjnepbaaGreatDoor.Oc (le val Bs bytesV byteV okA okA_some okA_none ClOut bytesV_len)
open Go.Proofs.YtbnkanehjnepbaaGreatDoor.Cr (CrcTab crc)

theorem rdP_dk (g : Rg) : ∀ (ps : List Piece) (d : Dev) (acc : By), (rdP g d ps acc).2.2.dk = d.dk
  | [], d, acc => rfl
  | x :: ps, d, acc => by
    rw [rdP]
    split
    · rw [rdP_dk g ps]; exact Dev.read_dk _ _
    · exact Dev.read_dk _ _
theorem Rg.read_dk (g : Rg) (d : Dev) (at_ n : Int) : (g.read d at_ n).2.2.dk = d.dk := by
  unfold Rg.read
  split
  · rfl
  · exact rdP_dk g _ _ _
theorem hdOne_dk (g : Rg) (d : Dev) : (hdOne g d).2.2.dk = d.dk := by
  unfold hdOne
  split <;> exact Rg.read_dk _ _ _ _
theorem hdOne_len (g : Rg) (d : Dev) : (hdOne g d).2.1.len ≤ g.bytes d.dk.size := by
  unfold hdOne
  split
  · simp only
    split
    · split
      · omega
      · exact Nat.zero_le _
    · exact Nat.zero_le _
  · exact Nat.zero_le _
theorem tryOne_dk (s : Sl) (d : Dev) (i : Nat) (h : Hd) : (tryOne s d i h).2.2.dk = d.dk := by
  unfold tryOne
  split
  · rfl
  · split <;> exact Rg.read_dk _ _ _ _
theorem ldTwo_dk (s : Sl) (d : Dev) (i j : Nat) (hi hj : Hd) : (ldTwo s d i j hi hj).dev.dk = d.dk := by
  unfold ldTwo
  split
  · split
    · exact tryOne_dk _ _ _ _
    · split
      · split <;> exact (tryOne_dk _ _ _ _).trans (tryOne_dk _ _ _ _)
      · exact (tryOne_dk _ _ _ _).trans (tryOne_dk _ _ _ _)
  · exact tryOne_dk _ _ _ _
theorem load_dk (s : Sl) (d : Dev) : (s.load d).dev.dk = d.dk := by
  unfold Sl.load
  split
  · split
    · split <;> exact (ldTwo_dk _ _ _ _ _ _).trans ((hdOne_dk _ _).trans (hdOne_dk _ _))
    · exact (hdOne_dk _ _).trans (hdOne_dk _ _)
  · exact hdOne_dk _ _
def hds (a b : Hd) : Array Value := #[.int .u64 (a.gen : Nat), .int .u64 (a.cov : Nat), .int .i64 (a.len : Nat), .int .u32 (a.sum : Nat), .int .u64 (b.gen : Nat), .int .u64 (b.cov : Nat), .int .i64 (b.len : Nat), .int .u32 (b.sum : Nat)]
structure LdI (S : Nat → Prop) (w : World) (rr hb p : Nat) (D : Dev) (a b : Hd) (W : World) : Prop where
  heads : Arr W hb 219 (hds a b)
  res : Arr W rr 77 #[.int .u64 0, .int .u64 0, .int .i64 0, .int .u32 0]
  dev : DvIn p D S W
  tch : Tch S w W
  rz : w.heap.size ≤ rr ∧ w.heap.size ≤ hb ∧ rr ≠ hb
theorem LdI.below {S : Nat → Prop} {w : World} {rr hb p : Nat} {D : Dev} {a b : Hd} {W W' : World} (h : LdI S w rr hb p D a b W) (hb' : Below W.heap.size W W') : LdI S w rr hb p D a b W' :=
  ⟨h.heads.keep hb', h.res.keep hb', (DvIn_loc p D).below h.dev hb', h.tch.below hb', h.rz⟩
theorem LdI.step {S : Nat → Prop} {w : World} {rr hb p : Nat} {D D' : Dev} {a b : Hd} {W W' : World} (h : LdI S w rr hb p D a b W) (hS : ∀ k, S k → k < w.heap.size) (hD : DvIn p D' S W') (ht : Tch S W W') : LdI S w rr hb p D' a b W' := by
  have h1 := h.rz
  exact ⟨ht.arr h.heads (fun hs => by have := hS _ hs; omega), ht.arr h.res (fun hs => by have := hS _ hs; omega), hD, h.tch.trans ht, h.rz⟩
theorem LdI.put {S : Nat → Prop} {w : World} {rr hb p : Nat} {D : Dev} {a b a' b' : Hd} {W W' : World} (h : LdI S w rr hb p D a b W) (hS : ∀ k, S k → k < w.heap.size) (hA : Arr W' hb 219 (hds a' b')) (hg : W.grownBy W' (some hb)) : LdI S w rr hb p D a' b' W' := by
  have h1 := h.rz
  refine ⟨hA, h.res.grown hg (by omega), (DvIn_loc p D).same h.dev hg.size (fun k hk => hg.block k ((DvIn_loc p D).lt h.dev k hk) (fun e => by injection e with e; subst e; have := hS _ hk; omega)), h.tch.grown hg (fun k e => by injection e with e; subst e; exact .inr (by omega)), h.rz⟩
/-- what a load hands over -/
def LdOut (S : Nat → Prop) (p : Nat) (R : Ld) (w : World) (e : Ending) (w' : World) : Prop :=
  (∃ A c, e = .returned (.tuple #[.agg (hdV R.hd), .slice A R.body.length c, .int .i64 R.at_, .int .i64 R.err]) ∧ (R.body ≠ [] → ∃ g, A = some ⟨g, 0, none⟩ ∧ w.heap.size ≤ g ∧ Blk w' 5 g R.body) ∧ R.body.length ≤ c) ∧ DvIn p R.dev S w' ∧ Tch S w w'
theorem LdI.out {S : Nat → Prop} {w : World} {rr hb p : Nat} {D : Dev} {a b : Hd} {W W' : World} {R : Ld} {A : Option Addr} {c : Nat} (h : LdI S w rr hb p D a b W) (hS : ∀ k, S k → k < w.heap.size) (hg : W.grownBy W' (some rr)) (hR : R.dev = D)
    (hB : R.body ≠ [] → ∃ g, A = some ⟨g, 0, none⟩ ∧ w.heap.size ≤ g ∧ Blk W 5 g R.body) (hc : R.body.length ≤ c) : LdOut S p R w (.returned (.tuple #[.agg (hdV R.hd), .slice A R.body.length c, .int .i64 R.at_, .int .i64 R.err])) W' := by
  have h1 := h.rz
  subst hR
  refine ⟨⟨A, c, rfl, fun hne => ?_, hc⟩, (DvIn_loc p R.dev).same h.dev hg.size (fun k hk => hg.block k ((DvIn_loc p R.dev).lt h.dev k hk) (fun e => by injection e with e; subst e; have := hS _ hk; omega)), h.tch.grown hg (fun k e => by injection e with e; subst e; exact .inr (by omega))⟩
  obtain ⟨g, rfl, hg2, hbl⟩ := hB hne
  refine ⟨g, rfl, hg2, hbl.same (hg.block g hbl.lt (fun e => ?_))⟩
  injection e with e
  subst e
  obtain ⟨cur, hq, _⟩ := hbl
  have hr := h.res
  unfold Arr at hr
  rw [hq] at hr
  injection hr with hr
  injection hr with _ ht _
  exact absurd ht (by decide)
theorem LdI.only {S : Nat → Prop} {w : World} {rr hb p : Nat} {D : Dev} {a b : Hd} {W W' : World} {x : Nat} (h : LdI S w rr hb p D a b W) (hg : W.grownBy W' (some x)) (hx : (∀ k, S k → k ≠ x) ∧ rr ≠ x ∧ hb ≠ x ∧ w.heap.size ≤ x) : LdI S w rr hb p D a b W' :=
  ⟨h.heads.grown hg hx.2.2.1, h.res.grown hg hx.2.1, (DvIn_loc p D).same h.dev hg.size (fun k hk => hg.block k ((DvIn_loc p D).lt h.dev k hk) (fun e => by injection e with e; exact hx.1 k hk e)), h.tch.grown hg (fun k e => by injection e with e; subst e; exact .inr hx.2.2.2), h.rz⟩
theorem two_size : (Tryz.prog.info? 221).map (·.size) = some 2 := by kernel_rfl
theorem hds_part0 (a b : Hd) : ∀ j v, (hdV a).toList[j]? = some v → (hds a b)[0 + j]? = some v := by
  intro j v h
  have hj : j < 4 := (List.getElem?_eq_some_iff.1 h).1
  rcases (show j = 0 ∨ j = 1 ∨ j = 2 ∨ j = 3 by omega) with rfl | rfl | rfl | rfl <;> exact h
theorem hds_part1 (a b : Hd) : ∀ j v, (hdV b).toList[j]? = some v → (hds a b)[4 + j]? = some v := by
  intro j v h
  have hj : j < 4 := (List.getElem?_eq_some_iff.1 h).1
  rcases (show j = 0 ∨ j = 1 ∨ j = 2 ∨ j = 3 by omega) with rfl | rfl | rfl | rfl <;> exact h
theorem idx_slot0 (x y : Nat) (W : World) : (Instr.index 169 (.agg #[.pointer (some ⟨x, 0, none⟩), .pointer (some ⟨y, 0, none⟩)]) (.int .i64 0)).run Tryz.prog W = .ok (.agg #[.pointer (some ⟨x, 0, none⟩)]) W := by kernel_rfl
theorem idx_slot1 (x y : Nat) (W : World) : (Instr.index 169 (.agg #[.pointer (some ⟨x, 0, none⟩), .pointer (some ⟨y, 0, none⟩)]) (.int .i64 1)).run Tryz.prog W = .ok (.agg #[.pointer (some ⟨y, 0, none⟩)]) W := by kernel_rfl
theorem idx_int0 (x y : Int) (W : World) : (Instr.index 221 (.agg #[.int .i64 x, .int .i64 y]) (.int .i64 0)).run Tryz.prog W = .ok (.int .i64 x) W := by kernel_rfl
theorem idx_int1 (x y : Int) (W : World) : (Instr.index 221 (.agg #[.int .i64 x, .int .i64 y]) (.int .i64 1)).run Tryz.prog W = .ok (.int .i64 y) W := by kernel_rfl
set_option maxRecDepth 100000 in
set_option maxHeartbeats 8000000 in
theorem SLoad_in {S : Nat → Prop} {w : World} {s ra rb p : Nat} {sl : Sl} {d : Dev} (h : SlAt w s ra rb p sl d.dk.size) (hD : DvIn p d S w) (hs : ¬ S s) (hra : ¬ S ra) (hrb : ¬ S rb) (ht : CrcTab w) (htS : ¬ S 1) :
    Calls Tryz.prog 54 #[.pointer (some ⟨s, 0, none⟩)] w (LdOut S p (sl.load d) w) := by
  have hS := (DvIn_loc p d).lt hD
  obtain ⟨rr, hrr⟩ : ∃ rr, w.heap.size = rr := ⟨_, rfl⟩
  obtain ⟨w0, hw0⟩ : ∃ w0, w.alloc (.cells #[.int .u64 0, .int .u64 0, .int .i64 0, .int .u32 0] 77) = w0 := ⟨_, rfl⟩
  obtain ⟨hb, hhb⟩ : ∃ hb, w0.heap.size = hb := ⟨_, rfl⟩
  obtain ⟨w1, hw1⟩ : ∃ w1, w0.alloc (.cells #[.int .u64 0, .int .u64 0, .int .i64 0, .int .u32 0, .int .u64 0, .int .u64 0, .int .i64 0, .int .u32 0] 219) = w1 := ⟨_, rfl⟩
  have hb0 : Below w.heap.size w w0 := by rw [← hw0]; exact ext_alloc (Below.refl _ _) _
  have hb01 : Below w0.heap.size w0 w1 := by rw [← hw1]; exact ext_alloc (Below.refl _ _) _
  have ha0 : Arr w0 rr 77 #[.int .u64 0, .int .u64 0, .int .i64 0, .int .u32 0] := by rw [← hw0, ← hrr]; exact Arr.fresh w _ _
  have ha1 : Arr w1 hb 219 (hds Hd.zero Hd.zero) := by rw [← hw1, ← hhb]; exact Arr.fresh w0 _ _
  have hr1 : rr + 1 = hb := by rw [← hhb, ← hw0, ← hrr]; simp only [World.alloc, Array.size_push]
  have hI1 : LdI S w rr hb p d Hd.zero Hd.zero w1 := ⟨ha1, ha0.keep hb01, (DvIn_loc p d).below hD (ext_trans hb0 hb01), Tch.of_below (ext_trans hb0 hb01), by omega, by omega, by omega⟩
  have x0 : w0.cell? ⟨s, 0, none⟩ = some (.pointer (some ⟨ra, 0, none⟩)) := (h.own.keep hb0).cell 0
  obtain ⟨e1, h1, d1, hR1⟩ : ∃ e h d', hdOne sl.a d = (e, h, d') := ⟨_, _, _, rfl⟩
  obtain ⟨e2, h2, d2, hR2⟩ : ∃ e h d', hdOne sl.b d1 = (e, h, d') := ⟨_, _, _, rfl⟩
  have hk1 : d1.dk = d.dk := by have := hdOne_dk sl.a d; rw [hR1] at this; exact this
  have hk2 : d2.dk = d.dk := by have := hdOne_dk sl.b d1; rw [hR2] at this; exact this.trans hk1
  have hn1 : h1.len ≤ 268435456 := by have := hdOne_len sl.a d; rw [hR1] at this; exact Nat.le_trans this h.a.bytes_le
  have hn2 : h2.len ≤ 268435456 := by have := hdOne_len sl.b d1; rw [hR2, hk1] at this; exact Nat.le_trans this h.b.bytes_le
  have hload : sl.load d = if e1 = 0 then if e2 = 0 then if h1.gen < h2.gen then ldTwo sl d2 1 0 h2 h1 else ldTwo sl d2 0 1 h1 h2 else ⟨e2, Hd.zero, [], 0, d2⟩ else ⟨e1, Hd.zero, [], 0, d1⟩ := by
    unfold Sl.load; rw [hR1]; simp only; rw [hR2]
  have HH1 := Lib.hid (show ∀ H0 H1 W W', LdI S w rr hb p d H0 H1 W → Below W.heap.size W W' → Calls Tryz.prog 111 #[.agg #[.pointer (some ⟨ra, 0, none⟩)]] W' (fun e w3 => e = .returned (.tuple #[.agg (hdV h1), .int .i64 e1]) ∧ LdI S w rr hb p d1 H0 H1 w3) from fun H0 H1 W W' hI hB => by
    have hI' := hI.below hB
    have HC := Shead_in (g := sl.a) (d := d) (h.tch hI'.tch hs hra hrb).a hI'.dev hra (ht.tch hI'.tch htS) htS
    rw [hR1] at HC
    exact HC.mono fun e w3 he => ⟨he.1, hI'.step hS he.2.1 he.2.2⟩)
  have HH2 := Lib.hid (show ∀ H0 H1 W W', LdI S w rr hb p d1 H0 H1 W → Below W.heap.size W W' → Calls Tryz.prog 111 #[.agg #[.pointer (some ⟨rb, 0, none⟩)]] W' (fun e w3 => e = .returned (.tuple #[.agg (hdV h2), .int .i64 e2]) ∧ LdI S w rr hb p d2 H0 H1 w3) from fun H0 H1 W W' hI hB => by
    have hI' := hI.below hB
    have HC := Shead_in (g := sl.b) (d := d1) (by rw [hk1]; exact (h.tch hI'.tch hs hra hrb).b) hI'.dev hrb (ht.tch hI'.tch htS) htS
    rw [hR2] at HC
    exact HC.mono fun e w3 he => ⟨he.1, hI'.step hS he.2.1 he.2.2⟩)
  have HRD := Lib.hid (show ∀ (r : Nat) (g : Rg) (D : Dev) (n : Nat) H0 H1 W W', (r = ra ∧ g = sl.a ∨ r = rb ∧ g = sl.b) → D.dk = d.dk → n ≤ 268435456 → LdI S w rr hb p D H0 H1 W → Below W.heap.size W W' → Calls Tryz.prog 112 #[.pointer (some ⟨r, 0, none⟩), .int .i64 d.dk.size, .int .i64 n] W' (fun e w3 => (∃ A c, e = .returned (.tuple #[.slice A (g.read D D.dk.size n).2.1.length c, .int .i64 (g.read D D.dk.size n).1]) ∧ ((g.read D D.dk.size n).2.1 ≠ [] → ∃ gg, A = some ⟨gg, 0, none⟩ ∧ w.heap.size ≤ gg ∧ Blk w3 5 gg (g.read D D.dk.size n).2.1) ∧ (g.read D D.dk.size n).2.1.length ≤ c) ∧ LdI S w rr hb p (g.read D D.dk.size n).2.2 H0 H1 w3) from fun r g D n H0 H1 W W' hr hk hn hI hB => by
    have hI' := hI.below hB
    have hsz := h.a.size
    have hrg : RgAt W' r p g D.dk.size ∧ ¬ S r := by rw [hk]; rcases hr with ⟨rfl, rfl⟩ | ⟨rfl, rfl⟩; exact ⟨(h.tch hI'.tch hs hra hrb).a, hra⟩; exact ⟨(h.tch hI'.tch hs hra hrb).b, hrb⟩
    have HC := RRead_in hrg.1 hI'.dev hrg.2 D.dk.size n (by rw [hk]; omega) hn
    rw [← hk]
    refine HC.mono fun e w3 he => ?_
    obtain ⟨⟨A, c, h1, h2, h3⟩, h4, h5⟩ := he
    exact ⟨⟨A, c, h1, fun hne => by obtain ⟨gg, e1, e2, e3⟩ := h2 hne; exact ⟨gg, e1, Nat.le_trans hI'.tch.size e2, e3⟩, h3⟩, hI'.step hS h4 h5⟩)
  have HRZ := Lib.hid (show ∀ (r : Nat) W, (r = ra ∨ r = rb) → Tch S w W → Calls Tryz.prog 70 #[.pointer (some ⟨r, 0, none⟩)] W (fun e w' => e = .returned (.int .i64 d.dk.size) ∧ w' = W) from fun r W hr hW => by
    rcases hr with rfl | rfl
    · exact RSize_in (h.tch hW hs hra hrb).a
    · exact RSize_in (h.tch hW hs hra hrb).b)
  have HOW := Lib.hid (show ∀ W, Tch S w W → Arr W s 171 #[.pointer (some ⟨ra, 0, none⟩), .pointer (some ⟨rb, 0, none⟩)] from fun W hW => (h.tch hW hs hra hrb).own)
  have HCT := Lib.hid (show ∀ W, Tch S w W → CrcTab W from fun W hW => ht.tch hW htS)
  have HS := Lib.hid hS; have HI1 := Lib.hid hI1; have HLD := Lib.hid hload; have HK1 := Lib.hid hk1; have HK2 := Lib.hid hk2; have HN1 := Lib.hid hn1; have HN2 := Lib.hid hn2; have HW0 := Lib.hid hw0; have HW1 := Lib.hid hw1; have HRR := Lib.hid hrr; have HHB := Lib.hid hhb
  obtain ⟨size, hsize⟩ : ∃ size, d.dk.size = size := ⟨_, rfl⟩
  have hsz := h.a.size
  rw [hsize] at HRZ HRD hsz
  have HSZ := Lib.hid hsz; have HSE := Lib.hid hsize
  obtain ⟨R, hR⟩ : ∃ R, sl.load d = R := ⟨_, rfl⟩
  rw [hR] at HLD ⊢
  have hy0 := (HI1.out.tch)
  have y0 : w1.cell? ⟨s, 0, none⟩ = some (.pointer (some ⟨ra, 0, none⟩)) := (HOW.out w1 hy0).cell 0
  have y1 : w1.cell? ⟨s, 1, none⟩ = some (.pointer (some ⟨rb, 0, none⟩)) := (HOW.out w1 hy0).cell 1
  have z0 : (w0.alloc (.cells #[.int .u64 0, .int .u64 0, .int .i64 0, .int .u32 0, .int .u64 0, .int .u64 0, .int .i64 0, .int .u32 0] 219)).cell? ⟨s, 0, none⟩ = some (.pointer (some ⟨ra, 0, none⟩)) := by rw [HW1.out]; exact y0
  have z1 : (w0.alloc (.cells #[.int .u64 0, .int .u64 0, .int .i64 0, .int .u32 0, .int .u64 0, .int .u64 0, .int .i64 0, .int .u32 0] 219)).cell? ⟨s, 1, none⟩ = some (.pointer (some ⟨rb, 0, none⟩)) := by rw [HW1.out]; exact y1
  clear hR hS hI1 hload hk1 hk2 hn1 hn2 hw0 hw1 hrr hhb hsize hsz h hD hs hra hrb ht htS hb0 hb01 ha0 ha1 hr1 hR1 hR2 hy0
  go_enter Tryz.func54, Tryz.ntmps54
  go_wp2_with fail
  rw [HW0.out, HRR.out]
  refine (Sthere_in s ra w0 x0).mono ?_
  rintro e w2 ⟨rfl, hw2⟩
  rw [hw2]
  clear hw2 w2
  go_wp2_with fail
  rw [HW1.out, HHB.out]
  clear z0 z1
  have ix0 := idx_slot0 ra rb
  have ix1 := idx_slot1 ra rb
  go_loopw [23] (fun k wr => (k = .int .i64 0 ∧ LdI S w rr hb p d Hd.zero Hd.zero wr) ∨ (k = .int .i64 1 ∧ e1 = 0 ∧ LdI S w rr hb p d1 h1 Hd.zero wr) ∨ (k = .int .i64 2 ∧ e1 = 0 ∧ e2 = 0 ∧ LdI S w rr hb p d2 h1 h2 wr)) (fun k _ => (2 - intOf k).toNat)
  case atStart => exact .inl ⟨rfl, HI1.out⟩
  case round =>
    rcases hrel with ⟨rfl, hI⟩ | ⟨rfl, rfl, hI⟩ | ⟨rfl, rfl, rfl, hI⟩
    · have HI := Lib.hid hI
      clear hI
      go_wp2_with fail
      refine (HH1.out _ _ _ _ HI.out (by repeat (first | with_reducible exact Below.refl _ _ | with_reducible refine ext_alloc ?_ _ | with_reducible refine ext_drew ?_ | with_reducible refine ext_drewN ?_ _ | (refine ext_setCell ?_ (by simp at *; omega) _) | with_reducible refine ext_trans ?_ (by assumption)))).mono ?_
      rintro e w3 ⟨rfl, hI3⟩
      have HI3 := Lib.hid hI3
      clear hI3
      by_cases he : e1 = 0
      · subst he
        go_wp2_with (first | (refine wpList_store_part rfl 77 _ _ rfl hb 0 219 _ (hdV h1) HI3.out.heads rfl rfl (by show 0 + 4 ≤ 8; decide) hd_size (hdV_one h1) ?_; intro w5 hA5 hg5 hs5; have HI5 := Lib.hid (HI3.out.put (a' := h1) (b' := Hd.zero) HS.out hA5 hg5); clear hA5 hg5 hs5))
        go_roundw
        case rel => exact .inr (.inl ⟨rfl, (by first | rfl | trivial), HI5.out⟩)
        case measure => simp [intOf]
      · have hn1 : (e1 != 0) = true := by simp [he]
        have HE := Lib.hid he
        clear he
        go_wp2_with (first | (refine wpList_store_part rfl 77 _ _ rfl hb 0 219 _ (hdV h1) HI3.out.heads rfl rfl (by show 0 + 4 ≤ 8; decide) hd_size (hdV_one h1) ?_; intro w5 hA5 hg5 hs5; have HI5 := Lib.hid (HI3.out.put (a' := h1) (b' := Hd.zero) HS.out hA5 hg5); clear hA5 hg5 hs5) | (refine wpList_store_blk rfl 77 _ _ rfl rr 77 _ #[.int .u64 0, .int .u64 0, .int .i64 0, .int .u32 0] HI5.out.res rfl rfl rfl hd_size (hdV_one Hd.zero) ?_; intro wz hAz hgz hsz; have HAz := Lib.hid hAz; have HGz := Lib.hid hgz; clear hAz hgz hsz))
        refine bodyPost_ret (results_cell_tmp3 Tryz.results54 _ (by rfl) (run_load_blk 77 HAz.out _ Tryz.underlying77 rfl hd_size)) rfl ?_
        have he := HE.out
        rw [show R = ⟨e1, Hd.zero, [], 0, d1⟩ from by rw [HLD.out]; simp [he]]
        exact (HI5.out).out (R := ⟨e1, Hd.zero, [], 0, d1⟩) HS.out HGz.out rfl (fun hne => absurd rfl hne) (Nat.zero_le _)
    · have HI := Lib.hid hI
      clear hI
      go_wp2_with fail
      refine (HH2.out _ _ _ _ HI.out (by repeat (first | with_reducible exact Below.refl _ _ | with_reducible refine ext_alloc ?_ _ | with_reducible refine ext_drew ?_ | with_reducible refine ext_drewN ?_ _ | (refine ext_setCell ?_ (by simp at *; omega) _) | with_reducible refine ext_trans ?_ (by assumption)))).mono ?_
      rintro e w3 ⟨rfl, hI3⟩
      have HI3 := Lib.hid hI3
      clear hI3
      by_cases he : e2 = 0
      · subst he
        go_wp2_with (first | (refine wpList_store_part rfl 77 _ _ rfl hb 4 219 _ (hdV h2) HI3.out.heads rfl rfl (by show 4 + 4 ≤ 8; decide) hd_size (hdV_one h2) ?_; intro w5 hA5 hg5 hs5; have HI5 := Lib.hid (HI3.out.put (a' := h1) (b' := h2) HS.out hA5 hg5); clear hA5 hg5 hs5))
        go_roundw
        case rel => exact .inr (.inr ⟨rfl, (by first | rfl | trivial), (by first | rfl | trivial), HI5.out⟩)
        case measure => simp [intOf]
      · have hn1 : (e2 != 0) = true := by simp [he]
        have HE := Lib.hid he
        clear he
        go_wp2_with (first | (refine wpList_store_part rfl 77 _ _ rfl hb 4 219 _ (hdV h2) HI3.out.heads rfl rfl (by show 4 + 4 ≤ 8; decide) hd_size (hdV_one h2) ?_; intro w5 hA5 hg5 hs5; have HI5 := Lib.hid (HI3.out.put (a' := h1) (b' := h2) HS.out hA5 hg5); clear hA5 hg5 hs5) | (refine wpList_store_blk rfl 77 _ _ rfl rr 77 _ #[.int .u64 0, .int .u64 0, .int .i64 0, .int .u32 0] HI5.out.res rfl rfl rfl hd_size (hdV_one Hd.zero) ?_; intro wz hAz hgz hsz; have HAz := Lib.hid hAz; have HGz := Lib.hid hgz; clear hAz hgz hsz))
        refine bodyPost_ret (results_cell_tmp3 Tryz.results54 _ (by rfl) (run_load_blk 77 HAz.out _ Tryz.underlying77 rfl hd_size)) rfl ?_
        have he := HE.out
        rw [show R = ⟨e2, Hd.zero, [], 0, d2⟩ from by rw [HLD.out]; simp [he]]
        exact (HI5.out).out (R := ⟨e2, Hd.zero, [], 0, d2⟩) HS.out HGz.out rfl (fun hne => absurd rfl hne) (Nat.zero_le _)
    · have HI := Lib.hid hI
      have HLT := Lib.hid (show (∀ k, S k → k ≠ wr.heap.size) ∧ rr ≠ wr.heap.size ∧ hb ≠ wr.heap.size ∧ w.heap.size ≤ wr.heap.size from ⟨fun k hk => by have := HS.out _ hk; have := hI.tch.size; omega, by have := hI.res.lt; omega, by have := hI.heads.lt; omega, hI.tch.size⟩)
      clear hI
      by_cases hlt : h1.gen < h2.gen
      · have hlt' : ((h1.gen : Nat) : Int) < ((h2.gen : Nat) : Int) := by omega
        have HR := Lib.hid (show R = ldTwo sl d2 1 0 h2 h1 from by rw [HLD.out]; simp [hlt])
        clear HLD
        go_wp2_with (first | (refine wpList_store_blk rfl 221 _ _ rfl wr.heap.size 221 _ #[.int .i64 0, .int .i64 1] (Arr.fresh wr _ _) rfl rfl rfl two_size (by simp [Value.oneCell']) ?_; intro w5 hA5 hg5 hs5; have hI5 : LdI S w rr hb p d2 h1 h2 w5 := HI.out.below (ext_only (ext_alloc (Below.refl _ _) _) hg5 (Nat.le_refl _)); have g0 : w5.cell? ⟨hb, 0, none⟩ = some (.int .u64 (h1.gen : Nat)) := hI5.heads.cell 0; have g4 : w5.cell? ⟨hb, 4, none⟩ = some (.int .u64 (h2.gen : Nat)) := hI5.heads.cell 4; have HA5 := Lib.hid hA5; have HI5 := Lib.hid hI5; clear hA5 hg5 hs5 hI5) | (refine wpList_store_blk rfl 221 _ _ rfl wr.heap.size 221 _ #[.int .i64 1, .int .i64 0] HA5.out rfl rfl rfl two_size (by simp [Value.oneCell']) ?_; intro w6 hA6 hg6 hs6; have hI6 : LdI S w rr hb p d2 h1 h2 w6 := HI5.out.only hg6 HLT.out; have HA6 := Lib.hid hA6; have HI6 := Lib.hid hI6; clear hA6 hg6 hs6 hI6) | (refine wpList_load_blk rfl 221 _ rfl wr.heap.size 221 _ HA6.out rfl _ Tryz.underlying221 rfl two_size ?_))
        clear hlt hlt' HI HLT
        obtain ⟨ea, ba, da, hTa⟩ : ∃ ea ba da, tryOne sl d2 1 h2 = (ea, ba, da) := ⟨_, _, _, rfl⟩
        obtain ⟨eb, bb, db, hTb⟩ : ∃ eb bb db, tryOne sl da 0 h1 = (eb, bb, db) := ⟨_, _, _, rfl⟩
        have HKA := Lib.hid (show da.dk = d.dk from by have := tryOne_dk sl d2 1 h2; rw [hTa] at this; exact this.trans HK2.out)
        have HTA := Lib.hid hTa; have HTB := Lib.hid hTb
        clear hTa hTb
        have jx0 := idx_int0 1 0
        have jx1 := idx_int1 1 0
        go_loopw [49] (fun k wr => (k = .int .i64 0 ∧ LdI S w rr hb p d2 h1 h2 wr) ∨ (k = .int .i64 1 ∧ ea = 0 ∧ ba = none ∧ LdI S w rr hb p da h1 h2 wr) ∨ (k = .int .i64 2 ∧ (ea = 0 ∧ ba = none) ∧ eb = 0 ∧ bb = none ∧ LdI S w rr hb p db h1 h2 wr)) (fun k _ => (2 - intOf k).toNat)
        case atStart => exact .inl ⟨rfl, HI6.out⟩
        case round =>
          rcases hrel with ⟨rfl, hI⟩ | ⟨rfl, q1, q2, hI⟩ | ⟨rfl, q0, q1, q2, hI⟩
          · have HI := Lib.hid hI
            have o1 : wr.cell? ⟨s, 1, none⟩ = some (.pointer (some ⟨rb, 0, none⟩)) := (HOW.out wr hI.tch).cell 1
            have g1 : wr.cell? ⟨hb, 4, none⟩ = some (.int .u64 (h2.gen : Nat)) := hI.heads.cell 4
            have l1 : wr.cell? ⟨hb, 6, none⟩ = some (.int .i64 (h2.len : Nat)) := hI.heads.cell 6
            clear hI
            by_cases hz : h2.gen = 0
            · rw [hz] at g1
              have hT : (ea, ba, da) = ((0 : Int), (none : Option By), d2) := by rw [← HTA.out]; unfold tryOne; rw [if_pos hz]
              injection hT with q1 q2
              injection q2 with q2 q3
              have HQ := Lib.hid (show ea = 0 ∧ ba = none ∧ da = d2 from ⟨q1, q2, q3⟩)
              clear hz q1 q2 q3
              go_wp2_with fail
              go_roundw
              case rel =>
                obtain ⟨q1, q2, q3⟩ := HQ.out
                exact .inr (.inl ⟨rfl, q1, q2, by rw [q3]; exact HI.out⟩)
              case measure => simp [intOf]
            · have hz1 : ((h2.gen : Nat) == 0) = false := by rw [beq_eq_false_iff_ne]; exact hz
              have hz2 : (((h2.gen : Nat) : Int) == 0) = false := by rw [beq_eq_false_iff_ne]; omega
              obtain ⟨er, bs, D', hrv⟩ : ∃ er bs D', sl.b.read d2 d2.dk.size h2.len = (er, bs, D') := ⟨_, _, _, rfl⟩
              have hTV : (ea, ba, da) = (if er = 0 then ((0 : Int), (if crc 0 bs = h2.sum then some bs else none), D') else (er, none, D')) := by
                rw [← HTA.out]; unfold tryOne; rw [if_neg hz]; rw [show (sl.one 1) = sl.b from rfl, hrv]
              have hbl : bs.length ≤ 268435456 := by
                have h0 := sl.b.read_len d2 d2.dk.size h2.len (by rw [HK2.out, HSE.out]; exact HSZ.out.1)
                rw [hrv] at h0
                exact Nat.le_trans h0 HN2.out
              have HRV := Lib.hid hrv; have HTV := Lib.hid hTV; have HBL := Lib.hid hbl
              clear hz hrv hTV hbl
              go_wp2_with fail
              refine wp_region_held_drew (S := (fun w' => w'.cell? ⟨s, 1, none⟩ = some (.pointer (some ⟨rb, 0, none⟩)) ∧ w'.cell? ⟨hb, 6, none⟩ = some (.int .i64 (h2.len : Nat)))) (by kernel_rfl) (by exact ⟨o1, l1⟩) (fun hHeld => ?_)
              refine tky 0 (some 58) hHeld ?_
              refine tky 1 (some 59) hHeld ?_
              refine tky 2 (some 60) hHeld ?_
              refine tky 3 (some 61) hHeld ?_
              refine tky 4 (some 62) hHeld ?_
              refine tky 5 (some 63) hHeld ?_
              refine tky 6 (some 64) hHeld ?_
              refine tky 7 (some 65) hHeld ?_
              refine tky 8 (some 66) hHeld ?_
              refine tky 9 (some 67) hHeld ?_
              refine tky 10 (some 68) hHeld ?_
              refine tky 11 (some 69) hHeld ?_
              refine tky 12 (some 70) hHeld ?_
              refine tky 13 (some 71) hHeld ?_
              refine tky 15 (some 73) hHeld ?_
              refine tky 16 (some 74) hHeld ?_
              refine tky 17 (some 75) hHeld ?_
              refine tky 18 (some 76) hHeld ?_
              try simp only [Act.put, List.setIfInBounds_toArray, List.set_cons_zero, List.set_cons_succ]
              refine wpAnyH_ready (rs := [14]) (by kernel_rfl) (by simp) ?_
              refine AllReadyH.cons rfl (fun K hK => ?_) AllReadyH.nil
              go_simp
              refine (HRZ.out rb wr.drew (.inr rfl) (HI.out.tch.below (ext_drew (Below.refl _ _)))).mono ?_
              rintro e w2 ⟨rfl, hw2⟩
              rw [hw2]
              clear hw2 w2
              go_wp2_with fail
              refine hK.out _ _ (by exact ⟨o1, l1⟩) (fun hHeld14 => ?_)
              clear hK K
              try simp only [Act.put, List.setIfInBounds_toArray, List.set_cons_zero, List.set_cons_succ]
              try simp only [Act.put, List.setIfInBounds_toArray, List.set_cons_zero, List.set_cons_succ]
              refine wpAnyH_ready (rs := [19]) (by kernel_rfl) (by simp) ?_
              refine AllReadyH.cons rfl (fun K hK => ?_) AllReadyH.nil
              go_simp
              refine (HRD.out rb sl.b d2 h2.len h1 h2 wr wr.drew (.inr ⟨rfl, rfl⟩) HK2.out HN2.out HI.out (ext_drew (Below.refl _ _))).mono ?_
              rw [HRV.out]
              rintro e w3 ⟨⟨A, c, rfl, hbk, hcl⟩, hI3⟩
              have o1' : w3.cell? ⟨s, 1, none⟩ = some (.pointer (some ⟨rb, 0, none⟩)) := (HOW.out w3 hI3.tch).cell 1
              have l1' : w3.cell? ⟨hb, 6, none⟩ = some (.int .i64 (h2.len : Nat)) := hI3.heads.cell 6
              have HI3 := Lib.hid hI3; have HBK := Lib.hid hbk; have HCL := Lib.hid hcl
              clear hI3 hbk hcl
              go_wp2_with fail
              refine hK.out _ _ (by exact ⟨o1', l1'⟩) (fun hHeld19 => ?_)
              clear hK K
              try simp only [Act.put, List.setIfInBounds_toArray, List.set_cons_zero, List.set_cons_succ]
              refine tky 20 (some 57) hHeld19 ?_
              refine tky 21 (some 78) hHeld19 ?_
              refine tky 22 (some 79) hHeld19 ?_
              refine tky 23 (some 13) hHeld19 ?_
              refine tky 24 (some 14) hHeld19 ?_
              try simp only [Act.put, List.setIfInBounds_toArray, List.set_cons_zero, List.set_cons_succ]
              refine wpAnyH_done (by kernel_rfl) ?_ _
              by_cases her : er = 0
              · have HTV2 := Lib.hid (show (ea, ba, da) = ((0 : Int), (if crc 0 bs = h2.sum then some bs else none), D') from by rw [HTV.out, if_pos her])
                subst her
                have m3 : w3.cell? ⟨hb, 7, none⟩ = some (.int .u32 (h2.sum : Nat)) := HI3.out.heads.cell 7
                clear HTV HRV
                go_wp2_with fail
                refine wp_region_held_drew (S := (fun w' => w'.cell? ⟨hb, 7, none⟩ = some (.int .u32 (h2.sum : Nat)))) (by kernel_rfl) (by exact m3) (fun hHeld => ?_)
                refine tky 0 (some 84) hHeld ?_
                refine tky 2 (some 86) hHeld ?_
                refine tky 3 (some 87) hHeld ?_
                refine tky 4 (some 88) hHeld ?_
                refine tky 5 (some 89) hHeld ?_
                try simp only [Act.put, List.setIfInBounds_toArray, List.set_cons_zero, List.set_cons_succ]
                refine wpAnyH_ready (rs := [1]) (by kernel_rfl) (by simp) ?_
                refine AllReadyH.cons rfl (fun K hK => ?_) AllReadyH.nil
                go_simp
                refine (Cr.Sum_in bs A c w3.drew (fun hn => by obtain ⟨g', rfl, _, hbb⟩ := HBK.out hn; exact hbb.bs hn) (HCT.out w3.drew (HI3.out.tch.below (ext_drew (Below.refl _ _)))) (by have := HBL.out; omega)).mono ?_
                rintro e w4 ⟨rfl, hw4⟩
                rw [hw4]
                clear hw4 w4
                go_wp2_with fail
                refine hK.out _ _ (by exact m3) (fun hHeld1 => ?_)
                clear hK K
                try simp only [Act.put, List.setIfInBounds_toArray, List.set_cons_zero, List.set_cons_succ]
                refine tky 6 (some 90) hHeld1 ?_
                try simp only [Act.put, List.setIfInBounds_toArray, List.set_cons_zero, List.set_cons_succ]
                refine wpAnyH_done (by kernel_rfl) ?_ _
                by_cases hsum : crc 0 bs = h2.sum
                · have hsb : ((crc 0 bs : Nat) == (h2.sum : Nat)) = true := by simp [hsum]
                  have hsb2 : (((crc 0 bs : Nat) : Int) == ((h2.sum : Nat) : Int)) = true := by simp [hsum]
                  have HQ := Lib.hid (show (ea, ba, da) = ((0 : Int), some bs, D') from by rw [HTV2.out, if_pos hsum])
                  clear hsum HTV2
                  go_wp2_with (first | (refine wpList_load_part rfl 77 _ rfl hb 4 219 _ (hdV h2).toList HI3.out.heads rfl (hds_part1 h1 h2) _ Tryz.underlying77 rfl hd_size ?_) | (refine wpList_store_blk rfl 77 _ _ rfl rr 77 _ (hdV h2) HI3.out.res rfl rfl rfl hd_size (hdV_one h2) ?_; intro wz hAz hgz hsz; have HAz := Lib.hid hAz; have HGz := Lib.hid hgz; clear hAz hgz hsz))
                  refine bodyPost_ret (results_cell_tmp3 Tryz.results54 _ (by rfl) (run_load_blk 77 HAz.out _ Tryz.underlying77 rfl hd_size)) rfl ?_
                  have hR : R = ⟨0, h2, bs, 1, D'⟩ := by
                    have q0 := HQ.out
                    injection q0 with q1 q2
                    injection q2 with q2 q3
                    rw [HR.out]; unfold ldTwo; rw [HTA.out]; simp only [q1, q2, q3]; rfl
                  rw [hR]
                  exact (HI3.out.below (ext_drew (Below.refl _ _))).out (R := ⟨0, h2, bs, 1, D'⟩) HS.out HGz.out rfl (fun hne => by obtain ⟨g', q1, q2, q3⟩ := HBK.out hne; exact ⟨g', q1, q2, q3.same rfl⟩) HCL.out
                · have hsb : ((crc 0 bs : Nat) == (h2.sum : Nat)) = false := by rw [beq_eq_false_iff_ne]; exact hsum
                  have hsb2 : (((crc 0 bs : Nat) : Int) == ((h2.sum : Nat) : Int)) = false := by rw [beq_eq_false_iff_ne]; omega
                  have HQ := Lib.hid (show (ea, ba, da) = ((0 : Int), (none : Option By), D') from by rw [HTV2.out, if_neg hsum])
                  clear hsum HTV2
                  go_wp2_with fail
                  go_roundw
                  case rel =>
                    have q0 := HQ.out
                    injection q0 with q1 q2
                    injection q2 with q2 q3
                    exact .inr (.inl ⟨rfl, q1, q2, by rw [q3]; exact HI3.out.below (ext_drew (Below.refl _ _))⟩)
                  case measure => simp [intOf]
              · have hn1 : (er != 0) = true := by simp [her]
                have HQ := Lib.hid (show (ea, ba, da) = (er, (none : Option By), D') from by rw [HTV.out, if_neg her])
                have HNE := Lib.hid her
                clear her HTV HRV
                go_wp2_with (first | (refine wpList_store_blk rfl 77 _ _ rfl rr 77 _ #[.int .u64 0, .int .u64 0, .int .i64 0, .int .u32 0] HI3.out.res rfl rfl rfl hd_size (hdV_one Hd.zero) ?_; intro wz hAz hgz hsz; have HAz := Lib.hid hAz; have HGz := Lib.hid hgz; clear hAz hgz hsz))
                refine bodyPost_ret (results_cell_tmp3 Tryz.results54 _ (by rfl) (run_load_blk 77 HAz.out _ Tryz.underlying77 rfl hd_size)) rfl ?_
                have hR : R = ⟨er, Hd.zero, [], 0, D'⟩ := by
                  have q0 := HQ.out
                  injection q0 with q1 q2
                  injection q2 with q2 q3
                  rw [HR.out]; unfold ldTwo; rw [HTA.out]; simp only [q1, q2, q3, if_neg HNE.out]
                rw [hR]
                exact (HI3.out).out (R := ⟨er, Hd.zero, [], 0, D'⟩) HS.out HGz.out rfl (fun hne => absurd rfl hne) (Nat.zero_le _)
          · have HZA := Lib.hid (show ea = 0 ∧ ba = none from ⟨q1, q2⟩)
            clear q1 q2
            have HI := Lib.hid hI
            have o0 : wr.cell? ⟨s, 0, none⟩ = some (.pointer (some ⟨ra, 0, none⟩)) := (HOW.out wr hI.tch).cell 0
            have g0 : wr.cell? ⟨hb, 0, none⟩ = some (.int .u64 (h1.gen : Nat)) := hI.heads.cell 0
            have l0 : wr.cell? ⟨hb, 2, none⟩ = some (.int .i64 (h1.len : Nat)) := hI.heads.cell 2
            clear hI
            by_cases hz : h1.gen = 0
            · rw [hz] at g0
              have hT : (eb, bb, db) = ((0 : Int), (none : Option By), da) := by rw [← HTB.out]; unfold tryOne; rw [if_pos hz]
              injection hT with q1 q2
              injection q2 with q2 q3
              have HQ := Lib.hid (show eb = 0 ∧ bb = none ∧ db = da from ⟨q1, q2, q3⟩)
              clear hz q1 q2 q3
              go_wp2_with fail
              go_roundw
              case rel =>
                obtain ⟨q1, q2, q3⟩ := HQ.out
                exact .inr (.inr ⟨rfl, HZA.out, q1, q2, by rw [q3]; exact HI.out⟩)
              case measure => simp [intOf]
            · have hz1 : ((h1.gen : Nat) == 0) = false := by rw [beq_eq_false_iff_ne]; exact hz
              have hz2 : (((h1.gen : Nat) : Int) == 0) = false := by rw [beq_eq_false_iff_ne]; omega
              obtain ⟨er, bs, D', hrv⟩ : ∃ er bs D', sl.a.read da da.dk.size h1.len = (er, bs, D') := ⟨_, _, _, rfl⟩
              have hTV : (eb, bb, db) = (if er = 0 then ((0 : Int), (if crc 0 bs = h1.sum then some bs else none), D') else (er, none, D')) := by
                rw [← HTB.out]; unfold tryOne; rw [if_neg hz]; rw [show (sl.one 0) = sl.a from rfl, hrv]
              have hbl : bs.length ≤ 268435456 := by
                have h0 := sl.a.read_len da da.dk.size h1.len (by rw [HKA.out, HSE.out]; exact HSZ.out.1)
                rw [hrv] at h0
                exact Nat.le_trans h0 HN1.out
              have HRV := Lib.hid hrv; have HTV := Lib.hid hTV; have HBL := Lib.hid hbl
              clear hz hrv hTV hbl
              go_wp2_with fail
              refine wp_region_held_drew (S := (fun w' => w'.cell? ⟨s, 0, none⟩ = some (.pointer (some ⟨ra, 0, none⟩)) ∧ w'.cell? ⟨hb, 2, none⟩ = some (.int .i64 (h1.len : Nat)))) (by kernel_rfl) (by exact ⟨o0, l0⟩) (fun hHeld => ?_)
              refine tky 0 (some 58) hHeld ?_
              refine tky 1 (some 59) hHeld ?_
              refine tky 2 (some 60) hHeld ?_
              refine tky 3 (some 61) hHeld ?_
              refine tky 4 (some 62) hHeld ?_
              refine tky 5 (some 63) hHeld ?_
              refine tky 6 (some 64) hHeld ?_
              refine tky 7 (some 65) hHeld ?_
              refine tky 8 (some 66) hHeld ?_
              refine tky 9 (some 67) hHeld ?_
              refine tky 10 (some 68) hHeld ?_
              refine tky 11 (some 69) hHeld ?_
              refine tky 12 (some 70) hHeld ?_
              refine tky 13 (some 71) hHeld ?_
              refine tky 15 (some 73) hHeld ?_
              refine tky 16 (some 74) hHeld ?_
              refine tky 17 (some 75) hHeld ?_
              refine tky 18 (some 76) hHeld ?_
              try simp only [Act.put, List.setIfInBounds_toArray, List.set_cons_zero, List.set_cons_succ]
              refine wpAnyH_ready (rs := [14]) (by kernel_rfl) (by simp) ?_
              refine AllReadyH.cons rfl (fun K hK => ?_) AllReadyH.nil
              go_simp
              refine (HRZ.out ra wr.drew (.inl rfl) (HI.out.tch.below (ext_drew (Below.refl _ _)))).mono ?_
              rintro e w2 ⟨rfl, hw2⟩
              rw [hw2]
              clear hw2 w2
              go_wp2_with fail
              refine hK.out _ _ (by exact ⟨o0, l0⟩) (fun hHeld14 => ?_)
              clear hK K
              try simp only [Act.put, List.setIfInBounds_toArray, List.set_cons_zero, List.set_cons_succ]
              try simp only [Act.put, List.setIfInBounds_toArray, List.set_cons_zero, List.set_cons_succ]
              refine wpAnyH_ready (rs := [19]) (by kernel_rfl) (by simp) ?_
              refine AllReadyH.cons rfl (fun K hK => ?_) AllReadyH.nil
              go_simp
              refine (HRD.out ra sl.a da h1.len h1 h2 wr wr.drew (.inl ⟨rfl, rfl⟩) HKA.out HN1.out HI.out (ext_drew (Below.refl _ _))).mono ?_
              rw [HRV.out]
              rintro e w3 ⟨⟨A, c, rfl, hbk, hcl⟩, hI3⟩
              have o0' : w3.cell? ⟨s, 0, none⟩ = some (.pointer (some ⟨ra, 0, none⟩)) := (HOW.out w3 hI3.tch).cell 0
              have l0' : w3.cell? ⟨hb, 2, none⟩ = some (.int .i64 (h1.len : Nat)) := hI3.heads.cell 2
              have HI3 := Lib.hid hI3; have HBK := Lib.hid hbk; have HCL := Lib.hid hcl
              clear hI3 hbk hcl
              go_wp2_with fail
              refine hK.out _ _ (by exact ⟨o0', l0'⟩) (fun hHeld19 => ?_)
              clear hK K
              try simp only [Act.put, List.setIfInBounds_toArray, List.set_cons_zero, List.set_cons_succ]
              refine tky 20 (some 57) hHeld19 ?_
              refine tky 21 (some 78) hHeld19 ?_
              refine tky 22 (some 79) hHeld19 ?_
              refine tky 23 (some 13) hHeld19 ?_
              refine tky 24 (some 14) hHeld19 ?_
              try simp only [Act.put, List.setIfInBounds_toArray, List.set_cons_zero, List.set_cons_succ]
              refine wpAnyH_done (by kernel_rfl) ?_ _
              by_cases her : er = 0
              · have HTV2 := Lib.hid (show (eb, bb, db) = ((0 : Int), (if crc 0 bs = h1.sum then some bs else none), D') from by rw [HTV.out, if_pos her])
                subst her
                have m3 : w3.cell? ⟨hb, 3, none⟩ = some (.int .u32 (h1.sum : Nat)) := HI3.out.heads.cell 3
                clear HTV HRV
                go_wp2_with fail
                refine wp_region_held_drew (S := (fun w' => w'.cell? ⟨hb, 3, none⟩ = some (.int .u32 (h1.sum : Nat)))) (by kernel_rfl) (by exact m3) (fun hHeld => ?_)
                refine tky 0 (some 84) hHeld ?_
                refine tky 2 (some 86) hHeld ?_
                refine tky 3 (some 87) hHeld ?_
                refine tky 4 (some 88) hHeld ?_
                refine tky 5 (some 89) hHeld ?_
                try simp only [Act.put, List.setIfInBounds_toArray, List.set_cons_zero, List.set_cons_succ]
                refine wpAnyH_ready (rs := [1]) (by kernel_rfl) (by simp) ?_
                refine AllReadyH.cons rfl (fun K hK => ?_) AllReadyH.nil
                go_simp
                refine (Cr.Sum_in bs A c w3.drew (fun hn => by obtain ⟨g', rfl, _, hbb⟩ := HBK.out hn; exact hbb.bs hn) (HCT.out w3.drew (HI3.out.tch.below (ext_drew (Below.refl _ _)))) (by have := HBL.out; omega)).mono ?_
                rintro e w4 ⟨rfl, hw4⟩
                rw [hw4]
                clear hw4 w4
                go_wp2_with fail
                refine hK.out _ _ (by exact m3) (fun hHeld1 => ?_)
                clear hK K
                try simp only [Act.put, List.setIfInBounds_toArray, List.set_cons_zero, List.set_cons_succ]
                refine tky 6 (some 90) hHeld1 ?_
                try simp only [Act.put, List.setIfInBounds_toArray, List.set_cons_zero, List.set_cons_succ]
                refine wpAnyH_done (by kernel_rfl) ?_ _
                by_cases hsum : crc 0 bs = h1.sum
                · have hsb : ((crc 0 bs : Nat) == (h1.sum : Nat)) = true := by simp [hsum]
                  have hsb2 : (((crc 0 bs : Nat) : Int) == ((h1.sum : Nat) : Int)) = true := by simp [hsum]
                  have HQ := Lib.hid (show (eb, bb, db) = ((0 : Int), some bs, D') from by rw [HTV2.out, if_pos hsum])
                  clear hsum HTV2
                  go_wp2_with (first | (refine wpList_load_part rfl 77 _ rfl hb 0 219 _ (hdV h1).toList HI3.out.heads rfl (hds_part0 h1 h2) _ Tryz.underlying77 rfl hd_size ?_) | (refine wpList_store_blk rfl 77 _ _ rfl rr 77 _ (hdV h1) HI3.out.res rfl rfl rfl hd_size (hdV_one h1) ?_; intro wz hAz hgz hsz; have HAz := Lib.hid hAz; have HGz := Lib.hid hgz; clear hAz hgz hsz))
                  refine bodyPost_ret (results_cell_tmp3 Tryz.results54 _ (by rfl) (run_load_blk 77 HAz.out _ Tryz.underlying77 rfl hd_size)) rfl ?_
                  have hR : R = ⟨0, h1, bs, 0, D'⟩ := by
                    have q0 := HQ.out
                    injection q0 with q1 q2
                    injection q2 with q2 q3
                    rw [HR.out]; unfold ldTwo; rw [HTA.out]; simp only [HZA.out.1, HZA.out.2, if_true, HTB.out, q1, q2, q3]; rfl
                  rw [hR]
                  exact (HI3.out.below (ext_drew (Below.refl _ _))).out (R := ⟨0, h1, bs, 0, D'⟩) HS.out HGz.out rfl (fun hne => by obtain ⟨g', q1, q2, q3⟩ := HBK.out hne; exact ⟨g', q1, q2, q3.same rfl⟩) HCL.out
                · have hsb : ((crc 0 bs : Nat) == (h1.sum : Nat)) = false := by rw [beq_eq_false_iff_ne]; exact hsum
                  have hsb2 : (((crc 0 bs : Nat) : Int) == ((h1.sum : Nat) : Int)) = false := by rw [beq_eq_false_iff_ne]; omega
                  have HQ := Lib.hid (show (eb, bb, db) = ((0 : Int), (none : Option By), D') from by rw [HTV2.out, if_neg hsum])
                  clear hsum HTV2
                  go_wp2_with fail
                  go_roundw
                  case rel =>
                    have q0 := HQ.out
                    injection q0 with q1 q2
                    injection q2 with q2 q3
                    exact .inr (.inr ⟨rfl, HZA.out, q1, q2, by rw [q3]; exact HI3.out.below (ext_drew (Below.refl _ _))⟩)
                  case measure => simp [intOf]
              · have hn1 : (er != 0) = true := by simp [her]
                have HQ := Lib.hid (show (eb, bb, db) = (er, (none : Option By), D') from by rw [HTV.out, if_neg her])
                have HNE := Lib.hid her
                clear her HTV HRV
                go_wp2_with (first | (refine wpList_store_blk rfl 77 _ _ rfl rr 77 _ #[.int .u64 0, .int .u64 0, .int .i64 0, .int .u32 0] HI3.out.res rfl rfl rfl hd_size (hdV_one Hd.zero) ?_; intro wz hAz hgz hsz; have HAz := Lib.hid hAz; have HGz := Lib.hid hgz; clear hAz hgz hsz))
                refine bodyPost_ret (results_cell_tmp3 Tryz.results54 _ (by rfl) (run_load_blk 77 HAz.out _ Tryz.underlying77 rfl hd_size)) rfl ?_
                have hR : R = ⟨er, Hd.zero, [], 0, D'⟩ := by
                  have q0 := HQ.out
                  injection q0 with q1 q2
                  injection q2 with q2 q3
                  rw [HR.out]; unfold ldTwo; rw [HTA.out]; simp only [HZA.out.1, HZA.out.2, if_true, HTB.out, q1, q2, q3, if_neg HNE.out]
                rw [hR]
                exact (HI3.out).out (R := ⟨er, Hd.zero, [], 0, D'⟩) HS.out HGz.out rfl (fun hne => absurd rfl hne) (Nat.zero_le _)
          · have HI := Lib.hid hI
            have HZA := Lib.hid (show (ea = 0 ∧ ba = none) ∧ eb = 0 ∧ bb = none from ⟨q0, q1, q2⟩)
            clear hI q0 q1 q2
            go_wp2_with (first | (refine wpList_store_blk rfl 77 _ _ rfl rr 77 _ #[.int .u64 0, .int .u64 0, .int .i64 0, .int .u32 0] HI.out.res rfl rfl rfl hd_size (hdV_one Hd.zero) ?_; intro wz hAz hgz hsz; have HAz := Lib.hid hAz; have HGz := Lib.hid hgz; clear hAz hgz hsz))
            refine bodyPost_ret (results_cell_tmp3 Tryz.results54 _ (by rfl) (run_load_blk 77 HAz.out _ Tryz.underlying77 rfl hd_size)) rfl ?_
            have hR : R = ⟨0, Hd.zero, [], -1, db⟩ := by
              rw [HR.out]; unfold ldTwo; rw [HTA.out]; simp only [HZA.out.1.1, HZA.out.1.2, if_true, HTB.out, HZA.out.2.1, HZA.out.2.2]
            rw [hR]
            exact (HI.out).out (R := ⟨0, Hd.zero, [], -1, db⟩) HS.out HGz.out rfl (fun hne => absurd rfl hne) (Nat.zero_le _)
      · have hlt' : ¬ ((h1.gen : Nat) : Int) < ((h2.gen : Nat) : Int) := by omega
        have HR := Lib.hid (show R = ldTwo sl d2 0 1 h1 h2 from by rw [HLD.out]; simp [hlt])
        clear HLD
        go_wp2_with (first | (refine wpList_store_blk rfl 221 _ _ rfl wr.heap.size 221 _ #[.int .i64 0, .int .i64 1] (Arr.fresh wr _ _) rfl rfl rfl two_size (by simp [Value.oneCell']) ?_; intro w5 hA5 hg5 hs5; have hI5 : LdI S w rr hb p d2 h1 h2 w5 := HI.out.below (ext_only (ext_alloc (Below.refl _ _) _) hg5 (Nat.le_refl _)); have g0 : w5.cell? ⟨hb, 0, none⟩ = some (.int .u64 (h1.gen : Nat)) := hI5.heads.cell 0; have g4 : w5.cell? ⟨hb, 4, none⟩ = some (.int .u64 (h2.gen : Nat)) := hI5.heads.cell 4; have HA5 := Lib.hid hA5; have HI6 := Lib.hid hI5; clear hA5 hg5 hs5 hI5) | (refine wpList_load_blk rfl 221 _ rfl wr.heap.size 221 _ HA5.out rfl _ Tryz.underlying221 rfl two_size ?_))
        clear hlt hlt' HI HLT
        obtain ⟨ea, ba, da, hTa⟩ : ∃ ea ba da, tryOne sl d2 0 h1 = (ea, ba, da) := ⟨_, _, _, rfl⟩
        obtain ⟨eb, bb, db, hTb⟩ : ∃ eb bb db, tryOne sl da 1 h2 = (eb, bb, db) := ⟨_, _, _, rfl⟩
        have HKA := Lib.hid (show da.dk = d.dk from by have := tryOne_dk sl d2 0 h1; rw [hTa] at this; exact this.trans HK2.out)
        have HTA := Lib.hid hTa; have HTB := Lib.hid hTb
        clear hTa hTb
        have jx0 := idx_int0 0 1
        have jx1 := idx_int1 0 1
        go_loopw [49] (fun k wr => (k = .int .i64 0 ∧ LdI S w rr hb p d2 h1 h2 wr) ∨ (k = .int .i64 1 ∧ ea = 0 ∧ ba = none ∧ LdI S w rr hb p da h1 h2 wr) ∨ (k = .int .i64 2 ∧ (ea = 0 ∧ ba = none) ∧ eb = 0 ∧ bb = none ∧ LdI S w rr hb p db h1 h2 wr)) (fun k _ => (2 - intOf k).toNat)
        case atStart => exact .inl ⟨rfl, HI6.out⟩
        case round =>
          rcases hrel with ⟨rfl, hI⟩ | ⟨rfl, q1, q2, hI⟩ | ⟨rfl, q0, q1, q2, hI⟩
          · have HI := Lib.hid hI
            have o0 : wr.cell? ⟨s, 0, none⟩ = some (.pointer (some ⟨ra, 0, none⟩)) := (HOW.out wr hI.tch).cell 0
            have g0 : wr.cell? ⟨hb, 0, none⟩ = some (.int .u64 (h1.gen : Nat)) := hI.heads.cell 0
            have l0 : wr.cell? ⟨hb, 2, none⟩ = some (.int .i64 (h1.len : Nat)) := hI.heads.cell 2
            clear hI
            by_cases hz : h1.gen = 0
            · rw [hz] at g0
              have hT : (ea, ba, da) = ((0 : Int), (none : Option By), d2) := by rw [← HTA.out]; unfold tryOne; rw [if_pos hz]
              injection hT with q1 q2
              injection q2 with q2 q3
              have HQ := Lib.hid (show ea = 0 ∧ ba = none ∧ da = d2 from ⟨q1, q2, q3⟩)
              clear hz q1 q2 q3
              go_wp2_with fail
              go_roundw
              case rel =>
                obtain ⟨q1, q2, q3⟩ := HQ.out
                exact .inr (.inl ⟨rfl, q1, q2, by rw [q3]; exact HI.out⟩)
              case measure => simp [intOf]
            · have hz1 : ((h1.gen : Nat) == 0) = false := by rw [beq_eq_false_iff_ne]; exact hz
              have hz2 : (((h1.gen : Nat) : Int) == 0) = false := by rw [beq_eq_false_iff_ne]; omega
              obtain ⟨er, bs, D', hrv⟩ : ∃ er bs D', sl.a.read d2 d2.dk.size h1.len = (er, bs, D') := ⟨_, _, _, rfl⟩
              have hTV : (ea, ba, da) = (if er = 0 then ((0 : Int), (if crc 0 bs = h1.sum then some bs else none), D') else (er, none, D')) := by
                rw [← HTA.out]; unfold tryOne; rw [if_neg hz]; rw [show (sl.one 0) = sl.a from rfl, hrv]
              have hbl : bs.length ≤ 268435456 := by
                have h0 := sl.a.read_len d2 d2.dk.size h1.len (by rw [HK2.out, HSE.out]; exact HSZ.out.1)
                rw [hrv] at h0
                exact Nat.le_trans h0 HN1.out
              have HRV := Lib.hid hrv; have HTV := Lib.hid hTV; have HBL := Lib.hid hbl
              clear hz hrv hTV hbl
              go_wp2_with fail
              refine wp_region_held_drew (S := (fun w' => w'.cell? ⟨s, 0, none⟩ = some (.pointer (some ⟨ra, 0, none⟩)) ∧ w'.cell? ⟨hb, 2, none⟩ = some (.int .i64 (h1.len : Nat)))) (by kernel_rfl) (by exact ⟨o0, l0⟩) (fun hHeld => ?_)
              refine tky 0 (some 58) hHeld ?_
              refine tky 1 (some 59) hHeld ?_
              refine tky 2 (some 60) hHeld ?_
              refine tky 3 (some 61) hHeld ?_
              refine tky 4 (some 62) hHeld ?_
              refine tky 5 (some 63) hHeld ?_
              refine tky 6 (some 64) hHeld ?_
              refine tky 7 (some 65) hHeld ?_
              refine tky 8 (some 66) hHeld ?_
              refine tky 9 (some 67) hHeld ?_
              refine tky 10 (some 68) hHeld ?_
              refine tky 11 (some 69) hHeld ?_
              refine tky 12 (some 70) hHeld ?_
              refine tky 13 (some 71) hHeld ?_
              refine tky 15 (some 73) hHeld ?_
              refine tky 16 (some 74) hHeld ?_
              refine tky 17 (some 75) hHeld ?_
              refine tky 18 (some 76) hHeld ?_
              try simp only [Act.put, List.setIfInBounds_toArray, List.set_cons_zero, List.set_cons_succ]
              refine wpAnyH_ready (rs := [14]) (by kernel_rfl) (by simp) ?_
              refine AllReadyH.cons rfl (fun K hK => ?_) AllReadyH.nil
              go_simp
              refine (HRZ.out ra wr.drew (.inl rfl) (HI.out.tch.below (ext_drew (Below.refl _ _)))).mono ?_
              rintro e w2 ⟨rfl, hw2⟩
              rw [hw2]
              clear hw2 w2
              go_wp2_with fail
              refine hK.out _ _ (by exact ⟨o0, l0⟩) (fun hHeld14 => ?_)
              clear hK K
              try simp only [Act.put, List.setIfInBounds_toArray, List.set_cons_zero, List.set_cons_succ]
              try simp only [Act.put, List.setIfInBounds_toArray, List.set_cons_zero, List.set_cons_succ]
              refine wpAnyH_ready (rs := [19]) (by kernel_rfl) (by simp) ?_
              refine AllReadyH.cons rfl (fun K hK => ?_) AllReadyH.nil
              go_simp
              refine (HRD.out ra sl.a d2 h1.len h1 h2 wr wr.drew (.inl ⟨rfl, rfl⟩) HK2.out HN1.out HI.out (ext_drew (Below.refl _ _))).mono ?_
              rw [HRV.out]
              rintro e w3 ⟨⟨A, c, rfl, hbk, hcl⟩, hI3⟩
              have o0' : w3.cell? ⟨s, 0, none⟩ = some (.pointer (some ⟨ra, 0, none⟩)) := (HOW.out w3 hI3.tch).cell 0
              have l0' : w3.cell? ⟨hb, 2, none⟩ = some (.int .i64 (h1.len : Nat)) := hI3.heads.cell 2
              have HI3 := Lib.hid hI3; have HBK := Lib.hid hbk; have HCL := Lib.hid hcl
              clear hI3 hbk hcl
              go_wp2_with fail
              refine hK.out _ _ (by exact ⟨o0', l0'⟩) (fun hHeld19 => ?_)
              clear hK K
              try simp only [Act.put, List.setIfInBounds_toArray, List.set_cons_zero, List.set_cons_succ]
              refine tky 20 (some 57) hHeld19 ?_
              refine tky 21 (some 78) hHeld19 ?_
              refine tky 22 (some 79) hHeld19 ?_
              refine tky 23 (some 13) hHeld19 ?_
              refine tky 24 (some 14) hHeld19 ?_
              try simp only [Act.put, List.setIfInBounds_toArray, List.set_cons_zero, List.set_cons_succ]
              refine wpAnyH_done (by kernel_rfl) ?_ _
              by_cases her : er = 0
              · have HTV2 := Lib.hid (show (ea, ba, da) = ((0 : Int), (if crc 0 bs = h1.sum then some bs else none), D') from by rw [HTV.out, if_pos her])
                subst her
                have m3 : w3.cell? ⟨hb, 3, none⟩ = some (.int .u32 (h1.sum : Nat)) := HI3.out.heads.cell 3
                clear HTV HRV
                go_wp2_with fail
                refine wp_region_held_drew (S := (fun w' => w'.cell? ⟨hb, 3, none⟩ = some (.int .u32 (h1.sum : Nat)))) (by kernel_rfl) (by exact m3) (fun hHeld => ?_)
                refine tky 0 (some 84) hHeld ?_
                refine tky 2 (some 86) hHeld ?_
                refine tky 3 (some 87) hHeld ?_
                refine tky 4 (some 88) hHeld ?_
                refine tky 5 (some 89) hHeld ?_
                try simp only [Act.put, List.setIfInBounds_toArray, List.set_cons_zero, List.set_cons_succ]
                refine wpAnyH_ready (rs := [1]) (by kernel_rfl) (by simp) ?_
                refine AllReadyH.cons rfl (fun K hK => ?_) AllReadyH.nil
                go_simp
                refine (Cr.Sum_in bs A c w3.drew (fun hn => by obtain ⟨g', rfl, _, hbb⟩ := HBK.out hn; exact hbb.bs hn) (HCT.out w3.drew (HI3.out.tch.below (ext_drew (Below.refl _ _)))) (by have := HBL.out; omega)).mono ?_
                rintro e w4 ⟨rfl, hw4⟩
                rw [hw4]
                clear hw4 w4
                go_wp2_with fail
                refine hK.out _ _ (by exact m3) (fun hHeld1 => ?_)
                clear hK K
                try simp only [Act.put, List.setIfInBounds_toArray, List.set_cons_zero, List.set_cons_succ]
                refine tky 6 (some 90) hHeld1 ?_
                try simp only [Act.put, List.setIfInBounds_toArray, List.set_cons_zero, List.set_cons_succ]
                refine wpAnyH_done (by kernel_rfl) ?_ _
                by_cases hsum : crc 0 bs = h1.sum
                · have hsb : ((crc 0 bs : Nat) == (h1.sum : Nat)) = true := by simp [hsum]
                  have hsb2 : (((crc 0 bs : Nat) : Int) == ((h1.sum : Nat) : Int)) = true := by simp [hsum]
                  have HQ := Lib.hid (show (ea, ba, da) = ((0 : Int), some bs, D') from by rw [HTV2.out, if_pos hsum])
                  clear hsum HTV2
                  go_wp2_with (first | (refine wpList_load_part rfl 77 _ rfl hb 0 219 _ (hdV h1).toList HI3.out.heads rfl (hds_part0 h1 h2) _ Tryz.underlying77 rfl hd_size ?_) | (refine wpList_store_blk rfl 77 _ _ rfl rr 77 _ (hdV h1) HI3.out.res rfl rfl rfl hd_size (hdV_one h1) ?_; intro wz hAz hgz hsz; have HAz := Lib.hid hAz; have HGz := Lib.hid hgz; clear hAz hgz hsz))
                  refine bodyPost_ret (results_cell_tmp3 Tryz.results54 _ (by rfl) (run_load_blk 77 HAz.out _ Tryz.underlying77 rfl hd_size)) rfl ?_
                  have hR : R = ⟨0, h1, bs, 0, D'⟩ := by
                    have q0 := HQ.out
                    injection q0 with q1 q2
                    injection q2 with q2 q3
                    rw [HR.out]; unfold ldTwo; rw [HTA.out]; simp only [q1, q2, q3]; rfl
                  rw [hR]
                  exact (HI3.out.below (ext_drew (Below.refl _ _))).out (R := ⟨0, h1, bs, 0, D'⟩) HS.out HGz.out rfl (fun hne => by obtain ⟨g', q1, q2, q3⟩ := HBK.out hne; exact ⟨g', q1, q2, q3.same rfl⟩) HCL.out
                · have hsb : ((crc 0 bs : Nat) == (h1.sum : Nat)) = false := by rw [beq_eq_false_iff_ne]; exact hsum
                  have hsb2 : (((crc 0 bs : Nat) : Int) == ((h1.sum : Nat) : Int)) = false := by rw [beq_eq_false_iff_ne]; omega
                  have HQ := Lib.hid (show (ea, ba, da) = ((0 : Int), (none : Option By), D') from by rw [HTV2.out, if_neg hsum])
                  clear hsum HTV2
                  go_wp2_with fail
                  go_roundw
                  case rel =>
                    have q0 := HQ.out
                    injection q0 with q1 q2
                    injection q2 with q2 q3
                    exact .inr (.inl ⟨rfl, q1, q2, by rw [q3]; exact HI3.out.below (ext_drew (Below.refl _ _))⟩)
                  case measure => simp [intOf]
              · have hn1 : (er != 0) = true := by simp [her]
                have HQ := Lib.hid (show (ea, ba, da) = (er, (none : Option By), D') from by rw [HTV.out, if_neg her])
                have HNE := Lib.hid her
                clear her HTV HRV
                go_wp2_with (first | (refine wpList_store_blk rfl 77 _ _ rfl rr 77 _ #[.int .u64 0, .int .u64 0, .int .i64 0, .int .u32 0] HI3.out.res rfl rfl rfl hd_size (hdV_one Hd.zero) ?_; intro wz hAz hgz hsz; have HAz := Lib.hid hAz; have HGz := Lib.hid hgz; clear hAz hgz hsz))
                refine bodyPost_ret (results_cell_tmp3 Tryz.results54 _ (by rfl) (run_load_blk 77 HAz.out _ Tryz.underlying77 rfl hd_size)) rfl ?_
                have hR : R = ⟨er, Hd.zero, [], 0, D'⟩ := by
                  have q0 := HQ.out
                  injection q0 with q1 q2
                  injection q2 with q2 q3
                  rw [HR.out]; unfold ldTwo; rw [HTA.out]; simp only [q1, q2, q3, if_neg HNE.out]
                rw [hR]
                exact (HI3.out).out (R := ⟨er, Hd.zero, [], 0, D'⟩) HS.out HGz.out rfl (fun hne => absurd rfl hne) (Nat.zero_le _)
          · have HZA := Lib.hid (show ea = 0 ∧ ba = none from ⟨q1, q2⟩)
            clear q1 q2
            have HI := Lib.hid hI
            have o1 : wr.cell? ⟨s, 1, none⟩ = some (.pointer (some ⟨rb, 0, none⟩)) := (HOW.out wr hI.tch).cell 1
            have g1 : wr.cell? ⟨hb, 4, none⟩ = some (.int .u64 (h2.gen : Nat)) := hI.heads.cell 4
            have l1 : wr.cell? ⟨hb, 6, none⟩ = some (.int .i64 (h2.len : Nat)) := hI.heads.cell 6
            clear hI
            by_cases hz : h2.gen = 0
            · rw [hz] at g1
              have hT : (eb, bb, db) = ((0 : Int), (none : Option By), da) := by rw [← HTB.out]; unfold tryOne; rw [if_pos hz]
              injection hT with q1 q2
              injection q2 with q2 q3
              have HQ := Lib.hid (show eb = 0 ∧ bb = none ∧ db = da from ⟨q1, q2, q3⟩)
              clear hz q1 q2 q3
              go_wp2_with fail
              go_roundw
              case rel =>
                obtain ⟨q1, q2, q3⟩ := HQ.out
                exact .inr (.inr ⟨rfl, HZA.out, q1, q2, by rw [q3]; exact HI.out⟩)
              case measure => simp [intOf]
            · have hz1 : ((h2.gen : Nat) == 0) = false := by rw [beq_eq_false_iff_ne]; exact hz
              have hz2 : (((h2.gen : Nat) : Int) == 0) = false := by rw [beq_eq_false_iff_ne]; omega
              obtain ⟨er, bs, D', hrv⟩ : ∃ er bs D', sl.b.read da da.dk.size h2.len = (er, bs, D') := ⟨_, _, _, rfl⟩
              have hTV : (eb, bb, db) = (if er = 0 then ((0 : Int), (if crc 0 bs = h2.sum then some bs else none), D') else (er, none, D')) := by
                rw [← HTB.out]; unfold tryOne; rw [if_neg hz]; rw [show (sl.one 1) = sl.b from rfl, hrv]
              have hbl : bs.length ≤ 268435456 := by
                have h0 := sl.b.read_len da da.dk.size h2.len (by rw [HKA.out, HSE.out]; exact HSZ.out.1)
                rw [hrv] at h0
                exact Nat.le_trans h0 HN2.out
              have HRV := Lib.hid hrv; have HTV := Lib.hid hTV; have HBL := Lib.hid hbl
              clear hz hrv hTV hbl
              go_wp2_with fail
              refine wp_region_held_drew (S := (fun w' => w'.cell? ⟨s, 1, none⟩ = some (.pointer (some ⟨rb, 0, none⟩)) ∧ w'.cell? ⟨hb, 6, none⟩ = some (.int .i64 (h2.len : Nat)))) (by kernel_rfl) (by exact ⟨o1, l1⟩) (fun hHeld => ?_)
              refine tky 0 (some 58) hHeld ?_
              refine tky 1 (some 59) hHeld ?_
              refine tky 2 (some 60) hHeld ?_
              refine tky 3 (some 61) hHeld ?_
              refine tky 4 (some 62) hHeld ?_
              refine tky 5 (some 63) hHeld ?_
              refine tky 6 (some 64) hHeld ?_
              refine tky 7 (some 65) hHeld ?_
              refine tky 8 (some 66) hHeld ?_
              refine tky 9 (some 67) hHeld ?_
              refine tky 10 (some 68) hHeld ?_
              refine tky 11 (some 69) hHeld ?_
              refine tky 12 (some 70) hHeld ?_
              refine tky 13 (some 71) hHeld ?_
              refine tky 15 (some 73) hHeld ?_
              refine tky 16 (some 74) hHeld ?_
              refine tky 17 (some 75) hHeld ?_
              refine tky 18 (some 76) hHeld ?_
              try simp only [Act.put, List.setIfInBounds_toArray, List.set_cons_zero, List.set_cons_succ]
              refine wpAnyH_ready (rs := [14]) (by kernel_rfl) (by simp) ?_
              refine AllReadyH.cons rfl (fun K hK => ?_) AllReadyH.nil
              go_simp
              refine (HRZ.out rb wr.drew (.inr rfl) (HI.out.tch.below (ext_drew (Below.refl _ _)))).mono ?_
              rintro e w2 ⟨rfl, hw2⟩
              rw [hw2]
              clear hw2 w2
              go_wp2_with fail
              refine hK.out _ _ (by exact ⟨o1, l1⟩) (fun hHeld14 => ?_)
              clear hK K
              try simp only [Act.put, List.setIfInBounds_toArray, List.set_cons_zero, List.set_cons_succ]
              try simp only [Act.put, List.setIfInBounds_toArray, List.set_cons_zero, List.set_cons_succ]
              refine wpAnyH_ready (rs := [19]) (by kernel_rfl) (by simp) ?_
              refine AllReadyH.cons rfl (fun K hK => ?_) AllReadyH.nil
              go_simp
              refine (HRD.out rb sl.b da h2.len h1 h2 wr wr.drew (.inr ⟨rfl, rfl⟩) HKA.out HN2.out HI.out (ext_drew (Below.refl _ _))).mono ?_
              rw [HRV.out]
              rintro e w3 ⟨⟨A, c, rfl, hbk, hcl⟩, hI3⟩
              have o1' : w3.cell? ⟨s, 1, none⟩ = some (.pointer (some ⟨rb, 0, none⟩)) := (HOW.out w3 hI3.tch).cell 1
              have l1' : w3.cell? ⟨hb, 6, none⟩ = some (.int .i64 (h2.len : Nat)) := hI3.heads.cell 6
              have HI3 := Lib.hid hI3; have HBK := Lib.hid hbk; have HCL := Lib.hid hcl
              clear hI3 hbk hcl
              go_wp2_with fail
              refine hK.out _ _ (by exact ⟨o1', l1'⟩) (fun hHeld19 => ?_)
              clear hK K
              try simp only [Act.put, List.setIfInBounds_toArray, List.set_cons_zero, List.set_cons_succ]
              refine tky 20 (some 57) hHeld19 ?_
              refine tky 21 (some 78) hHeld19 ?_
              refine tky 22 (some 79) hHeld19 ?_
              refine tky 23 (some 13) hHeld19 ?_
              refine tky 24 (some 14) hHeld19 ?_
              try simp only [Act.put, List.setIfInBounds_toArray, List.set_cons_zero, List.set_cons_succ]
              refine wpAnyH_done (by kernel_rfl) ?_ _
              by_cases her : er = 0
              · have HTV2 := Lib.hid (show (eb, bb, db) = ((0 : Int), (if crc 0 bs = h2.sum then some bs else none), D') from by rw [HTV.out, if_pos her])
                subst her
                have m3 : w3.cell? ⟨hb, 7, none⟩ = some (.int .u32 (h2.sum : Nat)) := HI3.out.heads.cell 7
                clear HTV HRV
                go_wp2_with fail
                refine wp_region_held_drew (S := (fun w' => w'.cell? ⟨hb, 7, none⟩ = some (.int .u32 (h2.sum : Nat)))) (by kernel_rfl) (by exact m3) (fun hHeld => ?_)
                refine tky 0 (some 84) hHeld ?_
                refine tky 2 (some 86) hHeld ?_
                refine tky 3 (some 87) hHeld ?_
                refine tky 4 (some 88) hHeld ?_
                refine tky 5 (some 89) hHeld ?_
                try simp only [Act.put, List.setIfInBounds_toArray, List.set_cons_zero, List.set_cons_succ]
                refine wpAnyH_ready (rs := [1]) (by kernel_rfl) (by simp) ?_
                refine AllReadyH.cons rfl (fun K hK => ?_) AllReadyH.nil
                go_simp
                refine (Cr.Sum_in bs A c w3.drew (fun hn => by obtain ⟨g', rfl, _, hbb⟩ := HBK.out hn; exact hbb.bs hn) (HCT.out w3.drew (HI3.out.tch.below (ext_drew (Below.refl _ _)))) (by have := HBL.out; omega)).mono ?_
                rintro e w4 ⟨rfl, hw4⟩
                rw [hw4]
                clear hw4 w4
                go_wp2_with fail
                refine hK.out _ _ (by exact m3) (fun hHeld1 => ?_)
                clear hK K
                try simp only [Act.put, List.setIfInBounds_toArray, List.set_cons_zero, List.set_cons_succ]
                refine tky 6 (some 90) hHeld1 ?_
                try simp only [Act.put, List.setIfInBounds_toArray, List.set_cons_zero, List.set_cons_succ]
                refine wpAnyH_done (by kernel_rfl) ?_ _
                by_cases hsum : crc 0 bs = h2.sum
                · have hsb : ((crc 0 bs : Nat) == (h2.sum : Nat)) = true := by simp [hsum]
                  have hsb2 : (((crc 0 bs : Nat) : Int) == ((h2.sum : Nat) : Int)) = true := by simp [hsum]
                  have HQ := Lib.hid (show (eb, bb, db) = ((0 : Int), some bs, D') from by rw [HTV2.out, if_pos hsum])
                  clear hsum HTV2
                  go_wp2_with (first | (refine wpList_load_part rfl 77 _ rfl hb 4 219 _ (hdV h2).toList HI3.out.heads rfl (hds_part1 h1 h2) _ Tryz.underlying77 rfl hd_size ?_) | (refine wpList_store_blk rfl 77 _ _ rfl rr 77 _ (hdV h2) HI3.out.res rfl rfl rfl hd_size (hdV_one h2) ?_; intro wz hAz hgz hsz; have HAz := Lib.hid hAz; have HGz := Lib.hid hgz; clear hAz hgz hsz))
                  refine bodyPost_ret (results_cell_tmp3 Tryz.results54 _ (by rfl) (run_load_blk 77 HAz.out _ Tryz.underlying77 rfl hd_size)) rfl ?_
                  have hR : R = ⟨0, h2, bs, 1, D'⟩ := by
                    have q0 := HQ.out
                    injection q0 with q1 q2
                    injection q2 with q2 q3
                    rw [HR.out]; unfold ldTwo; rw [HTA.out]; simp only [HZA.out.1, HZA.out.2, if_true, HTB.out, q1, q2, q3]; rfl
                  rw [hR]
                  exact (HI3.out.below (ext_drew (Below.refl _ _))).out (R := ⟨0, h2, bs, 1, D'⟩) HS.out HGz.out rfl (fun hne => by obtain ⟨g', q1, q2, q3⟩ := HBK.out hne; exact ⟨g', q1, q2, q3.same rfl⟩) HCL.out
                · have hsb : ((crc 0 bs : Nat) == (h2.sum : Nat)) = false := by rw [beq_eq_false_iff_ne]; exact hsum
                  have hsb2 : (((crc 0 bs : Nat) : Int) == ((h2.sum : Nat) : Int)) = false := by rw [beq_eq_false_iff_ne]; omega
                  have HQ := Lib.hid (show (eb, bb, db) = ((0 : Int), (none : Option By), D') from by rw [HTV2.out, if_neg hsum])
                  clear hsum HTV2
                  go_wp2_with fail
                  go_roundw
                  case rel =>
                    have q0 := HQ.out
                    injection q0 with q1 q2
                    injection q2 with q2 q3
                    exact .inr (.inr ⟨rfl, HZA.out, q1, q2, by rw [q3]; exact HI3.out.below (ext_drew (Below.refl _ _))⟩)
                  case measure => simp [intOf]
              · have hn1 : (er != 0) = true := by simp [her]
                have HQ := Lib.hid (show (eb, bb, db) = (er, (none : Option By), D') from by rw [HTV.out, if_neg her])
                have HNE := Lib.hid her
                clear her HTV HRV
                go_wp2_with (first | (refine wpList_store_blk rfl 77 _ _ rfl rr 77 _ #[.int .u64 0, .int .u64 0, .int .i64 0, .int .u32 0] HI3.out.res rfl rfl rfl hd_size (hdV_one Hd.zero) ?_; intro wz hAz hgz hsz; have HAz := Lib.hid hAz; have HGz := Lib.hid hgz; clear hAz hgz hsz))
                refine bodyPost_ret (results_cell_tmp3 Tryz.results54 _ (by rfl) (run_load_blk 77 HAz.out _ Tryz.underlying77 rfl hd_size)) rfl ?_
                have hR : R = ⟨er, Hd.zero, [], 0, D'⟩ := by
                  have q0 := HQ.out
                  injection q0 with q1 q2
                  injection q2 with q2 q3
                  rw [HR.out]; unfold ldTwo; rw [HTA.out]; simp only [HZA.out.1, HZA.out.2, if_true, HTB.out, q1, q2, q3, if_neg HNE.out]
                rw [hR]
                exact (HI3.out).out (R := ⟨er, Hd.zero, [], 0, D'⟩) HS.out HGz.out rfl (fun hne => absurd rfl hne) (Nat.zero_le _)
          · have HI := Lib.hid hI
            have HZA := Lib.hid (show (ea = 0 ∧ ba = none) ∧ eb = 0 ∧ bb = none from ⟨q0, q1, q2⟩)
            clear hI q0 q1 q2
            go_wp2_with (first | (refine wpList_store_blk rfl 77 _ _ rfl rr 77 _ #[.int .u64 0, .int .u64 0, .int .i64 0, .int .u32 0] HI.out.res rfl rfl rfl hd_size (hdV_one Hd.zero) ?_; intro wz hAz hgz hsz; have HAz := Lib.hid hAz; have HGz := Lib.hid hgz; clear hAz hgz hsz))
            refine bodyPost_ret (results_cell_tmp3 Tryz.results54 _ (by rfl) (run_load_blk 77 HAz.out _ Tryz.underlying77 rfl hd_size)) rfl ?_
            have hR : R = ⟨0, Hd.zero, [], -1, db⟩ := by
              rw [HR.out]; unfold ldTwo; rw [HTA.out]; simp only [HZA.out.1.1, HZA.out.1.2, if_true, HTB.out, HZA.out.2.1, HZA.out.2.2]
            rw [hR]
            exact (HI.out).out (R := ⟨0, Hd.zero, [], -1, db⟩) HS.out HGz.out rfl (fun hne => absurd rfl hne) (Nat.zero_le _)

end Go.Proofs.YtbnkanehjnepbaaGreatDoor.En
end

/- Layer 11: slots: Save. -/
section
set_option linter.unusedVariables false
set_option linter.unusedSimpArgs false
namespace Go.Proofs.YtbnkanehjnepbaaGreatDoor.En
open Go.RowKit
open Go.Proofs.YtbnkanehjnepbaaGreatDoor.Oc (le val Bs bytesV byteV okA okA_some okA_none ClOut bytesV_len u8_info)
open Go.Proofs.YtbnkanehjnepbaaGreatDoor.Cr (CrcTab crc)

-- slots.Header of what may not be
set_option maxRecDepth 100000 in
set_option maxHeartbeats 4000000 in
theorem SHeader_no (h : Hd) (w : World) (hm : h.may = false) : Calls Tryz.prog 69 #[.agg (hdV h)] w (fun e w' => e = .returned (.tuple #[.slice none 0 0, .int .i64 2]) ∧ Below w.heap.size w w') := by
  have HMY := Lib.hid fun W => Smay_in h W
  rw [hm] at HMY
  unfold hdV at HMY ⊢
  obtain ⟨gen, cov, len, sum⟩ := h
  simp only at HMY ⊢
  clear hm
  go_enter Tryz.func69, Tryz.ntmps69
  go_wp2_with fail
  obtain ⟨w0, hw0⟩ : ∃ w0, w.alloc (.cells #[.int .u64 (gen : Nat), .int .u64 (cov : Nat), .int .i64 (len : Nat), .int .u32 (sum : Nat)] 77) = w0 := ⟨_, rfl⟩
  have hb0 : Below w.heap.size w w0 := by rw [← hw0]; exact ext_alloc (Below.refl _ _) _
  rw [hw0]
  have HB0 := Lib.hid hb0
  clear hw0 hb0
  refine (HMY.out w0).mono ?_
  rintro e wa ⟨rfl, hba⟩
  have HBA := Lib.hid (show Below w.heap.size w wa from ext_trans HB0.out hba)
  clear hba
  go_wp2_with fail
  go_ret2
  exact ⟨rfl, HBA.out⟩
theorem hdR_gen {b : By} {h : Hd} (hh : hdR b = some h) : h.gen < 18446744073709551616 := by
  unfold hdR at hh
  split at hh
  · cases hh
  · split at hh
    · split at hh
      · injection hh with hh
        subst hh
        show val ((b.drop 4).take 8) < 256 ^ 8
        exact Nat.lt_of_lt_of_le (Oc.val_lt _) (Nat.pow_le_pow_right (by decide) (by rw [List.length_take]; exact Nat.min_le_left _ _))
      · cases hh
    · cases hh
theorem hdOne_gen (g : Rg) (d : Dev) : (hdOne g d).2.1.gen < 18446744073709551616 := by
  unfold hdOne
  split
  · simp only
    split
    · split
      · rename_i h hh _
        exact hdR_gen hh
      · decide
    · decide
  · show 0 < _; decide
theorem load_gen (s : Sl) (d : Dev) : (s.load d).hd.gen < 18446744073709551616 := by
  unfold Sl.load
  have h1 := hdOne_gen s.a d
  have h2 := hdOne_gen s.b (hdOne s.a d).2.2
  have hz : Hd.zero.gen < 18446744073709551616 := by decide
  have h3 : ∀ D i j (hi hj : Hd), hi.gen < 18446744073709551616 → hj.gen < 18446744073709551616 → (ldTwo s D i j hi hj).hd.gen < 18446744073709551616 := fun D i j hi hj a b => by
    unfold ldTwo
    split
    · split
      · exact a
      · split
        · split
          · exact b
          · exact hz
        · exact hz
    · exact hz
  split
  · split
    · split
      · exact h3 _ _ _ _ _ h2 h1
      · exact h3 _ _ _ _ _ h1 h2
    · exact hz
  · exact hz
theorem Dev.sync_dk (d : Dev) : d.sync.2.dk.size = d.dk.size ∧ (d.sync.1 = 0 → d.sync.2.dk.row = []) := by
  unfold Dev.sync
  split
  · refine ⟨?_, fun _ => rfl⟩
    show d.op.2.dk.size = d.dk.size
    rw [Dev.op_dk]
  · refine ⟨?_, fun h => absurd (show (60 : Int) = 0 from h) (by decide)⟩
    show d.op.2.dk.size = d.dk.size
    rw [Dev.op_dk]
theorem u8_size : (Tryz.prog.info? 5).map (·.size) = some 1 := by kernel_rfl
theorem _root_.Go.Proofs.YtbnkanehjnepbaaGreatDoor.Blk.bsx {w : World} {g : Nat} {bs : By} (h : Blk w 5 g bs) : Bs w (some ⟨g, 0, none⟩) bs := fun hne => by
  have hl := h.lt
  obtain ⟨cur, h1, h2⟩ := h
  exact ⟨g, 0, rfl, hl, fun i u hu => by rw [Nat.zero_add, show w.cell? ⟨g, i, none⟩ = cur[i]? from by simp [World.cell?, h1]]; exact h2 i u hu⟩
theorem cp_src {w : World} {A : Option Addr} {bs : By} (h : Bs w A bs) (hne : 0 < bs.length) : ∃ ad, A = some ad ∧ ∀ j v, (bytesV bs)[j]? = some v → w.cell? (ad.add j) = some v := by
  obtain ⟨g, off, rfl, _⟩ := h (by intro e; rw [e] at hne; simp at hne)
  exact ⟨_, rfl, fun j v hv => h.read j v hv⟩
theorem made_u8 {w : World} {base g n : Nat} (h : w.ownsRow base 5 1 (.slice (some ⟨g, 0, none⟩) n n) n (madeCells (Value.int .u8 0).cells (n * 1)).toList) (hn : 0 < n) : ∃ cur : Array Value, w.heap[g]? = some (.cells cur 5 (0, 0)) ∧ n ≤ cur.size ∧ ∀ j, j < n → cur[j]? = some (.int .u8 0) := by
  have hm : ∀ j, j < n → (madeCells (Value.int .u8 0).cells (n * 1)).toList[j]? = some (.int .u8 0) := fun j hj => by
    have e : (Value.int .u8 0).cells = #[.int .u8 0] := rfl
    rw [e]
    unfold madeCells
    simp [hj, Nat.mod_one]
  rcases h.2 with ⟨h0, _⟩ | ⟨g', cap, cur, hv, hb, hh, hnc, hcm, hcs, ht⟩
  · cases h0
  · injection hv with e1 _ e2
    injection e1 with e1
    injection e1 with e1
    subst e1 e2
    refine ⟨cur, hh, by omega, fun j hj => ?_⟩
    have h1 := hm j hj
    rw [← ht, List.getElem?_take_of_lt (by omega), Array.getElem?_toList] at h1
    exact h1
theorem splice_blk {w : World} {g n : Nat} {cur : List Value} {a : By} (hg : w.heap[g]? = some (.cells (splice cur 0 (bytesV a)).toArray 5 (0, 0))) (ha : a.length ≤ n) (hz : ∀ j, j < n → cur[j]? = some (.int .u8 0)) : Blk w 5 g (a ++ List.replicate (n - a.length) 0) := by
  refine ⟨_, hg, fun j u hu => ?_⟩
  rw [bytesV, List.map_append] at hu
  unfold splice
  simp only [List.take_zero, List.nil_append, List.getElem?_toArray, Nat.zero_add]
  rcases Nat.lt_or_ge j (bytesV a).length with hj | hj
  · rw [List.getElem?_append_left (by rw [List.length_map]; rwa [bytesV_len] at hj)] at hu
    rw [List.getElem?_append_left hj]
    exact hu
  · rw [bytesV_len] at hj
    rw [List.getElem?_append_right (by rw [List.length_map]; exact hj), List.length_map, List.map_replicate] at hu
    rw [List.getElem?_append_right (by rw [bytesV_len]; exact hj), bytesV_len, List.getElem?_drop]
    have hlt : j - a.length < n - a.length := by
      have := (List.getElem?_eq_some_iff.1 hu).1
      simpa using this
    rw [List.getElem?_replicate, if_pos hlt] at hu
    rw [show a.length + (j - a.length) = j from by omega, hz j (by omega), ← hu]
    rfl
/-- what a save hands over -/
def SvOut (S : Nat → Prop) (p : Nat) (R : Int × Hd × Dev) (w : World) (e : Ending) (w' : World) : Prop := e = .returned (.tuple #[.agg (hdV R.2.1), .int .i64 R.1]) ∧ DvIn p R.2.2 (Gr S w w') w' ∧ Tch S w w'
/-- behind the header: what lies where -/
structure SvI (S : Nat → Prop) (w : World) (rr bx nb lb sg p r size : Nat) (nx : Hd) (A : Option Addr) (body sec : By) (c : Nat) (T : Nat → Prop) (D : Dev) (W : World) : Prop where
  res : Arr W rr 77 #[.int .u64 0, .int .u64 0, .int .i64 0, .int .u32 0]
  x : Arr W bx 168 #[.pointer (some ⟨r, 0, none⟩)]
  h : Arr W nb 77 (hdV nx)
  l : Arr W lb 172 #[.int .i64 size, .slice A body.length c, .int .i64 0, .slice (some ⟨sg, 0, none⟩) size size]
  sec : Blk W 5 sg sec
  body : Bs W A body
  dev : DvIn p D T W
  tch : Tch S w W
  sub : ∀ k, T k → S k ∨ w.heap.size ≤ k
  no : ¬ T rr ∧ ¬ T bx ∧ ¬ T nb ∧ ¬ T lb ∧ ¬ T sg
  low : w.heap.size ≤ rr ∧ w.heap.size ≤ bx ∧ w.heap.size ≤ nb ∧ w.heap.size ≤ lb ∧ w.heap.size ≤ sg
section
variable {S : Nat → Prop} {w : World} {rr bx nb lb sg p r size : Nat} {nx : Hd} {A : Option Addr} {body sec : By} {c : Nat} {T : Nat → Prop} {D : Dev} {W W' : World}
theorem SvI.below (h : SvI S w rr bx nb lb sg p r size nx A body sec c T D W) (hb : Below W.heap.size W W') : SvI S w rr bx nb lb sg p r size nx A body sec c T D W' :=
  ⟨h.res.keep hb, h.x.keep hb, h.h.keep hb, h.l.keep hb, h.sec.same (hb.block _ h.sec.lt), h.body.keep hb, (DvIn_loc p D).below h.dev hb, h.tch.below hb, h.sub, h.no, h.low⟩
theorem SvI.step {D' : Dev} (h : SvI S w rr bx nb lb sg p r size nx A body sec c T D W) (hA : ∀ g off, A = some ⟨g, off, none⟩ → g < w.heap.size ∧ ¬ S g) (hD : DvIn p D' (Gr T W W') W') (ht : Tch T W W') : SvI S w rr bx nb lb sg p r size nx A body sec c (Gr T W W') D' W' := by
  have hT := (DvIn_loc p D).lt h.dev
  have ho : ∀ k, Gr T W W' k → k < W.heap.size → T k := fun k hk hl => hk.old hl
  obtain ⟨n1, n2, n3, n4, n5⟩ := h.no
  refine ⟨ht.arr h.res n1, ht.arr h.x n2, ht.arr h.h n3, ht.arr h.l n4, h.sec.same (ht.block _ h.sec.lt n5), h.body.tch ht (fun g off e _ hg => ?_), hD, ?_, fun k hk => ?_, ⟨fun hk => n1 (ho _ hk h.res.lt), fun hk => n2 (ho _ hk h.x.lt), fun hk => n3 (ho _ hk h.h.lt), fun hk => n4 (ho _ hk h.l.lt), fun hk => n5 (ho _ hk h.sec.lt)⟩, h.low⟩
  · obtain ⟨h1, h2⟩ := hA g off e
    rcases h.sub g hg with h3 | h3
    · exact h2 h3
    · omega
  · exact h.tch.new ((ht.mono fun j _ hj => h.sub j hj))
  · rcases hk with hk | hk
    · exact h.sub k hk
    · have := h.tch.size
      exact .inr (by omega)
theorem SvI.out {R : Int × Hd × Dev} (h : SvI S w rr bx nb lb sg p r size nx A body sec c T D W) (hS : ∀ k, S k → k < w.heap.size) (hg : W.grownBy W' (some rr)) (hR : R.2.2 = D) : SvOut S p R w (.returned (.tuple #[.agg (hdV R.2.1), .int .i64 R.1])) W' := by
  subst hR
  have hT := (DvIn_loc p R.2.2).lt h.dev
  have h1 : DvIn p R.2.2 T W' := (DvIn_loc p R.2.2).same h.dev hg.size (fun k hk => hg.block k (hT k hk) (fun e => by injection e with e; subst e; exact h.no.1 hk))
  have hl := h.low
  refine ⟨rfl, (DvIn_loc p R.2.2).mono h1 (fun k hk => ?_) (fun k hk => ?_), h.tch.grown hg (fun k e => by injection e with e; subst e; exact .inr hl.1)⟩
  · have hz := hg.size
    have := hT k hk
    rcases h.sub k hk with h2 | h2
    · exact .inl h2
    · exact .inr ⟨h2, by omega⟩
  · rcases hk with hk | hk
    · have := hS k hk; have := h.tch.size; have := hg.size; omega
    · exact hk.2
end

set_option maxRecDepth 100000 in
set_option maxHeartbeats 8000000 in
theorem SSave_in {S : Nat → Prop} {w : World} {s ra rb p : Nat} {sl : Sl} {d : Dev} (h : SlAt w s ra rb p sl d.dk.size) (hD : DvIn p d S w) (hs : ¬ S s) (hra : ¬ S ra) (hrb : ¬ S rb) (ht : CrcTab w) (htS : ¬ S 1) (h32 : 32 ≤ d.dk.size)
    (body : By) (A : Option Addr) (c cov : Nat) (hB : Bs w A body) (hA : ∀ g off, A = some ⟨g, off, none⟩ → g < w.heap.size ∧ ¬ S g) (hc : body.length ≤ c) (hcov : cov < 18446744073709551616) (hrow : d.dk.row.length + body.length ≤ 1000000) :
    Calls Tryz.prog 26 #[.pointer (some ⟨s, 0, none⟩), .slice A body.length c, .int .u64 (cov : Nat)] w (SvOut S p (sl.save d body cov) w) := by
  have hS := (DvIn_loc p d).lt hD
  obtain ⟨rr, hrr⟩ : ∃ rr, w.heap.size = rr := ⟨_, rfl⟩
  obtain ⟨w0, hw0⟩ : ∃ w0, w.alloc (.cells #[.int .u64 0, .int .u64 0, .int .i64 0, .int .u32 0] 77) = w0 := ⟨_, rfl⟩
  have hb0 : Below w.heap.size w w0 := by rw [← hw0]; exact ext_alloc (Below.refl _ _) _
  have ha0 : Arr w0 rr 77 #[.int .u64 0, .int .u64 0, .int .i64 0, .int .u32 0] := by rw [← hw0, ← hrr]; exact Arr.fresh w _ _
  have x0 : w0.cell? ⟨s, 0, none⟩ = some (.pointer (some ⟨ra, 0, none⟩)) := (h.own.keep hb0).cell 0
  have hnr : ¬ S rr := fun hk => by have := hS _ hk; omega
  obtain ⟨B, hBe⟩ : ∃ B, sl.bytes d.dk.size = B := ⟨_, rfl⟩
  obtain ⟨er, hh, bd, at_, d1, hL⟩ : ∃ er hh bd at_ d1, sl.load d = ⟨er, hh, bd, at_, d1⟩ := ⟨_, _, _, _, _, rfl⟩
  have hk1 : d1.dk = d.dk := by have := load_dk sl d; rw [hL] at this; exact this
  have hgn : hh.gen < 18446744073709551616 := by have := load_gen sl d; rw [hL] at this; exact this
  have hsz := h.a.size
  have hba := h.a.bytes_le
  obtain ⟨R, hR⟩ : ∃ R, sl.save d body cov = R := ⟨_, rfl⟩
  have hsv : R = sl.save d body cov := hR.symm
  unfold Sl.save at hsv
  rw [hBe, hL] at hsv
  simp only at hsv
  have HSV := Lib.hid hsv
  clear hsv
  have HSB := Lib.hid (SBytes_in (h.keep hb0))
  rw [hBe] at HSB
  have HLO := Lib.hid (show ∀ W, Below w.heap.size w W → Calls Tryz.prog 54 #[.pointer (some ⟨s, 0, none⟩)] W (LdOut S p (sl.load d) W) from fun W hW => SLoad_in (h.keep hW) ((DvIn_loc p d).below hD hW) hs hra hrb (ht.keep hW) htS)
  rw [hL] at HLO
  have HRG := Lib.hid (show ∀ W, Tch S w W → SlAt W s ra rb p sl d.dk.size from fun W hW => h.tch hW hs hra hrb)
  have HCT := Lib.hid (show ∀ W, Tch S w W → CrcTab W from fun W hW => ht.tch hW htS)
  have HBB := Lib.hid (show ∀ W, Tch S w W → Bs W A body from fun W hW => hB.tch hW fun g off e _ hg => (hA g off e).2 hg)
  have HDW := Lib.hid (show DvIn p d S w0 ∧ Tch S w w0 from ⟨(DvIn_loc p d).below hD hb0, Tch.of_below hb0⟩)
  have hbl : body.length ≤ 1000000 := by omega
  have hbl' : (body.length : Int) ≤ 1000000 := by omega
  have HS := Lib.hid hS; have HRR := Lib.hid hrr; have HW0 := Lib.hid hw0; have HB0 := Lib.hid hb0; have HA0 := Lib.hid ha0; have HNR := Lib.hid hnr; have HK1 := Lib.hid hk1; have HGN := Lib.hid hgn; have HAA := Lib.hid hA; have HCC := Lib.hid hc; have HCV := Lib.hid hcov; have HROW := Lib.hid hrow; have H32 := Lib.hid h32; have HSZ := Lib.hid hsz
  have HRL := Lib.hid (show ra < w.heap.size ∧ rb < w.heap.size from ⟨h.a.own.lt, h.b.own.lt⟩)
  have HSS := Lib.hid (show ¬ S s ∧ ¬ S ra ∧ ¬ S rb from ⟨hs, hra, hrb⟩)
  rw [hR]
  clear hS hrr hw0 hb0 ha0 hnr hBe hL hk1 hgn hsz hba h hD hs hra hrb ht htS h32 hB hA hc hcov hrow hR
  go_enter Tryz.func26, Tryz.ntmps26
  go_wp2_with fail
  rw [HW0.out, HRR.out]
  refine (Sthere_in s ra w0 x0).mono ?_
  rintro e w2 ⟨rfl, hw2⟩
  rw [hw2]
  clear hw2 w2
  go_wp2_with fail
  refine HSB.out.mono ?_
  rintro e w2 ⟨rfl, hb2⟩
  have HB2 := Lib.hid (show Below w.heap.size w w2 from ext_trans HB0.out hb2)
  have HA2 := Lib.hid (HA0.out.keep hb2)
  have HD2 := Lib.hid (show DvIn p d S w2 ∧ Tch S w w2 from ⟨(DvIn_loc p d).below HDW.out.1 hb2, HDW.out.2.below hb2⟩)
  clear hb2 HSB HDW
  by_cases hlen : B < body.length
  · have hl1 : (B : Int) < (body.length : Int) := by omega
    go_wp2_with (first | (refine wpList_store_blk rfl 77 _ _ rfl rr 77 _ #[.int .u64 0, .int .u64 0, .int .i64 0, .int .u32 0] HA2.out rfl rfl rfl hd_size (hdV_one Hd.zero) ?_; intro wz hAz hgz hsz; have HAz := Lib.hid hAz; have HGz := Lib.hid hgz; clear hAz hgz hsz))
    refine bodyPost_ret (results_cell_tmp Tryz.results26 _ (by rfl) (run_load_blk 77 HAz.out _ Tryz.underlying77 rfl hd_size)) rfl ?_
    rw [show R = (3, Hd.zero, d) from by rw [HSV.out]; simp [hlen]]
    exact ⟨rfl, (DvIn_loc p d).toGr ((DvIn_loc p d).same HD2.out.1 HGz.out.size (fun k hk => HGz.out.block k ((DvIn_loc p d).lt HD2.out.1 k hk) (fun e => by injection e with e; subst e; exact HNR.out hk))) HS.out (Nat.le_trans HD2.out.2.size HGz.out.size), HD2.out.2.grown HGz.out (fun k e => by injection e with e; subst e; exact .inr (by have := HRR.out; omega))⟩
  · have hl1 : ¬ (B : Int) < (body.length : Int) := by omega
    have HSV1 := Lib.hid (show R = _ from by rw [HSV.out, if_neg hlen])
    have HLO2 := HLO.out w2 HB2.out
    have HLO2 := Lib.hid HLO2
    have HB2' := HB2.out
    clear hlen HSV HB2'
    go_wp2_with fail
    refine HLO2.out.mono ?_
    rintro e w3 ⟨⟨A', c', rfl, _, _⟩, hD3, ht3⟩
    have HD3 := Lib.hid (show DvIn p d1 S w3 ∧ Tch S w w3 from ⟨hD3, HD2.out.2.trans ht3⟩)
    have HA3 := Lib.hid (ht3.arr HA2.out HNR.out)
    clear hD3 ht3 HLO2 HLO
    have HFR := Lib.hid (Arr.fresh w3 77 #[.int .u64 0, .int .u64 0, .int .i64 0, .int .u32 0])
    by_cases her : er = 0
    · subst her
      go_wp2_with (first | (refine wpList_store_blk rfl 77 _ _ rfl w3.heap.size 77 _ (hdV hh) HFR.out rfl rfl rfl hd_size (hdV_one hh) ?_; intro w5 hA5 hg5 hs5; have HA5 := Lib.hid hA5; have HB5 := Lib.hid (show Below w3.heap.size w3 w5 from ext_only (ext_alloc (Below.refl _ _) _) hg5 (Nat.le_refl _)); clear hA5 hg5 hs5))
      obtain ⟨xh, hxh⟩ : ∃ xh, w3.heap.size = xh := ⟨_, rfl⟩
      have ha5 : Arr w5 xh 77 (hdV hh) := by rw [← hxh]; exact HA5.out
      rw [hxh]
      have x4 : w5.cell? ⟨xh, 0, none⟩ = some (.int .u64 (hh.gen : Nat)) := ha5.cell 0
      obtain ⟨nb, hnb⟩ : ∃ nb, w5.heap.size = nb := ⟨_, rfl⟩
      have HXN := Lib.hid (show xh ≠ nb by have := ha5.lt; omega)
      have HA5r := Lib.hid (HA3.out.keep HB5.out)
      have HD5 := Lib.hid (show DvIn p d1 S w5 ∧ Tch S w w5 from ⟨(DvIn_loc p d1).below HD3.out.1 HB5.out, HD3.out.2.below HB5.out⟩)
      have HNB := Lib.hid hnb
      have HTW5 := Lib.hid (HD5.out.2.size)
      clear hxh ha5 hnb HA5 HFR HA3 HD3 HB5
      obtain ⟨ng, hng, hg1, hg2⟩ : ∃ ng : Nat, IntKind.u64.wrap ((hh.gen : Int) + 1) = (ng : Nat) ∧ (hh.gen = 18446744073709551615 → ng = 0) ∧ (hh.gen ≠ 18446744073709551615 → ng = hh.gen + 1) := by
        by_cases hq : hh.gen = 18446744073709551615
        · exact ⟨0, by rw [hq]; decide, fun _ => rfl, fun hn => absurd hq hn⟩
        · refine ⟨hh.gen + 1, ?_, fun hn => absurd hn hq, fun _ => rfl⟩
          have := HGN.out
          rw [IntKind.wrap_u64]; omega
      have HG1 := Lib.hid hg1; have HG2 := Lib.hid hg2
      clear hg1 hg2
      have HCR := Lib.hid (show ∀ W, Below w5.heap.size w5 W → Calls Tryz.prog 68 #[.slice A body.length c] W (fun e w' => e = .returned (.int .u32 (crc 0 body : Nat)) ∧ w' = W) from fun W hW => Cr.Sum_in body A c W (HBB.out W (HD5.out.2.below hW)) (HCT.out W (HD5.out.2.below hW)) (by omega))
      go_cut [12] from 41 to 49 (fun s12 wc => s12 = .pointer (some ⟨nb, 0, none⟩) ∧ Arr wc nb 77 (hdV ⟨ng, cov, body.length, crc 0 body⟩) ∧ Below w5.heap.size w5 wc)
      case first =>
        refine wp_region_held_drew (S := (fun w' => w'.cell? ⟨xh, 0, none⟩ = some (.int .u64 (hh.gen : Nat)))) (by kernel_rfl) (by exact x4) (fun hHeld => ?_)
        refine tky 0 (some 41) hHeld ?_
        refine tky 1 (some 42) hHeld ?_
        refine tky 2 (some 43) hHeld ?_
        refine tky 3 (some 44) hHeld ?_
        refine tky 4 (some 45) hHeld ?_
        refine tky 5 (some 46) hHeld ?_
        refine tky 6 (some 47) hHeld ?_
        refine wpAnyH_ready (rs := [7, 9]) (by kernel_rfl) (by simp) ?_
        refine AllReadyH.cons rfl (fun K hK => ?_) (AllReadyH.cons rfl (fun K hK => ?_) AllReadyH.nil)
        · go_simp
          refine (HCR.out _ (ext_drew (Below.refl _ _))).mono ?_
          rintro e w9 ⟨rfl, hw9⟩
          rw [hw9]
          clear hw9 w9
          go_wp2_with fail
          refine hK.out _ _ (by exact x4) (fun hHeld7 => ?_)
          clear hK K
          try simp only [Act.put, List.setIfInBounds_toArray, List.set_cons_zero, List.set_cons_succ]
          refine tky 8 (some 49) hHeld7 ?_
          try simp only [Act.put, List.setIfInBounds_toArray, List.set_cons_zero, List.set_cons_succ]
          refine wpAnyH_ready (rs := [9]) (by kernel_rfl) (by simp) ?_
          refine AllReadyH.cons rfl (fun K hK => ?_) AllReadyH.nil
          go_simp
          obtain ⟨w6, hw6⟩ : ∃ w6, (w5.alloc (.cells #[.int .u64 0, .int .u64 0, .int .i64 0, .int .u32 0] 77)).drew = w6 := ⟨_, rfl⟩
          have hb6 : Below w5.heap.size w5 w6 := by rw [← hw6]; exact ext_drew (ext_alloc (Below.refl _ _) _)
          have ha6 : Arr w6 nb 77 #[.int .u64 0, .int .u64 0, .int .i64 0, .int .u32 0] := by rw [← hw6, ← HNB.out]; exact Arr.fresh w5 _ _
          rw [hw6, HNB.out]
          have x6 : w6.cell? ⟨xh, 0, none⟩ = some (.int .u64 (hh.gen : Nat)) := (hb6.cell (p := ⟨xh, 0, none⟩) (World.block_lt_of_cell? _ _ x4)).trans x4
          have HB6 := Lib.hid hb6; have HA6 := Lib.hid ha6
          clear hw6 hb6 ha6
          refine hK.out _ _ (by exact x6) (fun hHeld9 => ?_)
          clear hK K
          try simp only [Act.put, List.setIfInBounds_toArray, List.set_cons_zero, List.set_cons_succ]
          try simp only [Act.put, List.setIfInBounds_toArray, List.set_cons_zero, List.set_cons_succ]
          refine wpAnyH_ready (rs := [10]) (by kernel_rfl) (by simp) ?_
          refine AllReadyH.cons rfl (fun K hK => ?_) AllReadyH.nil
          refine wp_store_blk 77 _ _ rfl nb 77 _ (hdV ⟨ng, cov, body.length, crc 0 body⟩) HA6.out rfl rfl rfl hd_size (hdV_one _) ?_
          intro w7 hA7 hg7 hs7
          have x7 : w7.cell? ⟨xh, 0, none⟩ = some (.int .u64 (hh.gen : Nat)) := (World.cell?_of_block (a := ⟨xh, 0, none⟩) (hg7.block xh (World.block_lt_of_cell? _ _ x6) (fun e => by injection e with e; exact HXN.out e))).trans x6
          have HA7 := Lib.hid hA7
          have HB7 := Lib.hid (show Below w5.heap.size w5 w7 from ext_only HB6.out hg7 (by have := HNB.out; omega))
          clear hA7 hg7 hs7
          refine hK.out _ _ (by exact x7) (fun hHeld10 => ?_)
          clear hK K
          try simp only [Act.put, List.setIfInBounds_toArray, List.set_cons_zero, List.set_cons_succ]
          try simp only [Act.put, List.setIfInBounds_toArray, List.set_cons_zero, List.set_cons_succ]
          refine wpAnyH_done (by kernel_rfl) ?_ _
          go_wp2_with fail
          go_meet
          exact ⟨rfl, HA7.out, HB7.out⟩
        · go_simp
          obtain ⟨w6, hw6⟩ : ∃ w6, (w5.alloc (.cells #[.int .u64 0, .int .u64 0, .int .i64 0, .int .u32 0] 77)).drew = w6 := ⟨_, rfl⟩
          have hb6 : Below w5.heap.size w5 w6 := by rw [← hw6]; exact ext_drew (ext_alloc (Below.refl _ _) _)
          have ha6 : Arr w6 nb 77 #[.int .u64 0, .int .u64 0, .int .i64 0, .int .u32 0] := by rw [← hw6, ← HNB.out]; exact Arr.fresh w5 _ _
          rw [hw6, HNB.out]
          have x6 : w6.cell? ⟨xh, 0, none⟩ = some (.int .u64 (hh.gen : Nat)) := (hb6.cell (p := ⟨xh, 0, none⟩) (World.block_lt_of_cell? _ _ x4)).trans x4
          have HB6 := Lib.hid hb6; have HA6 := Lib.hid ha6
          clear hw6 hb6 ha6
          refine hK.out _ _ (by exact x6) (fun hHeld9 => ?_)
          clear hK K
          try simp only [Act.put, List.setIfInBounds_toArray, List.set_cons_zero, List.set_cons_succ]
          try simp only [Act.put, List.setIfInBounds_toArray, List.set_cons_zero, List.set_cons_succ]
          refine wpAnyH_ready (rs := [7]) (by kernel_rfl) (by simp) ?_
          refine AllReadyH.cons rfl (fun K hK => ?_) AllReadyH.nil
          go_simp
          refine (HCR.out _ (HB6.out)).mono ?_
          rintro e w9 ⟨rfl, hw9⟩
          rw [hw9]
          clear hw9 w9
          go_wp2_with fail
          refine hK.out _ _ (by exact x6) (fun hHeld7 => ?_)
          clear hK K
          try simp only [Act.put, List.setIfInBounds_toArray, List.set_cons_zero, List.set_cons_succ]
          refine tky 8 (some 49) hHeld7 ?_
          try simp only [Act.put, List.setIfInBounds_toArray, List.set_cons_zero, List.set_cons_succ]
          refine wpAnyH_ready (rs := [10]) (by kernel_rfl) (by simp) ?_
          refine AllReadyH.cons rfl (fun K hK => ?_) AllReadyH.nil
          refine wp_store_blk 77 _ _ rfl nb 77 _ (hdV ⟨ng, cov, body.length, crc 0 body⟩) HA6.out rfl rfl rfl hd_size (hdV_one _) ?_
          intro w7 hA7 hg7 hs7
          have x7 : w7.cell? ⟨xh, 0, none⟩ = some (.int .u64 (hh.gen : Nat)) := (World.cell?_of_block (a := ⟨xh, 0, none⟩) (hg7.block xh (World.block_lt_of_cell? _ _ x6) (fun e => by injection e with e; exact HXN.out e))).trans x6
          have HA7 := Lib.hid hA7
          have HB7 := Lib.hid (show Below w5.heap.size w5 w7 from ext_only HB6.out hg7 (by have := HNB.out; omega))
          clear hA7 hg7 hs7
          refine hK.out _ _ (by exact x7) (fun hHeld10 => ?_)
          clear hK K
          try simp only [Act.put, List.setIfInBounds_toArray, List.set_cons_zero, List.set_cons_succ]
          try simp only [Act.put, List.setIfInBounds_toArray, List.set_cons_zero, List.set_cons_succ]
          refine wpAnyH_done (by kernel_rfl) ?_ _
          go_wp2_with fail
          go_meet
          exact ⟨rfl, HA7.out, HB7.out⟩
      case rest =>
        obtain ⟨rfl, hA7, hB7⟩ := hcut
        have HA7 := Lib.hid hA7
        have HD7 := Lib.hid (show DvIn p d1 S wc ∧ Tch S w wc from ⟨(DvIn_loc p d1).below HD5.out.1 hB7, HD5.out.2.below hB7⟩)
        have HR7 := Lib.hid (HA5r.out.keep hB7)
        clear hA7 hB7 HCR HA5r HD5 hng x4
        by_cases hgz : hh.gen = 18446744073709551615
        · obtain rfl : ng = 0 := HG1.out hgz
          have HHD := Lib.hid (SHeader_no ⟨0, cov, body.length, crc 0 body⟩ wc rfl)
          have HRE := Lib.hid (show R = (6, Hd.zero, d1) from by rw [HSV1.out]; simp [hgz])
          clear hgz HG1 HG2 HSV1
          go_wp2_with (first | (refine wpList_load_blk rfl 77 _ rfl nb 77 _ HA7.out rfl _ Tryz.underlying77 rfl hd_size ?_))
          refine HHD.out.mono ?_
          rintro e w8 ⟨rfl, hb8⟩
          have HD8 := Lib.hid (show DvIn p d1 S w8 ∧ Tch S w w8 from ⟨(DvIn_loc p d1).below HD7.out.1 hb8, HD7.out.2.below hb8⟩)
          have HR8 := Lib.hid (HR7.out.keep hb8)
          clear hb8
          go_wp2_with (first | (refine wpList_store_blk rfl 77 _ _ rfl rr 77 _ #[.int .u64 0, .int .u64 0, .int .i64 0, .int .u32 0] HR8.out rfl rfl rfl hd_size (hdV_one Hd.zero) ?_; intro wz hAz hgz hsz; have HAz := Lib.hid hAz; have HGz := Lib.hid hgz; clear hAz hgz hsz))
          refine bodyPost_ret (results_cell_tmp Tryz.results26 _ (by rfl) (run_load_blk 77 HAz.out _ Tryz.underlying77 rfl hd_size)) rfl ?_
          rw [HRE.out]
          exact ⟨rfl, (DvIn_loc p d1).toGr ((DvIn_loc p d1).same HD8.out.1 HGz.out.size (fun k hk => HGz.out.block k ((DvIn_loc p d1).lt HD8.out.1 k hk) (fun e => by injection e with e; subst e; exact HNR.out hk))) HS.out (Nat.le_trans HD8.out.2.size HGz.out.size), HD8.out.2.grown HGz.out (fun k e => by injection e with e; subst e; exact .inr (by have := HRR.out; omega))⟩
        · obtain rfl : ng = hh.gen + 1 := HG2.out hgz
          obtain ⟨nx, hnx⟩ : ∃ nx : Hd, (⟨hh.gen + 1, cov, body.length, crc 0 body⟩ : Hd) = nx := ⟨_, rfl⟩
          rw [hnx] at HA7
          have hmay : nx.may = true := by rw [← hnx]; unfold Hd.may; simp; omega
          have hfit : nx.Fit := by
            have h1 := HGN.out; have h2 := HCV.out
            rw [← hnx]; exact ⟨by show hh.gen + 1 < _; omega, h2, by show body.length ≤ _; omega, Cr.crc_lt 0 _ (by decide)⟩
          have HHD := Lib.hid (SHeader_in nx wc hmay hfit (HCT.out wc HD7.out.2))
          have HNX := Lib.hid hnx
          have HGZ := Lib.hid hgz
          clear hgz HG1 HG2 hmay hfit hnx
          go_wp2_with (first | (refine wpList_load_blk rfl 77 _ rfl nb 77 _ HA7.out rfl _ Tryz.underlying77 rfl hd_size ?_))
          refine HHD.out.mono ?_
          rintro e w8 ⟨A2, c2, rfl, hB8, hb8, hc2, hfr⟩
          have HD8 := Lib.hid (show DvIn p d1 S w8 ∧ Tch S w w8 from ⟨(DvIn_loc p d1).below HD7.out.1 hb8, HD7.out.2.below hb8⟩)
          have HR8 := Lib.hid (HR7.out.keep hb8); have HN8 := Lib.hid (HA7.out.keep hb8); have HB8 := Lib.hid hB8
          clear hB8 hb8 HHD hfr
          obtain ⟨r, hr⟩ : ∃ r, (if at_ = 0 then rb else ra) = r := ⟨_, rfl⟩
          have q0 : w8.cell? ⟨s, 0, none⟩ = some (.pointer (some ⟨ra, 0, none⟩)) := (HRG.out w8 HD8.out.2).own.cell 0
          have q1 : w8.cell? ⟨s, 1, none⟩ = some (.pointer (some ⟨rb, 0, none⟩)) := (HRG.out w8 HD8.out.2).own.cell 1
          go_upto_if 64 with fail
          obtain ⟨bx, hbx⟩ : ∃ bx, w8.heap.size = bx := ⟨_, rfl⟩
          have HBX := Lib.hid hbx
          have z1 : (w8.alloc (.cells #[.pointer (some ⟨ra, 0, none⟩)] 168)).cell? ⟨s, 1, none⟩ = some (.pointer (some ⟨rb, 0, none⟩)) := ((ext_alloc (Below.refl w8.heap.size w8) _).cell (p := ⟨s, 1, none⟩) (World.block_lt_of_cell? _ _ q1)).trans q1
          go_cut [] from 63 to 69 (fun wd => Arr wd bx 168 #[.pointer (some ⟨r, 0, none⟩)] ∧ Below w8.heap.size w8 wd)
          case first =>
            by_cases hat : at_ = 0
            · have hq : (at_ == 0) = true := by simp [hat]
              obtain rfl : rb = r := by rw [if_pos hat] at hr; exact hr
              clear hr hat
              go_wp2_with fail
              go_meet
              exact ⟨by first | exact Arr.new HBX.out.symm | exact (Arr.new HBX.out.symm).put 0 _ | exact ((Arr.new HBX.out.symm).put 0 _).put 0 _, by repeat (first | with_reducible exact Below.refl _ _ | with_reducible refine ext_alloc ?_ _ | with_reducible refine ext_drew ?_ | with_reducible refine ext_drewN ?_ _ | (refine ext_setCell ?_ (by simp at *; omega) _) | with_reducible refine ext_trans ?_ (by assumption))⟩
            · have hq : (at_ == 0) = false := by simp [hat]
              obtain rfl : ra = r := by rw [if_neg hat] at hr; exact hr
              clear hr hat
              go_wp2_with fail
              go_meet
              exact ⟨by first | exact Arr.new HBX.out.symm | exact (Arr.new HBX.out.symm).put 0 _ | exact ((Arr.new HBX.out.symm).put 0 _).put 0 _, by repeat (first | with_reducible exact Below.refl _ _ | with_reducible refine ext_alloc ?_ _ | with_reducible refine ext_drew ?_ | with_reducible refine ext_drewN ?_ _ | (refine ext_setCell ?_ (by simp at *; omega) _) | with_reducible refine ext_trans ?_ (by assumption))⟩
          case rest =>
            obtain ⟨hXd, hBd⟩ := hcut
            have HLX := Lib.hid (show w.heap.size ≤ bx ∧ w.heap.size ≤ nb from ⟨by have h1 := HBX.out; have h2 := HD8.out.2.size; omega, by have h1 := HNB.out; have h2 := HTW5.out; omega⟩)
            have HXD := Lib.hid hXd
            have y0 : wc.cell? ⟨bx, 0, none⟩ = some (.pointer (some ⟨r, 0, none⟩)) := hXd.cell 0
            have HDD := Lib.hid (show DvIn p d1 S wc ∧ Tch S w wc from ⟨(DvIn_loc p d1).below HD8.out.1 hBd, HD8.out.2.below hBd⟩)
            have HRD := Lib.hid (HR8.out.keep hBd); have HND := Lib.hid (HN8.out.keep hBd); have HBD := Lib.hid (HB8.out.keep hBd)
            have hrr' : r = ra ∨ r = rb := by rw [← hr]; split; exact .inr rfl; exact .inl rfl
            have HRR' := Lib.hid hrr'
            clear hXd hBd HD8 HR8 HN8 HB8 q0 q1 z1 hrr'
            obtain ⟨size, hsize⟩ : ∃ size, d.dk.size = size := ⟨_, rfl⟩
            have HSE := Lib.hid hsize
            have HSI := Lib.hid (show ∀ W, Tch S w W → Calls Tryz.prog 70 #[.pointer (some ⟨r, 0, none⟩)] W (fun e w' => e = .returned (.int .i64 size) ∧ w' = W) from fun W hW => by
              rw [← hsize]
              rcases HRR'.out with e | e
              · rw [e]; exact RSize_in (HRG.out W hW).a
              · rw [e]; exact RSize_in (HRG.out W hW).b)
            have h32 : 32 ≤ size := by rw [← hsize]; exact H32.out
            have hs4 : size ≤ 4096 := by rw [← hsize]; exact HSZ.out.2
            have hs4' : (size : Int) ≤ 4096 := by omega
            obtain ⟨i0, hi, hz0, hz1, hz2⟩ := info_parts Oc.u8_info
            obtain ⟨sg, hsg⟩ : ∃ sg, wc.heap.size = sg := ⟨_, rfl⟩
            have HSG := Lib.hid hsg
            obtain ⟨sec, hsec⟩ : ∃ sec, hdB nx ++ List.replicate (size - (hdB nx).length) 0 = sec := ⟨_, rfl⟩
            have HSC := Lib.hid hsec
            obtain ⟨hbV, hhbV⟩ : ∃ X, bytesV (hdB nx) = X := ⟨_, rfl⟩
            have HHV := Lib.hid hhbV
            have hl32 : (bytesV (hdB nx)).length = 32 := by rw [bytesV_len, hdB_len]
            have HL32 := Lib.hid hl32
            have HRE' := Lib.hid hr
            clear hsize hsg hsec hhbV hl32 hr
            go_wp2_with fail
            refine (HSI.out wc HDD.out.2).mono ?_
            rintro e w10 ⟨rfl, hw10⟩
            rw [hw10]
            clear hw10 w10
            go_wp2_with (first | (refine wpList_make_full _ rfl _ _ 51 rfl wc.heap.size 5 i0 (.int .u8 0) 1 Tryz.underlying51 hi hz0 hz1 .i64 .i64 _ _ size rfl rfl rfl rfl (by rw [hz2]; omega) (by unfold maxLen; omega) (Nat.le_refl _) ?_; intro w11 hown11 hg11; have HO11 := Lib.hid (made_u8 hown11 (by omega)); have HB11 := Lib.hid (show Below wc.heap.size wc w11 from Below.grown (Below.refl _ _) hg11 (Nat.le_refl _) (by simp)); clear hown11 hg11) | (obtain ⟨cur, hcur, hcs, hcz⟩ := HO11.out; (refine wpList_copy_splice rfl _ _ 51 51 rfl 5 Tryz.underlying51 u8_size (some ⟨wc.heap.size, 0, none⟩) A2 size size 32 c2 rfl rfl wc.heap.size 0 cur.toList 5 hcur (bytesV (hdB nx)) (by rw [HL32.out]; exact (Nat.min_eq_left h32).symm) (fun _ => ⟨rfl, cp_src (HBD.out.keep HB11.out) (by rw [hdB_len]; decide)⟩) (by rw [HL32.out, Array.length_toList]; omega) (Oc.bytesV_one _) wc.heap.size wc HB11.out (Nat.le_refl _) ?_; intro w12 HG12 hB12; have HSB := Lib.hid (splice_blk HG12.out (by rw [hdB_len]; exact h32) (fun j hj => by rw [Array.getElem?_toList]; exact hcz j hj)); have HB12 := Lib.hid hB12; have y0' : w12.cell? ⟨bx, 0, none⟩ = some (.pointer (some ⟨r, 0, none⟩)) := (HXD.out.keep hB12).cell 0; clear HG12 hB12 hcur hcs hcz)))
            refine (HSI.out w12 (HDD.out.2.below HB12.out)).mono ?_
            rintro e w10 ⟨rfl, hw10⟩
            rw [hw10]
            clear hw10 w10 HSI
            obtain ⟨lb, hlb⟩ : ∃ lb, w12.heap.size = lb := ⟨_, rfl⟩
            obtain ⟨w13, hw13⟩ : ∃ w13, w12.alloc (.cells #[.int .i64 size, .slice A body.length c, .int .i64 0, .slice (some ⟨wc.heap.size, 0, none⟩) size size] 172) = w13 := ⟨_, rfl⟩
            have hb13 : Below w12.heap.size w12 w13 := by rw [← hw13]; exact ext_alloc (Below.refl _ _) _
            have hbc : Below wc.heap.size wc w13 := ext_trans HB12.out hb13
            have hlr := HRD.out.lt; have hln := HND.out.lt; have hlx := HXD.out.lt
            have hsec : sec.length = size := by rw [← HSC.out, List.length_append, List.length_replicate, hdB_len]; omega
            have HI13 : SvI S w rr bx nb lb sg p r size nx A body sec c S d1 w13 := ⟨HRD.out.keep hbc, HXD.out.keep hbc, HND.out.keep hbc, by rw [← hw13, ← hlb, ← HSG.out]; exact Arr.fresh w12 _ _, by rw [← HSC.out, ← HSG.out]; exact HSB.out.same (hb13.block _ HSB.out.lt), HBB.out w13 (HDD.out.2.below hbc), (DvIn_loc p d1).below HDD.out.1 hbc, HDD.out.2.below hbc, fun k hk => .inl hk, ⟨HNR.out, fun hk => by have := HS.out _ hk; have := HLX.out; omega, fun hk => by have := HS.out _ hk; have := HLX.out; omega, fun hk => by have := HS.out _ hk; have := HDD.out.2.size; have := HB12.out.size; omega, fun hk => by have := HS.out _ hk; have := HDD.out.2.size; have := HSG.out; omega⟩, by have := HRR.out; omega, HLX.out.1, HLX.out.2, by have := HDD.out.2.size; have := HB12.out.size; omega, by have := HDD.out.2.size; have := HSG.out; omega⟩
            have HI := Lib.hid HI13
            have HW13 := Lib.hid hw13; have HSL := Lib.hid hsec; have HLB := Lib.hid hlb
            clear HI13 hb13 hbc hlr hln hlx hsec hw13 hlb HSB
            obtain ⟨g, hg⟩ : ∃ g, (if at_ = 0 then sl.b else sl.a) = g := ⟨_, rfl⟩
            obtain ⟨E1, D1, hP1⟩ : ∃ E1 D1, putSync g d1 size body = (E1, D1) := ⟨_, _, rfl⟩
            obtain ⟨E2, D2, hP2⟩ : ∃ E2 D2, putSync g D1 0 sec = (E2, D2) := ⟨_, _, rfl⟩
            have hRE : R = if E1 = 0 then (if E2 = 0 then (0, nx, D2) else (E2, Hd.zero, D2)) else (E1, Hd.zero, D1) := by
              have h1 := HSV1.out
              rw [if_neg (by simp), if_neg HGZ.out, hg, HSE.out, HNX.out, hP1] at h1
              simp only at h1
              have hl0 : hdB nx ++ List.replicate (size - 32) 0 = sec := by rw [← HSC.out, hdB_len]
              rw [hl0, hP2] at h1
              simp only at h1
              rw [h1]
              by_cases e1 : E1 = 0
              · by_cases e2 : E2 = 0
                · simp [e1, e2]
                · simp [e1, e2]
              · simp [e1]
            have HRE := Lib.hid hRE; have HP1 := Lib.hid hP1; have HP2 := Lib.hid hP2
            have hgg : r = ra ∧ g = sl.a ∨ r = rb ∧ g = sl.b := by
              rw [← hg, ← HRE'.out]
              split
              · exact .inr ⟨rfl, rfl⟩
              · exact .inl ⟨rfl, rfl⟩
            have HGG := Lib.hid hgg
            have HWR := Lib.hid (show ∀ (T : Nat → Prop) (D : Dev) (at_ : Nat) (b : By) (n : Nat) (Ab : Option Addr) (cb : Nat) W W', b.length = n → SvI S w rr bx nb lb sg p r size nx A body sec c T D W → Below W.heap.size W W' → D.dk.size = size → at_ ≤ 4096 → Bs W' Ab b → (∀ gs off, Ab = some ⟨gs, off, none⟩ → gs < W'.heap.size ∧ ¬ T gs) → b.length ≤ cb → b.length ≤ 1000000 → D.dk.row.length + b.length ≤ 1000000 → Calls Tryz.prog 71 #[.pointer (some ⟨r, 0, none⟩), .int .i64 at_, .slice Ab n cb] W' (fun e w3 => e = .returned (.int .i64 (g.write D at_ b).1) ∧ ∃ T', SvI S w rr bx nb lb sg p r size nx A body sec c T' (g.write D at_ b).2 w3) from fun T D at_ b n Ab cb W W' hn hI hB hk hat hBs hAb hcb hbl hrw => by
              subst hn
              have hI' := hI.below hB
              have hrs := HRG.out W' hI'.tch
              have hnT : ¬ T r := fun hk => by
                have h3 := HRL.out
                have h4 := HSS.out
                rcases hI.sub r hk with h5 | h5
                · rcases HGG.out with ⟨e, _⟩ | ⟨e, _⟩
                  · rw [e] at h5; exact h4.2.1 h5
                  · rw [e] at h5; exact h4.2.2 h5
                · rcases HGG.out with ⟨e, _⟩ | ⟨e, _⟩ <;> omega
              have hrg : RgAt W' r p g D.dk.size := by
                rw [hk, ← HSE.out]
                rcases HGG.out with ⟨e, e2⟩ | ⟨e, e2⟩
                · rw [e, e2]; exact hrs.a
                · rw [e, e2]; exact hrs.b
              exact (RWrite_in hrg hI'.dev hnT at_ (by omega) b Ab cb hBs hAb hcb (by omega) hrw).mono fun e w3 he => ⟨he.1, _, hI'.step HAA.out he.2.1 he.2.2⟩)
            have HSY := Lib.hid (show ∀ (T : Nat → Prop) (D : Dev) W, SvI S w rr bx nb lb sg p r size nx A body sec c T D W → D.dk.size = size → D.dk.row.length ≤ 1000000 → Calls Tryz.prog 72 #[.pointer (some ⟨r, 0, none⟩)] W (fun e w3 => e = .returned (.int .i64 D.sync.1) ∧ ∃ T', SvI S w rr bx nb lb sg p r size nx A body sec c T' D.sync.2 w3) from fun T D W hI hk hrw => by
              have hrs := HRG.out W hI.tch
              have hrg : RgAt W r p g size := by
                rw [← HSE.out]
                rcases HGG.out with ⟨e, e2⟩ | ⟨e, e2⟩
                · rw [e, e2]; exact hrs.a
                · rw [e, e2]; exact hrs.b
              exact (RSync_in hrg hI.dev hrw).mono fun e w3 he => ⟨he.1, _, hI.step HAA.out he.2.1 he.2.2⟩)
            have hd1 : d1.dk.size = size ∧ d1.dk.row.length + body.length ≤ 1000000 := by rw [HK1.out, HSE.out]; exact ⟨rfl, HROW.out⟩
            have hd2 : E1 = 0 → D1.dk.size = size ∧ D1.dk.row.length = 0 := by
              have h1 := hP1
              unfold putSync at h1
              have h2 := g.write_dk d1 size body (by omega)
              split at h1
              · have h3 := Dev.sync_dk (g.write d1 size body).2
                rw [h1] at h3
                exact fun e => ⟨h3.1.trans (h2.1.trans hd1.1), by rw [h3.2 e]; rfl⟩
              · rename_i hne
                rw [h1] at hne
                exact fun e => absurd e hne
            have HD1 := Lib.hid hd1; have HD2 := Lib.hid hd2
            clear hg hP1 hP2 hRE hgg hd1 hd2
            go_wp2_with fail
            rw [HW13.out]
            rw [HSG.out, HLB.out]
            go_loopw [86] (fun k wr => (k = .int .i64 0 ∧ ∃ T, SvI S w rr bx nb lb sg p r size nx A body sec c T d1 wr) ∨ (k = .int .i64 1 ∧ E1 = 0 ∧ ∃ T, SvI S w rr bx nb lb sg p r size nx A body sec c T D1 wr) ∨ (k = .int .i64 2 ∧ (E1 = 0 ∧ E2 = 0) ∧ ∃ T, SvI S w rr bx nb lb sg p r size nx A body sec c T D2 wr)) (fun k _ => (2 - intOf k).toNat)
            case atStart => exact .inl ⟨rfl, S, HI.out⟩
            case round =>
              rcases hrel with ⟨rfl, T, hI⟩ | ⟨rfl, he1, T, hI⟩ | ⟨rfl, he12, T, hI⟩
              · have HI := Lib.hid hI
                have l0 : wr.cell? ⟨lb, 0, none⟩ = some (.int .i64 size) := hI.l.cell 0
                have l1 : wr.cell? ⟨lb, 1, none⟩ = some (.slice A body.length c) := hI.l.cell 1
                have l2 : wr.cell? ⟨lb, 2, none⟩ = some (.int .i64 0) := hI.l.cell 2
                have l3 : wr.cell? ⟨lb, 3, none⟩ = some (.slice (some ⟨sg, 0, none⟩) size size) := hI.l.cell 3
                have b0 : wr.cell? ⟨bx, 0, none⟩ = some (.pointer (some ⟨r, 0, none⟩)) := hI.x.cell 0
                have b0a : ∀ o, (wr.alloc o).cell? ⟨bx, 0, none⟩ = some (.pointer (some ⟨r, 0, none⟩)) := fun o => ((ext_alloc (Below.refl wr.heap.size wr) o).cell (p := ⟨bx, 0, none⟩) hI.x.lt).trans b0
                clear hI
                obtain ⟨ew, Dw, hwr⟩ : ∃ ew Dw, g.write d1 ((size : Nat) : Int) body = (ew, Dw) := ⟨_, _, rfl⟩
                obtain ⟨es, Ds, hsy⟩ : ∃ es Ds, Dw.sync = (es, Ds) := ⟨_, _, rfl⟩
                have hps : (E1, D1) = if ew = 0 then (es, Ds) else (ew, Dw) := by rw [← HP1.out]; unfold putSync; rw [hwr]; simp only [hsy]
                have hdw : Dw.dk.size = size ∧ Dw.dk.row.length ≤ 1000000 := by
                  have h2 := g.write_dk d1 size body (by rw [HD1.out.1]; omega)
                  rw [hwr] at h2
                  exact ⟨h2.1.trans HD1.out.1, Nat.le_trans h2.2 HD1.out.2⟩
                have HWV := Lib.hid hwr; have HSV := Lib.hid hsy; have HPS := Lib.hid hps; have HDW := Lib.hid hdw
                clear hwr hsy hps hdw
                go_wp2_with fail
                refine (HWR.out T d1 size body body.length A c wr _ rfl HI.out (by repeat (first | with_reducible exact Below.refl _ _ | with_reducible refine ext_alloc ?_ _ | with_reducible refine ext_drew ?_ | with_reducible refine ext_drewN ?_ _ | (refine ext_setCell ?_ (by simp at *; omega) _) | with_reducible refine ext_trans ?_ (by assumption))) HD1.out.1 (by omega) (HI.out.below (by repeat (first | with_reducible exact Below.refl _ _ | with_reducible refine ext_alloc ?_ _ | with_reducible refine ext_drew ?_ | with_reducible refine ext_drewN ?_ _ | (refine ext_setCell ?_ (by simp at *; omega) _) | with_reducible refine ext_trans ?_ (by assumption)))).body (fun gs off e => ⟨by have h1 := (HAA.out gs off e).1; have h2 := HI.out.tch.size; simp; omega, fun ht => by rcases HI.out.sub gs ht with h5 | h5; exact (HAA.out gs off e).2 h5; have h1 := (HAA.out gs off e).1; omega⟩) HCC.out hbl HD1.out.2).mono ?_
                rw [HWV.out]
                rintro e w3 ⟨rfl, T1, hI3⟩
                have HI2 := Lib.hid hI3
                have b0' : w3.cell? ⟨bx, 0, none⟩ = some (.pointer (some ⟨r, 0, none⟩)) := hI3.x.cell 0
                clear hI3
                by_cases hew : ew = 0
                · have HPS2 := Lib.hid (show (E1, D1) = (es, Ds) from by rw [HPS.out, if_pos hew])
                  subst hew
                  clear HPS
                  go_wp2_with fail
                  refine (HSY.out T1 Dw w3 HI2.out HDW.out.1 HDW.out.2).mono ?_
                  rw [HSV.out]
                  rintro e w4 ⟨rfl, T3, hI3⟩
                  have HI3 := Lib.hid hI3
                  clear hI3
                  by_cases hes : es = 0
                  · have HEE := Lib.hid (show E1 = 0 ∧ D1 = Ds from by have h1 := HPS2.out; injection h1 with h1 h2; exact ⟨h1.trans hes, h2⟩)
                    subst hes
                    go_wp2_with fail
                    go_roundw
                    case rel => exact .inr (.inl ⟨rfl, HEE.out.1, T3, by rw [HEE.out.2]; exact HI3.out⟩)
                    case measure => simp [intOf]
                  · have hn1 : (es != 0) = true := by simp [hes]
                    have HEE := Lib.hid (show ¬ E1 = 0 from by have h1 := HPS2.out; injection h1 with h1 h2; rw [h1]; exact hes)
                    have HED := Lib.hid (show E1 = es ∧ D1 = Ds from by have h1 := HPS2.out; injection h1 with h1 h2; exact ⟨h1, h2⟩)
                    clear hes
                    go_wp2_with (first | (refine wpList_store_blk rfl 77 _ _ rfl rr 77 _ #[.int .u64 0, .int .u64 0, .int .i64 0, .int .u32 0] HI3.out.res rfl rfl rfl hd_size (hdV_one Hd.zero) ?_; intro wz hAz hgz hsz; have HAz := Lib.hid hAz; have HGz := Lib.hid hgz; clear hAz hgz hsz))
                    refine bodyPost_ret (results_cell_tmp Tryz.results26 _ (by rfl) (run_load_blk 77 HAz.out _ Tryz.underlying77 rfl hd_size)) rfl ?_
                    rw [show R = (es, Hd.zero, Ds) from by rw [HRE.out, if_neg HEE.out]; rw [HED.out.1, HED.out.2]]
                    exact HI3.out.out (R := (es, Hd.zero, Ds)) HS.out HGz.out rfl
                · have hn1 : (ew != 0) = true := by simp [hew]
                  have HEE := Lib.hid (show ¬ E1 = 0 from by have h1 := HPS.out; rw [if_neg hew] at h1; injection h1 with h1 h2; rw [h1]; exact hew)
                  have HED := Lib.hid (show E1 = ew ∧ D1 = Dw from by have h1 := HPS.out; rw [if_neg hew] at h1; injection h1 with h1 h2; exact ⟨h1, h2⟩)
                  clear hew
                  go_wp2_with (first | (refine wpList_store_blk rfl 77 _ _ rfl rr 77 _ #[.int .u64 0, .int .u64 0, .int .i64 0, .int .u32 0] HI2.out.res rfl rfl rfl hd_size (hdV_one Hd.zero) ?_; intro wz hAz hgz hsz; have HAz := Lib.hid hAz; have HGz := Lib.hid hgz; clear hAz hgz hsz))
                  refine bodyPost_ret (results_cell_tmp Tryz.results26 _ (by rfl) (run_load_blk 77 HAz.out _ Tryz.underlying77 rfl hd_size)) rfl ?_
                  rw [show R = (ew, Hd.zero, Dw) from by rw [HRE.out, if_neg HEE.out]; rw [HED.out.1, HED.out.2]]
                  exact HI2.out.out (R := (ew, Hd.zero, Dw)) HS.out HGz.out rfl
              · have HE1 := Lib.hid he1
                clear he1
                have HI := Lib.hid hI
                have l0 : wr.cell? ⟨lb, 0, none⟩ = some (.int .i64 size) := hI.l.cell 0
                have l1 : wr.cell? ⟨lb, 1, none⟩ = some (.slice A body.length c) := hI.l.cell 1
                have l2 : wr.cell? ⟨lb, 2, none⟩ = some (.int .i64 0) := hI.l.cell 2
                have l3 : wr.cell? ⟨lb, 3, none⟩ = some (.slice (some ⟨sg, 0, none⟩) size size) := hI.l.cell 3
                have b0 : wr.cell? ⟨bx, 0, none⟩ = some (.pointer (some ⟨r, 0, none⟩)) := hI.x.cell 0
                have b0a : ∀ o, (wr.alloc o).cell? ⟨bx, 0, none⟩ = some (.pointer (some ⟨r, 0, none⟩)) := fun o => ((ext_alloc (Below.refl wr.heap.size wr) o).cell (p := ⟨bx, 0, none⟩) hI.x.lt).trans b0
                clear hI
                obtain ⟨ew, Dw, hwr⟩ : ∃ ew Dw, g.write D1 ((0 : Nat) : Int) sec = (ew, Dw) := ⟨_, _, rfl⟩
                obtain ⟨es, Ds, hsy⟩ : ∃ es Ds, Dw.sync = (es, Ds) := ⟨_, _, rfl⟩
                have hps : (E2, D2) = if ew = 0 then (es, Ds) else (ew, Dw) := by rw [← HP2.out]; unfold putSync; rw [hwr]; simp only [hsy]
                have hdw : Dw.dk.size = size ∧ Dw.dk.row.length ≤ 1000000 := by
                  have h2 := g.write_dk D1 0 sec (by rw [(HD2.out HE1.out).1]; omega)
                  rw [hwr] at h2
                  exact ⟨h2.1.trans (HD2.out HE1.out).1, Nat.le_trans h2.2 (by have h1 := (HD2.out HE1.out).2; have h2 := HSL.out; omega)⟩
                have HWV := Lib.hid hwr; have HSV := Lib.hid hsy; have HPS := Lib.hid hps; have HDW := Lib.hid hdw
                clear hwr hsy hps hdw
                go_wp2_with fail
                refine (HWR.out T D1 0 sec size (some ⟨sg, 0, none⟩) size wr _ HSL.out HI.out (by repeat (first | with_reducible exact Below.refl _ _ | with_reducible refine ext_alloc ?_ _ | with_reducible refine ext_drew ?_ | with_reducible refine ext_drewN ?_ _ | (refine ext_setCell ?_ (by simp at *; omega) _) | with_reducible refine ext_trans ?_ (by assumption))) (HD2.out HE1.out).1 (by omega) ((HI.out.below (by repeat (first | with_reducible exact Below.refl _ _ | with_reducible refine ext_alloc ?_ _ | with_reducible refine ext_drew ?_ | with_reducible refine ext_drewN ?_ _ | (refine ext_setCell ?_ (by simp at *; omega) _) | with_reducible refine ext_trans ?_ (by assumption)))).sec.bsx) (fun gs off e => by injection e with e; injection e with e1 e2; subst e1; exact ⟨by have := HI.out.sec.lt; simp; omega, HI.out.no.2.2.2.2⟩) (by have := HSL.out; omega) (by have := HSL.out; omega) (by have h1 := (HD2.out HE1.out).2; have h2 := HSL.out; omega)).mono ?_
                rw [HWV.out]
                rintro e w3 ⟨rfl, T1, hI3⟩
                have HI2 := Lib.hid hI3
                have b0' : w3.cell? ⟨bx, 0, none⟩ = some (.pointer (some ⟨r, 0, none⟩)) := hI3.x.cell 0
                clear hI3
                by_cases hew : ew = 0
                · have HPS2 := Lib.hid (show (E2, D2) = (es, Ds) from by rw [HPS.out, if_pos hew])
                  subst hew
                  clear HPS
                  go_wp2_with fail
                  refine (HSY.out T1 Dw w3 HI2.out HDW.out.1 HDW.out.2).mono ?_
                  rw [HSV.out]
                  rintro e w4 ⟨rfl, T3, hI3⟩
                  have HI3 := Lib.hid hI3
                  clear hI3
                  by_cases hes : es = 0
                  · have HEE := Lib.hid (show E2 = 0 ∧ D2 = Ds from by have h1 := HPS2.out; injection h1 with h1 h2; exact ⟨h1.trans hes, h2⟩)
                    subst hes
                    go_wp2_with fail
                    go_roundw
                    case rel => exact .inr (.inr ⟨rfl, ⟨HE1.out, HEE.out.1⟩, T3, by rw [HEE.out.2]; exact HI3.out⟩)
                    case measure => simp [intOf]
                  · have hn1 : (es != 0) = true := by simp [hes]
                    have HEE := Lib.hid (show ¬ E2 = 0 from by have h1 := HPS2.out; injection h1 with h1 h2; rw [h1]; exact hes)
                    have HED := Lib.hid (show E2 = es ∧ D2 = Ds from by have h1 := HPS2.out; injection h1 with h1 h2; exact ⟨h1, h2⟩)
                    clear hes
                    go_wp2_with (first | (refine wpList_store_blk rfl 77 _ _ rfl rr 77 _ #[.int .u64 0, .int .u64 0, .int .i64 0, .int .u32 0] HI3.out.res rfl rfl rfl hd_size (hdV_one Hd.zero) ?_; intro wz hAz hgz hsz; have HAz := Lib.hid hAz; have HGz := Lib.hid hgz; clear hAz hgz hsz))
                    refine bodyPost_ret (results_cell_tmp Tryz.results26 _ (by rfl) (run_load_blk 77 HAz.out _ Tryz.underlying77 rfl hd_size)) rfl ?_
                    rw [show R = (es, Hd.zero, Ds) from by rw [HRE.out, if_pos HE1.out, if_neg HEE.out]; rw [HED.out.1, HED.out.2]]
                    exact HI3.out.out (R := (es, Hd.zero, Ds)) HS.out HGz.out rfl
                · have hn1 : (ew != 0) = true := by simp [hew]
                  have HEE := Lib.hid (show ¬ E2 = 0 from by have h1 := HPS.out; rw [if_neg hew] at h1; injection h1 with h1 h2; rw [h1]; exact hew)
                  have HED := Lib.hid (show E2 = ew ∧ D2 = Dw from by have h1 := HPS.out; rw [if_neg hew] at h1; injection h1 with h1 h2; exact ⟨h1, h2⟩)
                  clear hew
                  go_wp2_with (first | (refine wpList_store_blk rfl 77 _ _ rfl rr 77 _ #[.int .u64 0, .int .u64 0, .int .i64 0, .int .u32 0] HI2.out.res rfl rfl rfl hd_size (hdV_one Hd.zero) ?_; intro wz hAz hgz hsz; have HAz := Lib.hid hAz; have HGz := Lib.hid hgz; clear hAz hgz hsz))
                  refine bodyPost_ret (results_cell_tmp Tryz.results26 _ (by rfl) (run_load_blk 77 HAz.out _ Tryz.underlying77 rfl hd_size)) rfl ?_
                  rw [show R = (ew, Hd.zero, Dw) from by rw [HRE.out, if_pos HE1.out, if_neg HEE.out]; rw [HED.out.1, HED.out.2]]
                  exact HI2.out.out (R := (ew, Hd.zero, Dw)) HS.out HGz.out rfl
              · have HI := Lib.hid hI
                have HE12 := Lib.hid he12
                clear hI he12
                go_wp2_with (first | (refine wpList_load_blk rfl 77 _ rfl nb 77 _ HI.out.h rfl _ Tryz.underlying77 rfl hd_size ?_) | (refine wpList_store_blk rfl 77 _ _ rfl rr 77 _ (hdV nx) HI.out.res rfl rfl rfl hd_size (hdV_one nx) ?_; intro wz hAz hgz hsz; have HAz := Lib.hid hAz; have HGz := Lib.hid hgz; clear hAz hgz hsz))
                refine bodyPost_ret (results_cell_tmp Tryz.results26 _ (by rfl) (run_load_blk 77 HAz.out _ Tryz.underlying77 rfl hd_size)) rfl ?_
                rw [show R = (0, nx, D2) from by rw [HRE.out, if_pos HE12.out.1, if_pos HE12.out.2]]
                exact HI.out.out (R := (0, nx, D2)) HS.out HGz.out rfl
    · have hn1 : (er != 0) = true := by simp [her]
      have HNE := Lib.hid her
      clear her
      go_wp2_with (first | (refine wpList_store_blk rfl 77 _ _ rfl w3.heap.size 77 _ (hdV hh) HFR.out rfl rfl rfl hd_size (hdV_one hh) ?_; intro w5 hA5 hg5 hs5; have HB5 := Lib.hid (show Below w3.heap.size w3 w5 from ext_only (ext_alloc (Below.refl _ _) _) hg5 (Nat.le_refl _)); have HA5 := Lib.hid (HA3.out.keep HB5.out); clear hA5 hg5 hs5) | (refine wpList_store_blk rfl 77 _ _ rfl rr 77 _ #[.int .u64 0, .int .u64 0, .int .i64 0, .int .u32 0] HA5.out rfl rfl rfl hd_size (hdV_one Hd.zero) ?_; intro wz hAz hgz hsz; have HAz := Lib.hid hAz; have HGz := Lib.hid hgz; clear hAz hgz hsz))
      refine bodyPost_ret (results_cell_tmp Tryz.results26 _ (by rfl) (run_load_blk 77 HAz.out _ Tryz.underlying77 rfl hd_size)) rfl ?_
      have HD5 := Lib.hid (show DvIn p d1 S w5 ∧ Tch S w w5 from ⟨(DvIn_loc p d1).below HD3.out.1 HB5.out, HD3.out.2.below HB5.out⟩)
      rw [show R = (er, Hd.zero, d1) from by rw [HSV1.out]; simp [HNE.out]]
      exact ⟨rfl, (DvIn_loc p d1).toGr ((DvIn_loc p d1).same HD5.out.1 HGz.out.size (fun k hk => HGz.out.block k ((DvIn_loc p d1).lt HD5.out.1 k hk) (fun e => by injection e with e; subst e; exact HNR.out hk))) HS.out (Nat.le_trans HD5.out.2.size HGz.out.size), HD5.out.2.grown HGz.out (fun k e => by injection e with e; subst e; exact .inr (by have := HRR.out; omega))⟩

end Go.Proofs.YtbnkanehjnepbaaGreatDoor.En
end

/- Frames read out of bytes, plainly. No program in sight. -/
section
set_option linter.unusedVariables false
set_option linter.unusedSimpArgs false
namespace Go.Proofs.YtbnkanehjnepbaaGreatDoor.En
open Go.Proofs.YtbnkanehjnepbaaGreatDoor.Oc (le val)
open Go.Proofs.YtbnkanehjnepbaaGreatDoor.Cr (crc)

/-- a frame -/
structure Fr where
  epoch : Nat
  seq : Nat
  body : By
def Fr.zero : Fr := ⟨0, 0, []⟩
/-- a frame is read: the error, the frame -/
def fget (b : By) : Int × Fr :=
  if (b.take 54).length < 2 then (4, Fr.zero)
  else if 32 < val ((b.take 54).take 2) then (80, Fr.zero)
  else if (b.take 54).length < 22 + val ((b.take 54).take 2) then (4, Fr.zero)
  else if val (((b.take 54).drop (18 + val ((b.take 54).take 2))).take 4) = crc 0 (b.take (18 + val ((b.take 54).take 2))) then
    (0, ⟨val (((b.take 54).drop 2).take 8), val (((b.take 54).drop 10).take 8), ((b.take 54).drop 18).take (val ((b.take 54).take 2))⟩)
  else (81, Fr.zero)
def Fr.size (f : Fr) : Nat := 22 + f.body.length
/-- may f come behind the number seq, in an epoch? -/
def Fr.next (f : Fr) (epoch seq : Nat) : Bool := decide (f.epoch = epoch) && decide (f.seq = seq + 1)
/-- the row of frames at the beginning of b -/
def scanF : Nat → By → Nat → Nat → List Fr
  | 0, _, _, _ => []
  | k + 1, b, epoch, seq => if seq + 1 = 18446744073709551616 then []
    else if (fget b).1 = 0 ∧ (fget b).2.next epoch seq = true then (fget b).2 :: scanF k (b.drop (fget b).2.size) epoch (seq + 1) else []
def scan (b : By) (epoch seq : Nat) : List Fr := scanF (b.length + 1) b epoch seq
end Go.Proofs.YtbnkanehjnepbaaGreatDoor.En
end
