/- Packed: KitA, Kit19, Kit21. -/
import Derived.WalkKit
import Derived.WalkSpells
import Derived.WalkLawsBesides
import Derived.Deep.QuietTactic
import Derived.BigQuiet
import Derived.Deep.RegionHeld3
import Derived.Deep.DrawnRows
import Derived.Deep.AppendLies
import Derived.Outline
import Derived.Lib.Hide
import Derived.Laws.IdiomStrings
import Derived.Deep.MidRow
import Derived.Laws.Rows
import Derived.Laws.AppendOwn
import Derived.Maps.OwnSet
import Derived.Maps.OwnOps
import Derived.Maps.AppendAt
import Derived.StillTail
import Derived.OwnWalk
import Derived.RangeFuncNested
import Derived.RangeFuncBound
import Derived.RangeFuncLeaves
import Derived.OwnWalkIn
import Derived.TacticsInMore
import Derived.LoopNIn
import Derived.LoopIn
set_option linter.unusedVariables false
set_option linter.unusedSimpArgs false
/- Packed: Kit Kit2 Kit3 Kit4 Kit5 Kit6 Kit7 Kit8 Kit9 Kit10 Kit11 Kit12 Kit13 Kit14 -/
section
set_option linter.unusedVariables false
set_option linter.unusedSimpArgs false
/- Kit: Small helpers of my own that the walks share: what a call's world may have turned ('Below w.heap.size w w''), composed without side conditions. No program in sight. -/
section
namespace Go.Proofs.YtkmpchffflemcaaGreatDoor
open Go.RowKit

theorem ret_int {k : IntKind} {a b : Int} (h : a = b) : Ending.returned (.int k a) = .returned (.int k b) := by rw [h]
theorem ret_bool {a b : Bool} (h : a = b) : Ending.returned (.bool a) = .returned (.bool b) := by rw [h]
/-- all old cells and old marks read as before -/
theorem bcell {W w1 : World} (hb : Below W.heap.size W w1) : (∀ b o, b < W.heap.size → w1.cell? ⟨b, o, none⟩ = W.cell? ⟨b, o, none⟩) ∧ (∀ b o, b < W.heap.size → w1.frozen? ⟨b, o, none⟩ = W.frozen? ⟨b, o, none⟩) :=
  ⟨fun b o h => hb.cell (p := ⟨b, o, none⟩) h, fun b o h => hb.frozen (p := ⟨b, o, none⟩) h⟩

theorem ext_trans {a b c : World} (h : Below a.heap.size a b) (k : Below b.heap.size b c) : Below a.heap.size a c := h.trans (k.mono h.size)
theorem ext_alloc {a w : World} (h : Below a.heap.size a w) (o : Obj) : Below a.heap.size a (w.alloc o) := h.alloc h.size o
theorem ext_drew {a w : World} (h : Below a.heap.size a w) : Below a.heap.size a w.drew := h.drew
theorem ext_drewN {a w : World} (h : Below a.heap.size a w) (n : Nat) : Below a.heap.size a (w.drewN n) := ⟨h.os, h.tape, h.output, h.size, h.block⟩
theorem ext_setCell {a w : World} (h : Below a.heap.size a w) {p : Addr} (hp : a.heap.size ≤ p.block) (u : Value) : Below a.heap.size a (w.setCell p u) := h.setCell hp u

/-- block g holds just the cells cs (element type t), none of them frozen -/
def Arr (w : World) (g : Nat) (t : TypeId) (cs : Array Value) : Prop := w.heap[g]? = some (.cells cs t (0, 0))
theorem Arr.lt {w : World} {g : Nat} {t : TypeId} {cs : Array Value} (h : Arr w g t cs) : g < w.heap.size := by
  rcases Nat.lt_or_ge g w.heap.size with h1 | h1
  · exact h1
  · rw [Arr, Array.getElem?_eq_none h1] at h; cases h
theorem Arr.cell {w : World} {g : Nat} {t : TypeId} {cs : Array Value} (h : Arr w g t cs) (i : Nat) : w.cell? ⟨g, i, none⟩ = cs[i]? := by
  rw [Arr] at h; simp [World.cell?, h]
theorem Arr.mark {w : World} {g : Nat} {t : TypeId} {cs : Array Value} (h : Arr w g t cs) (i : Nat) : w.frozen? ⟨g, i, none⟩ = false := by
  rw [Arr] at h; simp [World.frozen?, h]
theorem Arr.fresh (w : World) (t : TypeId) (cs : Array Value) : Arr (w.alloc (.cells cs t)) w.heap.size t cs := by
  exact heap_alloc_new w _
theorem Arr.new {w : World} {g : Nat} {t : TypeId} {cs : Array Value} (h : g = w.heap.size) : Arr (w.alloc (.cells cs t)) g t cs := by
  subst h; exact Arr.fresh w t cs
theorem Arr.drew {w : World} {g : Nat} {t : TypeId} {cs : Array Value} (h : Arr w g t cs) : Arr w.drew g t cs := h
theorem Arr.drewN {w : World} {g : Nat} {t : TypeId} {cs : Array Value} (h : Arr w g t cs) (n : Nat) : Arr (w.drewN n) g t cs := h
theorem Arr.alloc {w : World} {g : Nat} {t : TypeId} {cs : Array Value} (h : Arr w g t cs) (o : Obj) : Arr (w.alloc o) g t cs :=
  (Below.heap_alloc w o g h.lt).trans h
theorem Arr.put {w : World} {g : Nat} {t : TypeId} {cs : Array Value} (h : Arr w g t cs) (i : Nat) (u : Value) : Arr (w.setCell ⟨g, i, none⟩ u) g t (cs.setIfInBounds i u) := by
  rw [Arr] at h; simp [Arr, World.setCell, Array.getElem?_modify, h]
theorem Arr.other {w : World} {g : Nat} {t : TypeId} {cs : Array Value} (h : Arr w g t cs) {p : Addr} (hp : g ≠ p.block) (u : Value) : Arr (w.setCell p u) g t cs :=
  (Below.heap_setCell w p u g hp).trans h
theorem Arr.keep {w w' : World} {g : Nat} {t : TypeId} {cs : Array Value} (h : Arr w g t cs) (hb : Below w.heap.size w w') : Arr w' g t cs :=
  (hb.block g h.lt).trans h

/-- an owned row lies at or above its base -/
theorem own_base {w : World} {base : Nat} {e : TypeId} {size n : Nat} {v : Value} {xs : List Value} (h : w.ownsRow base e size v n xs) : ∀ k, v.ownBlock = some k → base ≤ k := by
  intro k hk
  rcases h.2 with ⟨rfl, _⟩ | ⟨g, cap, cur, rfl, hb, _⟩
  · simp [Value.ownBlock] at hk
  · simp [Value.ownBlock] at hk; omega
end Go.Proofs.YtkmpchffflemcaaGreatDoor
end

/- Kit2: More helpers of my own: a string turned to bytes, bytes turned back; cells behind a store. No program in sight. -/
section
namespace Go.Proofs.YtkmpchffflemcaaGreatDoor
open Go.RowKit

theorem add_zero_off (g j : Nat) : (⟨g, 0, none⟩ : Addr).add j = ⟨g, j, none⟩ := by
  unfold Addr.add; split
  · subst_vars; rfl
  · simp

end Go.Proofs.YtkmpchffflemcaaGreatDoor
end

/- Kit3: More helpers of my own: whole arrays and structs loaded from and stored into a block that is known whole; behind a store the world goes on under a new name. No program in sight. -/
section
namespace Go.Proofs.YtkmpchffflemcaaGreatDoor
open Go.RowKit

theorem Arr.grown {w w' : World} {g g' : Nat} {t : TypeId} {cs : Array Value} (h : Arr w g t cs) (hg : w.grownBy w' (some g')) (hne : g ≠ g') : Arr w' g t cs :=
  (hg.block g h.lt (by simpa using hne)).trans h
theorem ext_only {a w w' : World} {g : Nat} (h : Below a.heap.size a w) (hg : w.grownBy w' (some g)) (hb : a.heap.size ≤ g) : Below a.heap.size a w' :=
  h.grown hg h.size (fun k hk => by injection hk with hk; omega)
theorem only_setCells (g : Nat) : ∀ (vs : List Value) (o : Nat) (w : World), w.grownBy (w.setCells g o vs) (some g) ∧ (w.setCells g o vs).heap.size = w.heap.size
  | [], _, w => ⟨⟨rfl, rfl, rfl, Nat.le_refl _, fun _ _ _ => rfl⟩, rfl⟩
  | v :: r, o, w => by
    obtain ⟨h1, h2⟩ := only_setCells g r (o + 1) (w.setCell ⟨g, o, none⟩ v)
    have hs : (w.setCell ⟨g, o, none⟩ v).heap.size = w.heap.size := by simp [World.setCell]
    refine ⟨⟨h1.os.trans rfl, h1.tape.trans rfl, h1.output.trans rfl, by have := h1.size; show w.heap.size ≤ ((w.setCell ⟨g, o, none⟩ v).setCells g (o + 1) r).heap.size; omega, fun k hk hne => ?_⟩, h2.trans hs⟩
    have hkg : k ≠ g := fun e => hne (by rw [e])
    exact (h1.block k (by omega) hne).trans (Below.heap_setCell w ⟨g, o, none⟩ v k hkg)
theorem arr_setCells (g : Nat) (t : TypeId) : ∀ (vs : List Value) (o : Nat) (w : World) (cs : Array Value), Arr w g t cs → o + vs.length ≤ cs.size →
    ∃ cs', Arr (w.setCells g o vs) g t cs' ∧ cs'.size = cs.size ∧ (∀ j, j < vs.length → cs'[o + j]? = vs[j]?) ∧ (∀ j, j < o ∨ o + vs.length ≤ j → cs'[j]? = cs[j]?)
  | [], _, _, cs, h, _ => ⟨cs, h, rfl, fun j hj => absurd hj (by simp), fun _ _ => rfl⟩
  | v :: r, o, w, cs, h, hl => by
    have hl' : o + (r.length + 1) ≤ cs.size := by simpa using hl
    obtain ⟨cs', h1, h2, h3, h4⟩ := arr_setCells g t r (o + 1) (w.setCell ⟨g, o, none⟩ v) _ (h.put o v) (by rw [Array.size_setIfInBounds]; omega)
    rw [Array.size_setIfInBounds] at h2
    refine ⟨cs', h1, h2, fun j hj => ?_, fun j hj => ?_⟩
    · match j with
      | 0 =>
        have := h4 o (.inl (by omega))
        rw [Nat.add_zero, this, Array.getElem?_setIfInBounds, if_pos rfl, if_pos (by omega)]
        rfl
      | j + 1 =>
        have := h3 j (by simpa using hj)
        rw [show o + (j + 1) = o + 1 + j from by omega, this]
        rfl
    · have hj' : j < o ∨ o + (r.length + 1) ≤ j := by simpa using hj
      rw [h4 j (by omega), Array.getElem?_setIfInBounds, if_neg (by omega)]

/-- a whole block is loaded -/
theorem wpList_load_blk {P : Program} {ops : Array Oper} {rest : List Oper} {o : Oper} {a : Act} {w : World} {Q : Exit → Act → World → Prop} (hgd : o.guard = none) (ty : TypeId) (x : Operand) (ho : o.op = .load ty x)
    (g : Nat) (t : TypeId) (cs : Array Value) (hg : Arr w g t cs) (hx : a.eval x = .pointer (some ⟨g, 0, none⟩)) (d : TypeDesc)
    (hu : P.underlying ty = some d) (hd : (match d with | .struct _ | .array _ _ => true | _ => false) = true) (hi : (P.info? ty).map (·.size) = some cs.size)
    (h : wpList P ops Q rest (a.put o.dst (.agg cs)) w) : wpList P ops Q (o :: rest) a w :=
  wpList_load_row hgd ty x ho g hx t cs (0, 0) d hg hu hd hi h

/-- a whole block is stored into -/
theorem wpList_store_blk {P : Program} {ops : Array Oper} {rest : List Oper} {o : Oper} {a : Act} {w : World} {Q : Exit → Act → World → Prop} (hgd : o.guard = none) (ty : TypeId) (x y : Operand) (ho : o.op = .store ty x y)
    (g : Nat) (t : TypeId) (cs cells : Array Value) (hg : Arr w g t cs) (hx : a.eval x = .pointer (some ⟨g, 0, none⟩)) (hy : a.eval y = .agg cells) (hsz : cells.size = cs.size)
    (hi : (P.info? ty).map (·.size) = some cells.size) (h1 : cells.all (·.oneCell') = true)
    (h : ∀ w', Arr w' g t cells → w.grownBy w' (some g) → w'.heap.size = w.heap.size → wpList P ops Q rest (a.put o.dst undef) w') : wpList P ops Q (o :: rest) a w := by
  refine wpList_store_mid hgd ty x y ho g 0 cells hx hy (fun j hj => ?_) hi h1 ?_
  · rw [Nat.zero_add, hg.cell j, hg.mark j]
    rw [Array.getElem?_eq_getElem (by omega)]
    exact ⟨rfl, rfl⟩
  · obtain ⟨h2, h3⟩ := only_setCells g cells.toList 0 w
    obtain ⟨cs', h4, h5, h6, _⟩ := arr_setCells g t cells.toList 0 w cs hg (by simp; omega)
    refine h _ ?_ h2 h3
    have e : cs' = cells := by
      apply Array.ext_getElem?
      intro j
      rcases Nat.lt_or_ge j cells.size with hj | hj
      · have := h6 j (by simpa using hj)
        rw [Nat.zero_add] at this
        rw [this]; simp
      · rw [Array.getElem?_eq_none (by omega), Array.getElem?_eq_none hj]
    rw [e] at h4; exact h4

/-- what a whole block reads as -/
theorem run_load_blk {P : Program} {w : World} {g : Nat} {t : TypeId} {cs : Array Value} (ty : TypeId) (hg : Arr w g t cs) (d : TypeDesc)
    (hu : P.underlying ty = some d) (hd : (match d with | .struct _ | .array _ _ => true | _ => false) = true) (hi : (P.info? ty).map (·.size) = some cs.size) :
    (loadVar ty ⟨g, 0, none⟩).run P w = .ok (.agg cs) w := run_loadVar_row w g t ty cs (0, 0) d hg hu hd hi

/-- results: one in memory, one or two in slots -/
theorem results_cell_tmp {P : Program} {fn : Func} {p q : Tmp} {ty : TypeId} (h : fn.results = #[.cell p ty, .tmp q]) (tmps : Array Value) {w : World} {ad : Addr} {v : Value}
    (hp : tmps.getD p undef = .pointer (some ad)) (hl : (loadVar ty ad).run P w = .ok v w) : (results fn tmps).run P w = .ok (.tuple #[v, tmps.getD q undef]) w := by
  have hp' : tmps[p]?.getD undef = .pointer (some ad) := by simpa using hp
  simp [results, h, hp', asAddr, hl]
theorem results_cell {P : Program} {fn : Func} {p : Tmp} {ty : TypeId} (h : fn.results = #[.cell p ty]) (tmps : Array Value) {w : World} {ad : Addr} {v : Value}
    (hp : tmps.getD p undef = .pointer (some ad)) (hl : (loadVar ty ad).run P w = .ok v w) : (results fn tmps).run P w = .ok v w := by
  have hp' : tmps[p]?.getD undef = .pointer (some ad) := by simpa using hp
  simp [results, h, hp', asAddr, hl]

end Go.Proofs.YtkmpchffflemcaaGreatDoor
end

/- Kit4: A drawn region walked in one order by hand: an operation that only reads is taken first; so is one that its guard does not want. No program in sight. -/
section
namespace Go.Proofs.YtkmpchffflemcaaGreatDoor
open Go.RowKit

theorem take_yes {P : Program} {ops : Array Oper} {Q : Exit → Act → World → Prop} {md : Region.Mode} {S : World → Prop} {i : Nat} {oi : Oper} {d : Option Tmp} {v : Value} {fuel : Nat} {listed : Array Bool} {a : Act} {w : World}
    (hi : ops[i]? = some oi) (hs : Region.noSelect ops = true) (hf : Region.free md ops listed i = true) (hr : (Region.ready md ops listed).contains i = true)
    (hQ : ∀ c a w, Q (.panic c) (a.put d v) w → Q (.panic c) a w) (hd : oi.dst = d) (hw : Region.wanted oi (yielded ops a.tmps) = true)
    (hy : ∀ w, S w → (execOp a.eval oi).run P w = .ok (.value v) w) (hS : S w)
    (h : wpAnyH P md ops Q S fuel (listed.setIfInBounds i true) (a.put d v) w) : wpAnyH P md ops Q S (fuel + 1) listed a w := by
  subst hd
  exact wpAnyH_take hi hs hf hr hQ (.inl ⟨hw, hy⟩) hS h
theorem take_no {P : Program} {ops : Array Oper} {Q : Exit → Act → World → Prop} {md : Region.Mode} {S : World → Prop} {i : Nat} {oi : Oper} {d : Option Tmp} {fuel : Nat} {listed : Array Bool} {a : Act} {w : World}
    (hi : ops[i]? = some oi) (hs : Region.noSelect ops = true) (hf : Region.free md ops listed i = true) (hr : (Region.ready md ops listed).contains i = true)
    (hQ : ∀ c a w, Q (.panic c) (a.put d undef) w → Q (.panic c) a w) (hd : oi.dst = d) (hw : Region.wanted oi (yielded ops a.tmps) = false) (hS : S w)
    (h : wpAnyH P md ops Q S fuel (listed.setIfInBounds i true) (a.put d undef) w) : wpAnyH P md ops Q S (fuel + 1) listed a w := by
  subst hd
  exact wpAnyH_take hi hs hf hr hQ (.inr ⟨hw, rfl⟩) hS h

end Go.Proofs.YtkmpchffflemcaaGreatDoor
end

/- Kit5: Owned rows (a slice grown by append) behind allocations, other stores and calls. No program in sight. -/
section
namespace Go.Proofs.YtkmpchffflemcaaGreatDoor
open Go.RowKit

theorem own_lt {w : World} {base n size g : Nat} {e : TypeId} {v : Value} {xs : List Value} (h : w.ownsRow base e size v n xs) (hg : v.ownBlock = some g) : g < w.heap.size ∧ base ≤ g := by
  rcases h.2 with ⟨rfl, _⟩ | ⟨g', cap, cur, rfl, hb, hh, _⟩
  · simp [Value.ownBlock] at hg
  · have : g' = g := by simpa [Value.ownBlock] using hg
    subst this
    exact ⟨(Array.getElem?_eq_some_iff.1 hh).1, hb⟩
theorem own_slice {w : World} {base n size : Nat} {e : TypeId} {v : Value} {xs : List Value} (h : w.ownsRow base e size v n xs) : ∃ A c, v = .slice A n c := by
  rcases h.2 with ⟨rfl, rfl⟩ | ⟨g', cap, cur, rfl, _⟩
  · exact ⟨_, _, rfl⟩
  · exact ⟨_, _, rfl⟩
theorem own_succ {w : World} {base n size : Nat} {e : TypeId} {v : Value} {xs : List Value} (h : w.ownsRow base e size v (n + 1) xs) : ∃ g cap, v = .slice (some ⟨g, 0, none⟩) (n + 1) cap := by
  rcases h.2 with ⟨_, h0⟩ | ⟨g, cap, _, rfl, _⟩
  · omega
  · exact ⟨g, cap, rfl⟩
theorem own_forms {w : World} {base n size : Nat} {e : TypeId} {v : Value} {xs : List Value} (h : w.ownsRow base e size v n xs) (hv : v ≠ .slice none 0 0) : ∃ g cap, v = .slice (some ⟨g, 0, none⟩) n cap := by
  rcases h.2 with ⟨h0, _⟩ | ⟨g, cap, _, rfl, _⟩
  · exact absurd h0 hv
  · exact ⟨g, cap, rfl⟩
theorem own_same {w w' : World} {base n size : Nat} {e : TypeId} {v : Value} {xs : List Value} (h : w.ownsRow base e size v n xs) (hk : ∀ g, v.ownBlock = some g → w'.heap[g]? = w.heap[g]?) : w'.ownsRow base e size v n xs := by
  refine ⟨h.1, ?_⟩
  rcases h.2 with h0 | ⟨g, cap, cur, hv, hb, hh, hr⟩
  · exact .inl h0
  · exact .inr ⟨g, cap, cur, hv, hb, (hk g (by rw [hv]; rfl)).trans hh, hr⟩
theorem own_keep {w w' : World} {base n size : Nat} {e : TypeId} {v : Value} {xs : List Value} (h : w.ownsRow base e size v n xs) (hb : Below w.heap.size w w') : w'.ownsRow base e size v n xs :=
  own_same h fun g hg => hb.block g (own_lt h hg).1
theorem own_alloc {w : World} {base n size : Nat} {e : TypeId} {v : Value} {xs : List Value} (h : w.ownsRow base e size v n xs) (o : Obj) : (w.alloc o).ownsRow base e size v n xs :=
  own_keep h (ext_alloc (Below.refl _ _) o)
theorem own_put {w : World} {base n size : Nat} {e : TypeId} {v : Value} {xs : List Value} (h : w.ownsRow base e size v n xs) {p : Addr} (hp : p.block < base) (u : Value) : (w.setCell p u).ownsRow base e size v n xs :=
  own_same h fun g hg => Below.heap_setCell w p u g (by have := own_lt h hg; omega)
theorem own_nil (w : World) (base size : Nat) (e : TypeId) : w.ownsRow base e size (.slice none 0 0) 0 [] := ⟨by simp, .inl ⟨rfl, rfl⟩⟩
/-- a block below the owned row's base is as it was behind an append -/
theorem Arr.app {w w' : World} {g : Nat} {t : TypeId} {cs : Array Value} {base n size : Nat} {e : TypeId} {v : Value} {xs : List Value} (h : Arr w g t cs) (ho : w.ownsRow base e size v n xs) (hg : w.grownBy w' v.ownBlock) (hb : g < base) : Arr w' g t cs :=
  (hg.block g h.lt (fun e => by have := own_lt ho e.symm; omega)).trans h
end Go.Proofs.YtkmpchffflemcaaGreatDoor
end

/- Kit6: A world that differs from another in some old blocks alone. No program in sight. -/
section
namespace Go.Proofs.YtkmpchffflemcaaGreatDoor
open Go.RowKit

/-- w' is w but for the blocks that S names, and new ones -/
structure Tch (S : Nat → Prop) (w w' : World) : Prop where
  os : w'.os = w.os
  tape : w'.tape = w.tape
  output : w'.output = w.output
  size : w.heap.size ≤ w'.heap.size
  block : ∀ k, k < w.heap.size → ¬ S k → w'.heap[k]? = w.heap[k]?
theorem Tch.refl (S : Nat → Prop) (w : World) : Tch S w w := ⟨rfl, rfl, rfl, Nat.le_refl _, fun _ _ _ => rfl⟩
theorem Tch.alloc {S : Nat → Prop} {a w : World} (h : Tch S a w) (o : Obj) : Tch S a (w.alloc o) :=
  ⟨h.os, h.tape, h.output, by have := h.size; simp; omega, fun k hk hS => (heap_alloc_old w o (Nat.lt_of_lt_of_le hk h.size)).trans (h.block k hk hS)⟩
theorem Tch.put {S : Nat → Prop} {a w : World} (h : Tch S a w) {p : Addr} (hp : S p.block ∨ a.heap.size ≤ p.block) (u : Value) : Tch S a (w.setCell p u) :=
  ⟨h.os, h.tape, h.output, by have := h.size; simp; omega, fun k hk hS => (Below.heap_setCell w p u k (fun e => by rcases hp with hp | hp; exact hS (e ▸ hp); omega)).trans (h.block k hk hS)⟩
theorem Tch.below {S : Nat → Prop} {a w w' : World} (h : Tch S a w) (hb : Below w.heap.size w w') : Tch S a w' :=
  ⟨hb.os.trans h.os, hb.tape.trans h.tape, hb.output.trans h.output, Nat.le_trans h.size hb.size, fun k hk hS => (hb.block k (Nat.lt_of_lt_of_le hk h.size)).trans (h.block k hk hS)⟩
theorem Tch.grown {S : Nat → Prop} {a w w' : World} {r : Option Nat} (h : Tch S a w) (hg : w.grownBy w' r) (hr : ∀ k, r = some k → S k ∨ a.heap.size ≤ k) : Tch S a w' :=
  ⟨hg.os.trans h.os, hg.tape.trans h.tape, hg.output.trans h.output, Nat.le_trans h.size hg.size, fun k hk hS => (hg.block k (Nat.lt_of_lt_of_le hk h.size) (fun e => by rcases hr k e.symm with h1 | h1; exact hS h1; omega)).trans (h.block k hk hS)⟩
theorem Tch.trans {S : Nat → Prop} {a b c : World} (h : Tch S a b) (k : Tch S b c) : Tch S a c :=
  ⟨k.os.trans h.os, k.tape.trans h.tape, k.output.trans h.output, Nat.le_trans h.size k.size, fun j hj hS => (k.block j (Nat.lt_of_lt_of_le hj h.size) hS).trans (h.block j hj hS)⟩
theorem Tch.mono {S T : Nat → Prop} {a b : World} (h : Tch S a b) (hST : ∀ k, k < a.heap.size → S k → T k) : Tch T a b :=
  ⟨h.os, h.tape, h.output, h.size, fun j hj hT => h.block j hj (fun hS => hT (hST j hj hS))⟩
theorem Tch.to_below {S : Nat → Prop} {a w w' : World} (hb : Below a.heap.size a w) (h : Tch S w w') (hS : ∀ k, S k → a.heap.size ≤ k) : Below a.heap.size a w' :=
  ⟨h.os.trans hb.os, h.tape.trans hb.tape, h.output.trans hb.output, Nat.le_trans hb.size h.size, fun k hk => (h.block k (Nat.lt_of_lt_of_le hk hb.size) (fun hs => by have := hS k hs; omega)).trans (hb.block k hk)⟩
theorem Tch.arr {S : Nat → Prop} {w w' : World} {g : Nat} {t : TypeId} {cs : Array Value} (h : Tch S w w') (ha : Arr w g t cs) (hg : ¬ S g) : Arr w' g t cs :=
  (h.block g ha.lt hg).trans ha
theorem Tch.own {S : Nat → Prop} {w w' : World} {base n size : Nat} {e : TypeId} {v : Value} {xs : List Value} (h : Tch S w w') (ho : w.ownsRow base e size v n xs) (hg : ∀ g, v.ownBlock = some g → ¬ S g) : w'.ownsRow base e size v n xs :=
  own_same ho fun g e => h.block g (own_lt ho e).1 (hg g e)

end Go.Proofs.YtkmpchffflemcaaGreatDoor
end

/- Kit7: Maps from integers to integers, told by a function. No program in sight. -/
section
namespace Go.Proofs.YtkmpchffflemcaaGreatDoor
open Go.RowKit Go.Maps

/-- block b is a map (keys k of the kind q, elements e) of n entries that holds what φ says -/
def MapAt (P : Program) (k e : TypeId) (q : IntKind) (w : World) (b n : Nat) (φ : Int → Option Int) : Prop :=
  ∃ D : DataW Unit, w.ownsMap P k (plainElem P e) b n D ∧ Maps.size D = n ∧ ∀ i, Maps.has D (.int q i) = (φ i).isSome ∧ D.atKey (.int q i) (.lit (.int .i64 0)) = .lit (.int .i64 ((φ i).getD 0))

def mput (φ : Int → Option Int) (i : Int) (v : Option Int) : Int → Option Int := fun j => if j = i then v else φ j
theorem mput_same (φ : Int → Option Int) (i : Int) (v : Option Int) : mput φ i v i = v := if_pos rfl
theorem mput_other (φ : Int → Option Int) {i j : Int} (v : Option Int) (h : j ≠ i) : mput φ i v j = φ j := if_neg h
theorem ownsMap_exact {H : Type} {P : Program} {k : TypeId} {R : Value → Option (DataW H × List MemPlace)} {w : World} {b n : Nat} {D : DataW H} (h : w.ownsMap P k R b n D) : w.ownsMap P k R b (Maps.size D) D := by
  obtain ⟨es, clock, hb, F, hs, rfl⟩ := h
  exact ⟨es, clock, hb, F, by simp [Maps.size, length_sorted], rfl⟩
theorem MapAt.made (P : Program) (k e : TypeId) (q : IntKind) (w : World) : MapAt P k e q (w.alloc (.map #[] 0)) w.heap.size 0 (fun _ => none) :=
  ⟨.map [], World.ownsMap_made w P k _, rfl, fun i => ⟨rfl, rfl⟩⟩
theorem MapAt.lt {P : Program} {k e : TypeId} {q : IntKind} {w : World} {b n : Nat} {φ : Int → Option Int} (h : MapAt P k e q w b n φ) : b < w.heap.size := by
  obtain ⟨D, ho, _⟩ := h; exact ho.lt
theorem MapAt.same {P : Program} {k e : TypeId} {q : IntKind} {w w' : World} {b n : Nat} {φ : Int → Option Int} (h : MapAt P k e q w b n φ) (hk : w'.heap[b]? = w.heap[b]?) : MapAt P k e q w' b n φ := by
  obtain ⟨D, ⟨es, clock, hb, r⟩, hs, hf⟩ := h
  exact ⟨D, ⟨es, clock, hk.trans hb, r⟩, hs, hf⟩
theorem MapAt.alloc {P : Program} {k e : TypeId} {q : IntKind} {w : World} {b n : Nat} {φ : Int → Option Int} (h : MapAt P k e q w b n φ) (o : Obj) : MapAt P k e q (w.alloc o) b n φ := h.same (heap_alloc_old w o h.lt)
theorem lit_ne {q : IntKind} {i j : Int} (h : j ≠ i) : Lit.int q j ≠ Lit.int q i := fun e => h (by injection e)
theorem MapAt.put {P : Program} {k e t : TypeId} {q : IntKind} {w : World} {b n : Nat} {φ : Int → Option Int} (h : MapAt P k e q w b n φ) (hk : P.underlying k = some (.int q)) (he : P.underlying e = some (.int .i64)) (ht : P.underlying t = some (.map k e)) (hn : n < maxLen) {i v : Int} (hi : (Lit.int q i).wf = true) (hv : (Lit.int .i64 v).wf = true) :
    ∃ w', (Instr.mapUpdate t (.map (some b)) (.int q i) (.int .i64 v)).run P w = .ok () w' ∧ MapAt P k e q w' b (if (φ i).isSome then n else n + 1) (mput φ i (some v)) ∧ w.grownBy w' (some b) := by
  obtain ⟨D, ho, hs, hf⟩ := h
  obtain ⟨w', hrun, h1, h2⟩ := ho.update (int_keyed hk) ht hn (keyOf_int_mk hk hi) (plainElem_int he hv)
  have hsz : Maps.size (D.put (.int q i) (.lit (.int .i64 v))) = if (φ i).isSome then n else n + 1 := by rw [Maps.size_put (ho.tidy (int_keyed hk)), (hf i).1, hs]
  refine ⟨w', hrun, ⟨_, hsz ▸ ownsMap_exact h1, hsz, fun j => ?_⟩, h2⟩
  by_cases e1 : j = i
  · subst e1
    rw [mput_same]
    exact ⟨Maps.has_put_same ho.isMap (k := .int q j) True.intro _, Maps.atKey_put_same ho.isMap (k := .int q j) True.intro _ _⟩
  · rw [mput_other _ _ e1, Maps.has_put_other (lit_ne e1), Maps.atKey_put_other (lit_ne e1)]
    exact hf j
theorem MapAt.look {P : Program} {k e t : TypeId} {q : IntKind} {w : World} {b n : Nat} {φ : Int → Option Int} (h : MapAt P k e q w b n φ) (hk : P.underlying k = some (.int q)) (he : P.underlying e = some (.int .i64)) (ht : P.underlying t = some (.map k e)) (hz : (zeroValue e).run P w = .ok (.int .i64 0) w) {i : Int} (hi : (Lit.int q i).wf = true) :
    (Instr.lookup t (.map (some b)) (.int q i) true).run P w = .ok (.tuple #[.int .i64 ((φ i).getD 0), .bool (φ i).isSome]) w := by
  obtain ⟨D, ho, hs, hf⟩ := h
  have hw0 : (Lit.int .i64 0).wf = true := by decide
  obtain ⟨v, ps, hrun, hv⟩ := ho.look_ok (int_keyed hk) ht hz (plainElem_int he hw0) (keyOf_int_mk hk hi)
  obtain ⟨c, rfl, hc, hwc⟩ := plainElem_int_inv he hv
  rw [hrun, (hf i).1]
  rw [(hf i).2] at hc
  simp only [Prod.mk.injEq] at hc
  have hc1 := hc.1
  injection hc1 with hc1
  injection hc1 with _ hc1
  rw [hc1]
theorem MapAt.drop {P : Program} {k e t : TypeId} {q : IntKind} {w : World} {b n : Nat} {φ : Int → Option Int} (h : MapAt P k e q w b n φ) (hk : P.underlying k = some (.int q)) (ht : P.underlying t = some (.map k e)) {i : Int} (hi : (Lit.int q i).wf = true) (ty : TypeId) :
    ∃ w', (Builtin.delete_ #[t, k] ty #[.map (some b), .int q i]).run P w = .ok (.tuple #[]) w' ∧ MapAt P k e q w' b (if (φ i).isSome then n - 1 else n) (mput φ i none) ∧ w.grownBy w' (some b) := by
  obtain ⟨D, ho, hs, hf⟩ := h
  obtain ⟨w', hrun, h1, h2⟩ := ho.drop (int_keyed hk) ht (keyOf_int_mk hk hi) ty
  have hsz : Maps.size (D.del (.int q i)) = if (φ i).isSome then n - 1 else n := by
    have := Maps.size_del (k := .int q i) (ho.tidy (int_keyed hk))
    rw [(hf i).1, hs] at this
    split at this <;> split <;> first | omega | (exfalso; simp_all)
  refine ⟨w', hrun, ⟨_, hsz ▸ ownsMap_exact h1, hsz, fun j => ?_⟩, h2.grown⟩
  by_cases e1 : j = i
  · subst e1
    rw [mput_same]
    exact ⟨Maps.has_del_same, Maps.atKey_del_same _⟩
  · rw [mput_other _ _ e1, Maps.has_del_other (lit_ne e1), Maps.atKey_del_other (lit_ne e1)]
    exact hf j

/-- 'm[i] = v' at the operation -/
theorem wpList_mapUpdate_at {P : Program} {w : World} {ops : Array Oper} {rest : List Oper} {o : Oper} {a : Act} {Q : Exit → Act → World → Prop}
    (hg : o.guard = none) (m x y : Operand) (t : TypeId) (hop : o.op = Op.mapUpdate t m x y) (k e : TypeId) (q : IntKind) (hk : P.underlying k = some (.int q)) (he : P.underlying e = some (.int .i64)) (ht : P.underlying t = some (.map k e))
    (b n : Nat) (φ : Int → Option Int) (hm : a.eval m = .map (some b)) (h : MapAt P k e q w b n φ) (hn : n < maxLen) (i v : Int) (hx : a.eval x = .int q i) (hy : a.eval y = .int .i64 v) (hi : (Lit.int q i).wf = true) (hv : (Lit.int .i64 v).wf = true)
    (hK : ∀ w', MapAt P k e q w' b (if (φ i).isSome then n else n + 1) (mput φ i (some v)) → w.grownBy w' (some b) → wpList P ops Q rest (a.put o.dst undef) w') :
    wpList P ops Q (o :: rest) a w := by
  refine wpList_plain hg fun K' hK' => ?_
  obtain ⟨w', hrun, r1, r2⟩ := h.put hk he ht hn hi hv
  unfold Oper.wp
  simp [execOp, hop, hm, hx, hy, hrun, Result.andThen]
  exact hK' _ _ (hK w' r1 r2)
end Go.Proofs.YtkmpchffflemcaaGreatDoor
end

/- Kit8: Rows whose elements are several cells each: an owned row told by a function from places to cells; load and store of an element. No program in sight. -/
section
namespace Go.Proofs.YtkmpchffflemcaaGreatDoor
open Go.RowKit

def flat (c : Nat → List Value) : Nat → List Value
  | 0 => []
  | n + 1 => flat c n ++ c n
theorem flat_length {c : Nat → List Value} {sz : Nat} (h : ∀ i, (c i).length = sz) : ∀ n, (flat c n).length = n * sz
  | 0 => by simp [flat]
  | n + 1 => by rw [flat, List.length_append, flat_length h n, h n, Nat.succ_mul]
theorem flat_get {c : Nat → List Value} {sz : Nat} (h : ∀ i, (c i).length = sz) : ∀ {n i j : Nat}, i < n → j < sz → (flat c n)[i * sz + j]? = (c i)[j]?
  | 0, _, _, hi, _ => by omega
  | n + 1, i, j, hi, hj => by
    rw [flat]
    rcases Nat.lt_or_ge i n with h1 | h1
    · have : i * sz + j < n * sz := by
        have := Nat.mul_le_mul_right sz (show i + 1 ≤ n from h1)
        rw [Nat.succ_mul] at this; omega
      rw [List.getElem?_append_left (by rw [flat_length h n]; exact this)]
      exact flat_get h h1 hj
    · obtain rfl : i = n := by omega
      rw [List.getElem?_append_right (by rw [flat_length h i]; omega), flat_length h i]
      congr 1; omega
theorem flat_congr {c d : Nat → List Value} : ∀ {n}, (∀ i, i < n → c i = d i) → flat c n = flat d n
  | 0, _ => rfl
  | n + 1, h => by rw [flat, flat, flat_congr (fun i hi => h i (by omega)), h n (by omega)]
def setL {α : Type} (c : Nat → α) (i : Nat) (x : α) : Nat → α := fun j => if j = i then x else c j
theorem setL_same {α : Type} (c : Nat → α) (i : Nat) (x : α) : setL c i x i = x := if_pos rfl
theorem setL_other {α : Type} (c : Nat → α) {i j : Nat} (x : α) (h : j ≠ i) : setL c i x j = c j := if_neg h
theorem flat_snoc (c : Nat → List Value) (n : Nat) (x : List Value) : flat (setL c n x) (n + 1) = flat c n ++ x := by
  rw [flat, setL_same, flat_congr (fun i hi => setL_other c x (by omega))]
/-- v is a row of n elements, the i-th of the cells c i; its block lies in S -/
structure RowIn (S : Nat → Prop) (w : World) (e : TypeId) (sz : Nat) (v : Value) (n : Nat) (c : Nat → List Value) : Prop where
  own : w.ownsRow 0 e sz v n (flat c n)
  block : ∀ g, v.ownBlock = some g → S g
theorem RowIn.same {S : Nat → Prop} {w w' : World} {e : TypeId} {sz n : Nat} {v : Value} {c : Nat → List Value} (h : RowIn S w e sz v n c) (hk : ∀ g, S g → g < w.heap.size → w'.heap[g]? = w.heap[g]?) : RowIn S w' e sz v n c :=
  ⟨own_same h.own fun g hg => hk g (h.block g hg) (own_lt h.own hg).1, h.block⟩
theorem RowIn.keep {S : Nat → Prop} {w w' : World} {e : TypeId} {sz n : Nat} {v : Value} {c : Nat → List Value} (h : RowIn S w e sz v n c) (hk : Below w.heap.size w w') : RowIn S w' e sz v n c :=
  h.same fun g _ hg => hk.block g hg
theorem RowIn.mono {S T : Nat → Prop} {w : World} {e : TypeId} {sz n : Nat} {v : Value} {c : Nat → List Value} (h : RowIn S w e sz v n c) (hST : ∀ g, S g → g < w.heap.size → T g) : RowIn T w e sz v n c :=
  ⟨h.own, fun g hg => hST g (h.block g hg) (own_lt h.own hg).1⟩
theorem RowIn.nil (S : Nat → Prop) (w : World) (e : TypeId) (sz : Nat) (c : Nat → List Value) : RowIn S w e sz (.slice none 0 0) 0 c :=
  ⟨own_nil w 0 sz e, fun g hg => by simp [Value.ownBlock] at hg⟩
/-- the form of a row that is not empty -/
theorem RowIn.form {S : Nat → Prop} {w : World} {e : TypeId} {sz n : Nat} {v : Value} {c : Nat → List Value} (h : RowIn S w e sz v n c) (hn : 0 < n) : ∃ g cap, v = .slice (some ⟨g, 0, none⟩) n cap ∧ S g ∧ n ≤ cap ∧ cap ≤ maxLen ∧ g < w.heap.size := by
  rcases h.own.2 with ⟨_, h0⟩ | ⟨g, cap, cur, hv, _, hh, h1, h2, _⟩
  · omega
  · subst hv
    exact ⟨g, cap, rfl, h.block g rfl, h1, h2, (Array.getElem?_eq_some_iff.1 hh).1⟩
theorem RowIn.any {S : Nat → Prop} {w : World} {e : TypeId} {sz n : Nat} {v : Value} {c : Nat → List Value} (h : RowIn S w e sz v n c) : ∃ A cap, v = .slice A n cap := by
  rcases h.own.2 with ⟨hv, h0⟩ | ⟨g, cap, cur, hv, _⟩
  · subst h0; exact ⟨_, _, hv⟩
  · exact ⟨_, _, hv⟩
theorem RowIn.range {S : Nat → Prop} {w : World} {e : TypeId} {sz n g cap : Nat} {c : Nat → List Value} (h : RowIn S w e sz (.slice (some ⟨g, 0, none⟩) n cap) n c) (hc : ∀ i, (c i).length = sz) {i : Nat} (hi : i < n) : w.rangeAt g (i * sz) (c i) := by
  rcases h.own.2 with ⟨hv, _⟩ | ⟨g', cap', cur, hv, _, hh, h1, h2, h3, h4⟩
  · cases hv
  · injection hv with e1 _ e2
    injection e1 with e1
    injection e1 with e1
    subst e1 e2
    intro j u hj
    have hjs : j < sz := by rw [← hc i]; exact (List.getElem?_eq_some_iff.1 hj).1
    have hlt : i * sz + j < n * sz := by
      have := Nat.mul_le_mul_right sz (show i + 1 ≤ n from hi)
      rw [Nat.succ_mul] at this; omega
    have hx : cur[i * sz + j]? = (c i)[j]? := by
      rw [← flat_get hc hi hjs, ← h4, List.getElem?_take, if_pos hlt, Array.getElem?_toList]
    simp only [World.cell?, hh]
    rw [← hj]; exact hx
theorem RowIn.there {S : Nat → Prop} {w : World} {e : TypeId} {sz n g cap : Nat} {c : Nat → List Value} (h : RowIn S w e sz (.slice (some ⟨g, 0, none⟩) n cap) n c) (hc : ∀ i, (c i).length = sz) {i : Nat} (hi : i < n) : w.there g (i * sz) sz := by
  intro j hj
  have hr := h.range hc hi
  have h5 := hr j _ (List.getElem?_eq_getElem (by rw [hc i]; exact hj))
  refine ⟨by rw [h5]; rfl, ?_⟩
  rcases h.own.2 with ⟨hv, _⟩ | ⟨g', cap', cur, hv, _, hh, _⟩
  · cases hv
  · injection hv with e1 _ e2
    injection e1 with e1
    injection e1 with e1
    subst e1
    simp [World.frozen?, hh]
/-- behind a store of a whole element -/
theorem RowIn.store {S : Nat → Prop} {w : World} {e : TypeId} {sz n g cap : Nat} {c : Nat → List Value} (h : RowIn S w e sz (.slice (some ⟨g, 0, none⟩) n cap) n c) (hc : ∀ i, (c i).length = sz) {i : Nat} (hi : i < n) {vs : List Value} (hv : vs.length = sz) :
    RowIn S (w.setCells g (i * sz) vs) e sz (.slice (some ⟨g, 0, none⟩) n cap) n (setL c i vs) := by
  refine ⟨?_, h.block⟩
  rcases h.own.2 with ⟨hv', _⟩ | ⟨g', cap', cur, hv', _, hh, h1, h2, h3, h4⟩
  · cases hv'
  · injection hv' with e1 _ e2
    injection e1 with e1
    injection e1 with e1
    subst e1 e2
    have hmul : (i + 1) * sz ≤ cap * sz := Nat.mul_le_mul_right sz (by omega)
    have hmul2 : (i + 1) * sz ≤ n * sz := Nat.mul_le_mul_right sz (by omega)
    have hmul3 : n * sz ≤ cap * sz := Nat.mul_le_mul_right sz h1
    rw [Nat.succ_mul] at hmul hmul2
    obtain ⟨cs', r1, r2, r3, r4⟩ := arr_setCells g e vs (i * sz) w cur hh (by omega)
    have hc' : ∀ j, (setL c i vs j).length = sz := fun j => by unfold setL; split; exact hv; exact hc j
    refine ⟨flat_length hc' n, .inr ⟨g, cap, cs', rfl, Nat.zero_le _, r1, h1, h2, by omega, ?_⟩⟩
    apply List.ext_getElem?
    intro k
    rcases Nat.lt_or_ge k (n * sz) with hk | hk
    · have hsz : 0 < sz := by rcases Nat.eq_zero_or_pos sz with h0 | h0; · subst h0; omega
                              · exact h0
      have hkd : k / sz < n := (Nat.div_lt_iff_lt_mul hsz).2 hk
      have hkm : k % sz < sz := Nat.mod_lt _ hsz
      have hke : k / sz * sz + k % sz = k := by rw [Nat.mul_comm]; exact Nat.div_add_mod k sz
      rw [List.getElem?_take, if_pos hk, Array.getElem?_toList, ← hke, flat_get hc' hkd hkm]
      obtain ⟨a, ha⟩ : ∃ a, k / sz = a := ⟨_, rfl⟩
      obtain ⟨b, hb⟩ : ∃ b, k % sz = b := ⟨_, rfl⟩
      rw [ha, hb] at hke ⊢
      rw [hb] at hkm; rw [ha] at hkd
      by_cases hai : a = i
      · subst hai
        rw [r3 b (by omega), setL_same]
      · have hout : a * sz + b < i * sz ∨ i * sz + vs.length ≤ a * sz + b := by
          rcases Nat.lt_or_ge a i with h5 | h5
          · have := Nat.mul_le_mul_right sz (show a + 1 ≤ i from h5)
            rw [Nat.succ_mul] at this; omega
          · have := Nat.mul_le_mul_right sz (show i + 1 ≤ a by omega)
            rw [Nat.succ_mul] at this; omega
        rw [r4 _ hout, setL_other c vs hai, ← flat_get hc hkd hkm, ← h4, List.getElem?_take, if_pos (by omega), Array.getElem?_toList]
    · rw [List.getElem?_take, if_neg (by omega), List.getElem?_eq_none (by rw [flat_length hc' n]; exact hk)]
/-- behind an append of one element -/
theorem RowIn.snoc {S : Nat → Prop} {w w' : World} {e : TypeId} {sz n : Nat} {v v' : Value} {c : Nat → List Value} {x : List Value} (h : RowIn S w e sz v n c) (ho : w'.ownsRow 0 e sz v' (n + 1) (flat c n ++ x)) (hl : v'.ownBlock = v.ownBlock ∨ v'.ownBlock = some w.heap.size) :
    RowIn (fun g => S g ∨ g = w.heap.size) w' e sz v' (n + 1) (setL c n x) :=
  ⟨by rw [flat_snoc]; exact ho, fun g hg => by
    rcases hl with hl | hl
    · exact .inl (h.block g (by rw [← hl]; exact hg))
    · rw [hg] at hl; injection hl with hl; exact .inr hl⟩

/-- an element is stored whole -/
theorem wpList_store_elem {P : Program} {ops : Array Oper} {rest : List Oper} {o : Oper} {a : Act} {w : World} {Q : Exit → Act → World → Prop} (hgd : o.guard = none) (ty : TypeId) (x y : Operand) (ho : o.op = .store ty x y)
    {S : Nat → Prop} {e : TypeId} {sz n g cap : Nat} {c : Nat → List Value} (h : RowIn S w e sz (.slice (some ⟨g, 0, none⟩) n cap) n c) (hc : ∀ i, (c i).length = sz) (i : Nat) (hi : i < n) (hx : a.eval x = .pointer (some ⟨g, i * sz, none⟩)) (vs : List Value) (hy : a.eval y = .agg vs.toArray)
    (hv : vs.length = sz) (h1 : ∀ u ∈ vs, u.oneCell' = true) (hsz : (P.info? ty).map (·.size) = some sz)
    (hK : ∀ w', RowIn S w' e sz (.slice (some ⟨g, 0, none⟩) n cap) n (setL c i vs) → w.grownBy w' (some g) → w'.heap.size = w.heap.size → wpList P ops Q rest (a.put o.dst undef) w') : wpList P ops Q (o :: rest) a w := by
  refine wpList_store_mid hgd ty x y ho g (i * sz) vs.toArray hx hy (by have := h.there hc hi; simpa [hv] using this) (by rw [hsz]; simp [hv]) (all_oneCell_toArray h1) ?_
  obtain ⟨h2, h3⟩ := only_setCells g vs (i * sz) w
  exact hK _ (h.store hc hi hv) h2 h3

end Go.Proofs.YtkmpchffflemcaaGreatDoor
end

/- Kit9: A drawn region in which something is stored into what the region has read: what is read ahead of the store is taken first, though operations of no account may come behind it. No program in sight. -/
section
namespace Go.Proofs.YtkmpchffflemcaaGreatDoor
open Go.RowKit

section
variable {P : Program} {ops : Array Oper} {md : Region.Mode} {Q : Exit → Act → World → Prop} {S : World → Prop} {t : Nat}
/-- whatever order; S holds as long as number t has not come up; behind it nothing is said of S -/
def AnyTill (P : Program) (md : Region.Mode) (ops : Array Oper) (Q : Exit → Act → World → Prop) (S : World → Prop) (t : Nat) : Nat → Array Bool → Act → World → Prop
  | 0, listed, a, w => Region.ready md ops listed = [] ∧ Q .normal a w
  | n + 1, listed, a, w => (Region.ready md ops listed = [] → Q .normal a w) ∧ ∀ i ∈ Region.ready md ops listed, wpOp P ops Q i (fun a' w' => if i = t then wpAny P md ops Q n (listed.setIfInBounds i true) a' w' else S w' ∧ AnyTill P md ops Q S t n (listed.setIfInBounds i true) a' w') a w
theorem AnyTill.any : ∀ (n : Nat) (listed : Array Bool) (a : Act) (w : World), AnyTill P md ops Q S t n listed a w → wpAny P md ops Q n listed a w
  | 0, _, _, _, h => h
  | n + 1, listed, a, w, h => ⟨h.1, fun i hi => wpOp_mono (fun a' w' h' => by
      split at h'
      · exact h'
      · exact AnyTill.any n _ a' w' h'.2) (h.2 i hi)⟩
theorem AnyTill.last {n : Nat} {listed : Array Bool} {a : Act} {w : World} (hr : Region.ready md ops listed = [t]) (h : wpAny P md ops Q (n + 1) listed a w) : AnyTill P md ops Q S t (n + 1) listed a w :=
  ⟨h.1, fun i hi => by
    have e : i = t := by rw [hr] at hi; simpa using hi
    subst e
    exact wpOp_mono (fun a' w' h' => by rw [if_pos rfl]; exact h') (h.2 i hi)⟩
theorem AnyTill.first {i : Nat} {oi ot : Oper} {v : Value} (hi : ops[i]? = some oi) (ht : ops[t]? = some ot) (hw : ∃ e ∈ ot.after, Region.binds md e = true ∧ e.on = i) (hit : i ≠ t)
    (hsel : ∀ (j : Nat) (o : Oper) cs b, ops[j]? = some o → o.op ≠ .select cs b) (hQ : ∀ c a w, Q (.panic c) (a.put oi.dst v) w → Q (.panic c) a w) :
    ∀ (n : Nat) (listed : Array Bool) (a : Act) (w : World),
      (∀ j oj, ops[j]? = some oj → j ≠ i → listed.getD j true = false → (∀ e ∈ oj.after, Region.binds md e = true → e.on ≠ i) → oi.apart ops oj = true) →
      i ∈ Region.ready md ops listed → YieldsIf P ops S oi v a → S w →
      AnyTill P md ops Q S t n (listed.setIfInBounds i true) (a.put oi.dst v) w → AnyTill P md ops Q S t (n + 1) listed a w := by
  intro n
  induction n with
  | zero =>
    intro listed a w _ hr hy hS H
    refine ⟨fun h => (by rw [h] at hr; cases hr), fun j hj => ?_⟩
    by_cases e : j = i
    · subst e; exact hy.wpOp hi hS (by rw [if_neg hit]; exact ⟨hS, H⟩)
    · have h0 := ready_mono hj e
      rw [H.1] at h0
      cases h0
  | succ n ih =>
    intro listed a w hfree hr hy hS H
    have hun : listed.getD i true = false := (mem_ready.1 hr).1
    have hun' : listed.getD i false = false := by
      rcases Nat.lt_or_ge i listed.size with h1 | h1
      · simp [h1] at hun ⊢; exact hun
      · simp [Array.getElem?_eq_none h1] at hun
    refine ⟨fun h => (by rw [h] at hr; cases hr), fun j hj => ?_⟩
    by_cases e : j = i
    · subst e; exact hy.wpOp hi hS (by rw [if_neg hit]; exact ⟨hS, H⟩)
    · obtain ⟨hju, oj, hoj, hall⟩ := mem_ready.1 hj
      have hjt : j ≠ t := fun ejt => by
        subst ejt
        obtain ⟨x, hx, hb, hx2⟩ := hw
        rw [ht] at hoj
        injection hoj with hoj
        subst hoj
        have := hall x hx hb
        rw [hx2, hun'] at this
        cases this
      have hno : ∀ x ∈ oj.after, Region.binds md x = true → x.on ≠ i := fun x hx hb ex => by
        have := hall x hx hb
        rw [ex, hun'] at this
        cases this
      have h1 := wpOp_mono (K' := fun a' w' => S w' ∧ AnyTill P md ops Q S t n ((listed.setIfInBounds i true).setIfInBounds j true) a' w') (fun a' w' h' => by rw [if_neg hjt] at h'; exact h') (H.2 j (ready_mono hj e))
      have h2 := wpOp_putIf hoj (hfree j oj hoj e hju hno) (fun cs b => hsel i oi cs b hi) (fun cs b => hsel j oj cs b hoj) hQ hy h1
      refine wpOp_mono (fun a' w' h3 => ?_) h2
      rw [if_neg hjt]
      refine ⟨h3.2.1, ih (listed.setIfInBounds j true) a' w' (fun k ok hk hki hku hkn => hfree k ok hk hki ?_ hkn) (ready_mono hr (Ne.symm e)) h3.1 h3.2.1 ?_⟩
      · by_cases hjk : j = k
        · subst hjk; exact hju
        · rw [getD_set_ne true hjk] at hku; exact hku
      · rw [Array.setIfInBounds_comm _ _ e]
        exact h3.2.2
theorem AnyTill.pure {i : Nat} {oi : Oper} {v : Value} (hi : ops[i]? = some oi) (hit : i ≠ t)
    (hsel : ∀ (j : Nat) (o : Oper) cs b, ops[j]? = some o → o.op ≠ .select cs b) (hQ : ∀ c a w, Q (.panic c) (a.put oi.dst v) w → Q (.panic c) a w) :
    ∀ (n : Nat) (listed : Array Bool) (a : Act) (w : World),
      (∀ j oj, ops[j]? = some oj → j ≠ i → listed.getD j true = false → (∀ e ∈ oj.after, Region.binds md e = true → e.on ≠ i) → oi.apart ops oj = true) →
      i ∈ Region.ready md ops listed → YieldsIf P ops (fun _ => True) oi v a → S w →
      AnyTill P md ops Q S t n (listed.setIfInBounds i true) (a.put oi.dst v) w → AnyTill P md ops Q S t (n + 1) listed a w := by
  intro n
  induction n with
  | zero =>
    intro listed a w _ hr hy hS H
    refine ⟨fun h => (by rw [h] at hr; cases hr), fun j hj => ?_⟩
    by_cases e : j = i
    · subst e; exact hy.wpOp hi trivial (by rw [if_neg hit]; exact ⟨hS, H⟩)
    · have h0 := ready_mono hj e
      rw [H.1] at h0
      cases h0
  | succ n ih =>
    intro listed a w hfree hr hy hS H
    have hun : listed.getD i true = false := (mem_ready.1 hr).1
    have hun' : listed.getD i false = false := by
      rcases Nat.lt_or_ge i listed.size with h1 | h1
      · simp [h1] at hun ⊢; exact hun
      · simp [Array.getElem?_eq_none h1] at hun
    refine ⟨fun h => (by rw [h] at hr; cases hr), fun j hj => ?_⟩
    by_cases e : j = i
    · subst e; exact hy.wpOp hi trivial (by rw [if_neg hit]; exact ⟨hS, H⟩)
    · obtain ⟨hju, oj, hoj, hall⟩ := mem_ready.1 hj
      have hno : ∀ x ∈ oj.after, Region.binds md x = true → x.on ≠ i := fun x hx hb ex => by
        have := hall x hx hb
        rw [ex, hun'] at this
        cases this
      have hfree' : ∀ k ok, ops[k]? = some ok → k ≠ i → (listed.setIfInBounds j true).getD k true = false → (∀ x ∈ ok.after, Region.binds md x = true → x.on ≠ i) → oi.apart ops ok = true := fun k ok hk hki hku hkn => by
        refine hfree k ok hk hki ?_ hkn
        by_cases hjk : j = k
        · subst hjk; exact hju
        · rw [getD_set_ne true hjk] at hku; exact hku
      have h2 := wpOp_putIf hoj (hfree j oj hoj e hju hno) (fun cs b => hsel i oi cs b hi) (fun cs b => hsel j oj cs b hoj) hQ hy (H.2 j (ready_mono hj e))
      by_cases hjt : j = t
      · refine wpOp_mono (fun a' w' h3 => ?_) h2
        rw [if_pos hjt] at h3 ⊢
        refine wpAny_first hi hsel hQ n (listed.setIfInBounds j true) a' w' hfree' (ready_mono hr (Ne.symm e)) (h3.1.imp (fun ⟨x, y⟩ => ⟨x, fun w => y w trivial⟩) id) ?_
        rw [Array.setIfInBounds_comm _ _ e]
        exact h3.2
      · refine wpOp_mono (fun a' w' h3 => ?_) h2
        rw [if_neg hjt] at h3 ⊢
        refine ⟨h3.2.1, ih (listed.setIfInBounds j true) a' w' hfree' (ready_mono hr (Ne.symm e)) h3.1 h3.2.1 ?_⟩
        rw [Array.setIfInBounds_comm _ _ e]
        exact h3.2.2
theorem till_pure {i : Nat} {oi : Oper} {d : Option Tmp} {v : Value} {n : Nat} {listed : Array Bool} {a : Act} {w : World} (hi : ops[i]? = some oi) (hit : decide (i = t) = false)
    (hs : Region.noSelect ops = true) (hf : Region.free md ops listed i = true) (hr : (Region.ready md ops listed).contains i = true) (hQ : ∀ c a w, Q (.panic c) (a.put d v) w → Q (.panic c) a w) (hd : oi.dst = d)
    (hwt : Region.wanted oi (yielded ops a.tmps) = true) (hy : ∀ w, (execOp a.eval oi).run P w = .ok (.value v) w) (hS : S w)
    (h : AnyTill P md ops Q S t n (listed.setIfInBounds i true) (a.put d v) w) : AnyTill P md ops Q S t (n + 1) listed a w := by
  subst hd
  exact AnyTill.pure hi (of_decide_eq_false hit) (Region.noSelect_spec hs) hQ n listed a w (Region.free_spec hi hf) (by simpa using hr) (.inl ⟨hwt, fun w _ => hy w⟩) hS h
theorem till_take {i : Nat} {oi : Oper} {d : Option Tmp} {v : Value} {n : Nat} {listed : Array Bool} {a : Act} {w : World} (hi : ops[i]? = some oi) (hw : Region.waitsFor md ops t i = true) (hit : decide (i = t) = false)
    (hs : Region.noSelect ops = true) (hf : Region.free md ops listed i = true) (hr : (Region.ready md ops listed).contains i = true) (hQ : ∀ c a w, Q (.panic c) (a.put d v) w → Q (.panic c) a w) (hd : oi.dst = d)
    (hwt : Region.wanted oi (yielded ops a.tmps) = true) (hy : ∀ w, S w → (execOp a.eval oi).run P w = .ok (.value v) w) (hS : S w)
    (h : AnyTill P md ops Q S t n (listed.setIfInBounds i true) (a.put d v) w) : AnyTill P md ops Q S t (n + 1) listed a w := by
  subst hd
  obtain ⟨ot, ht, e, he, hb, heq⟩ := Region.waitsFor_spec hw
  exact AnyTill.first hi ht ⟨e, he, hb, heq⟩ (of_decide_eq_false hit) (Region.noSelect_spec hs) hQ n listed a w (Region.free_spec hi hf) (by simpa using hr) (.inl ⟨hwt, hy⟩) hS h
theorem region_any_drew {id : Nat} {a : Act} {w : World} (hm : P.follows .mixedOrders = true) (h : wpAny P .any ops Q ops.size (Array.replicate ops.size false) a w.drew) : (Code.region id ops true).wp P Q a w := wp_region_any hm h
theorem any_drop {n : Nat} {listed : Array Bool} {a : Act} {w : World} (k : Nat) (hl : ops.size = k + n) (hB : Region.seqB md ops n k listed = true) (h : wpList P ops Q (ops.toList.drop k) a w) : wpAny P md ops Q n listed a w := by
  have hn : (ops.toList.drop k).length = n := by simp; omega
  have := wpAny_of_seq (P := P) (md := md) (Q' := Q) (ops := ops) (ops.toList.drop k) k listed a w (fun j => by simp [List.getElem?_drop]) (by rw [hn]; exact hB) h
  rwa [hn] at this
end

end Go.Proofs.YtkmpchffflemcaaGreatDoor
end

/- Kit10: One element appended to a row told by a function. No program in sight. -/
section
namespace Go.Proofs.YtkmpchffflemcaaGreatDoor
open Go.RowKit

theorem Tch.new {S : Nat → Prop} {w a b : World} (h : Tch S w a) (k : Tch (fun j => S j ∨ w.heap.size ≤ j) a b) : Tch S w b :=
  ⟨k.os.trans h.os, k.tape.trans h.tape, k.output.trans h.output, Nat.le_trans h.size k.size, fun j hj hS => (k.block j (Nat.lt_of_lt_of_le hj h.size) (fun e => by rcases e with e | e; exact hS e; omega)).trans (h.block j hj hS)⟩
theorem news_any (w : World) (xs : List Value) (t : TypeId) : ∀ j u, xs[j]? = some u → (w.alloc (.cells xs.toArray t)).cell? ((⟨w.heap.size, 0, none⟩ : Addr).add j) = some u := by
  intro j u hj
  rw [add_zero_off, (Arr.fresh w t xs.toArray).cell j]
  simpa using hj
theorem RowIn.ne_arr {S : Nat → Prop} {w : World} {e t : TypeId} {sz n p g : Nat} {v : Value} {c : Nat → List Value} {cs : Array Value} (h : RowIn S w e sz v n c) (hg : v.ownBlock = some g) (ha : Arr w p t cs) (ht : t ≠ e) : p ≠ g := by
  rintro rfl
  rcases h.own.2 with ⟨hv, _⟩ | ⟨g', cap', cur, hv, _, hh, _⟩
  · subst hv; simp [Value.ownBlock] at hg
  · subst hv
    have e1 : g' = p := by simpa [Value.ownBlock] using hg
    subst e1
    rw [Arr] at ha
    rw [ha] at hh
    injection hh with hh
    injection hh with _ h2
    exact ht h2
theorem RowIn.ne_map {P : Program} {k e : TypeId} {q : IntKind} {S : Nat → Prop} {w : World} {t : TypeId} {b m sz n g : Nat} {v : Value} {φ : Int → Option Int} {c : Nat → List Value} (h : RowIn S w t sz v n c) (hg : v.ownBlock = some g) (hm : MapAt P k e q w b m φ) : b ≠ g := by
  rintro rfl
  obtain ⟨D, ⟨es, clock, hb, _⟩, _⟩ := hm
  rcases h.own.2 with ⟨hv, _⟩ | ⟨g', cap', cur, hv, _, hh, _⟩
  · subst hv; simp [Value.ownBlock] at hg
  · subst hv
    have e1 : g' = b := by simpa [Value.ownBlock] using hg
    subst e1
    rw [hh] at hb
    injection hb with hb
    cases hb
theorem RowIn.put {S : Nat → Prop} {w : World} {e : TypeId} {sz n : Nat} {v : Value} {c : Nat → List Value} (h : RowIn S w e sz v n c) {q : Addr} (hq : ∀ g, v.ownBlock = some g → q.block ≠ g) (u : Value) : RowIn S (w.setCell q u) e sz v n c :=
  ⟨own_same h.own fun g hg => Below.heap_setCell w q u g (fun e => hq g hg e.symm), h.block⟩
/-- 'append(v, x)' at the operation -/
theorem wp_append_elem {P : Program} (w : World) {o : Oper} {a : Act} {K : Act → World → Prop} {Q : Exit → Act → World → Prop} (s x : Operand) (t : TypeId)
    (ho : o.op = .call { callee := .builtin .append, args := #[s, x], argTypes := #[t, t] })
    (e : TypeId) (i : TypeInfo) (z : Value) (size bytes : Nat) (ht : P.underlying t = some (.slice e)) (hi : P.info? e = some i) (hz : i.zero = some z)
    (hsize : i.size = size) (hby : i.bytes = bytes) (hzs : z.cells.size = size) (hsz : 0 < size)
    {S : Nat → Prop} (v : Value) (n : Nat) (c : Nat → List Value) (hs : a.eval s = v) (h : RowIn S w e size v n c)
    (ad : Addr) (cp : Nat) (xs : List Value) (hx : a.eval x = .slice (some ad) 1 cp) (hl : xs.length = size) (hnews : ∀ j u, xs[j]? = some u → w.cell? (ad.add j) = some u) (h1 : ∀ u ∈ xs, u.oneCell' = true)
    (h63 : n + 1 ≤ maxLen) (hbytes : (n + 1) * bytes ≤ 140737488355328)
    (hK : ∀ g cap w', RowIn (fun k => S k ∨ k = w.heap.size) w' e size (.slice (some ⟨g, 0, none⟩) (n + 1) cap) (n + 1) (setL c n xs) → w.grownBy w' v.ownBlock → K (a.put o.dst (.slice (some ⟨g, 0, none⟩) (n + 1) cap)) w') :
    Oper.wp P o a w K Q := by
  obtain ⟨v', w', hr, hown, hg, _, hloc⟩ := run_append_own_at (P := P) w 0 t o.type e i z size bytes ht hi hz hsize hby hzs hsz v n _ h.own ad 1 cp xs (by rw [hl, Nat.one_mul]) hnews h1 h63 hbytes (Nat.zero_le _)
  unfold Oper.wp execOp
  simp only [ho, resolve, invoke, builtin, Sem.run_bind, Sem.run_pure, Result.andThen_ok, List.map_toArray, List.map_cons, List.map_nil, hs, hx, hr]
  obtain ⟨g, cap, rfl⟩ := own_succ hown
  exact hK g cap w' (h.snoc hown hloc) hg
theorem wpList_append_elem {P : Program} (w : World) {ops : Array Oper} {rest : List Oper} {o : Oper} {a : Act} {Q : Exit → Act → World → Prop} (hgd : o.guard = none) (s x : Operand) (t : TypeId)
    (ho : o.op = .call { callee := .builtin .append, args := #[s, x], argTypes := #[t, t] })
    (e : TypeId) (i : TypeInfo) (z : Value) (size bytes : Nat) (ht : P.underlying t = some (.slice e)) (hi : P.info? e = some i) (hz : i.zero = some z)
    (hsize : i.size = size) (hby : i.bytes = bytes) (hzs : z.cells.size = size) (hsz : 0 < size)
    {S : Nat → Prop} (v : Value) (n : Nat) (c : Nat → List Value) (hs : a.eval s = v) (h : RowIn S w e size v n c)
    (ad : Addr) (cp : Nat) (xs : List Value) (hx : a.eval x = .slice (some ad) 1 cp) (hl : xs.length = size) (hnews : ∀ j u, xs[j]? = some u → w.cell? (ad.add j) = some u) (h1 : ∀ u ∈ xs, u.oneCell' = true)
    (h63 : n + 1 ≤ maxLen) (hbytes : (n + 1) * bytes ≤ 140737488355328)
    (hK : ∀ g cap w', RowIn (fun k => S k ∨ k = w.heap.size) w' e size (.slice (some ⟨g, 0, none⟩) (n + 1) cap) (n + 1) (setL c n xs) → w.grownBy w' v.ownBlock → wpList P ops Q rest (a.put o.dst (.slice (some ⟨g, 0, none⟩) (n + 1) cap)) w') :
    wpList P ops Q (o :: rest) a w :=
  wpList_plain hgd fun _ hKK => wp_append_elem w s x t ho e i z size bytes ht hi hz hsize hby hzs hsz v n c hs h ad cp xs hx hl hnews h1 h63 hbytes fun g cap w' a b => hKK _ _ (hK g cap w' a b)

section
variable {P : Program} {ops : Array Oper} {md : Region.Mode} {Q : Exit → Act → World → Prop} {S : World → Prop} {t : Nat}
/-- one operation, the only one that may come up, is carried out; S is shown anew behind it -/
theorem AnyTill.step {i n : Nat} {o : Oper} {listed : Array Bool} {a : Act} {w : World} (hr : Region.ready md ops listed = [i]) (hit : decide (i = t) = false) (ho : ops[i]? = some o)
    (h : ∀ K' : Act → World → Prop, Shut (∀ a w, S w → (S w → AnyTill P md ops Q S t n (listed.setIfInBounds i true) a w) → K' a w) → if Region.wanted o (yielded ops a.tmps) = true then Oper.wp P o a w K' Q else K' (a.put o.dst undef) w) : AnyTill P md ops Q S t (n + 1) listed a w := by
  refine ⟨fun h0 => (by rw [hr] at h0; cases h0), fun j hj => ?_⟩
  have e : j = i := by rw [hr] at hj; simpa using hj
  subst e
  refine wpOp_step ho fun K' hK => h K' fun a w hS hW => hK a w ?_
  rw [if_neg (of_decide_eq_false hit)]
  exact ⟨hS, hW hS⟩
end

end Go.Proofs.YtkmpchffflemcaaGreatDoor
end

/- Kit11: A made slice as a row told by a function; blocks of unlike types are unlike blocks. No program in sight. -/
section
namespace Go.Proofs.YtkmpchffflemcaaGreatDoor
open Go.RowKit

theorem arr_ne {w : World} {p q : Nat} {t t' : TypeId} {cs cs' : Array Value} (h : Arr w p t cs) (h' : Arr w q t' cs') (ht : t ≠ t') : p ≠ q := by
  rintro rfl
  rw [Arr] at h h'
  rw [h] at h'
  injection h' with h'
  injection h' with _ h2
  exact ht h2
theorem RowIn.arr {S : Nat → Prop} {w : World} {e : TypeId} {sz n g cap : Nat} {c : Nat → List Value} (h : RowIn S w e sz (.slice (some ⟨g, 0, none⟩) n cap) n c) : ∃ cs, Arr w g e cs := by
  rcases h.own.2 with ⟨hv, _⟩ | ⟨g', cap', cur, hv, _, hh, _⟩
  · cases hv
  · injection hv with e1
    injection e1 with e1
    injection e1 with e1
    subst e1
    exact ⟨cur, hh⟩
theorem RowIn.same1 {S : Nat → Prop} {w w' : World} {e : TypeId} {sz n g cap : Nat} {c : Nat → List Value} (h : RowIn S w e sz (.slice (some ⟨g, 0, none⟩) n cap) n c) (hk : w'.heap[g]? = w.heap[g]?) : RowIn S w' e sz (.slice (some ⟨g, 0, none⟩) n cap) n c :=
  ⟨own_same h.own fun q hq => by
    have e1 : g = q := by simpa [Value.ownBlock] using hq
    subst e1; exact hk, h.block⟩
theorem made_flat (z : Array Value) (hz : 0 < z.size) (n : Nat) : (madeCells z (n * z.size)).toList = flat (fun _ => z.toList) n := by
  apply List.ext_getElem?
  intro k
  rcases Nat.lt_or_ge k (n * z.size) with hk | hk
  · have h1 : k / z.size < n := (Nat.div_lt_iff_lt_mul hz).2 hk
    have h2 : k % z.size < z.size := Nat.mod_lt _ hz
    have h3 : k / z.size * z.size + k % z.size = k := by rw [Nat.mul_comm]; exact Nat.div_add_mod k z.size
    have h4 : (flat (fun _ => z.toList) n)[k]? = z.toList[k % z.size]? := by
      rw [← flat_get (c := fun _ => z.toList) (sz := z.size) (fun _ => by simp) h1 h2, h3]
    rw [h4]
    unfold madeCells
    rw [Array.getElem?_toList, Array.getElem?_map, Array.getElem?_range, if_pos hk, Array.getElem?_toList]
    simp [Array.getElem!_eq_getD, Array.getD, h2]
  · rw [List.getElem?_eq_none (by simp [size_madeCells]; exact hk), List.getElem?_eq_none (by rw [flat_length (sz := z.size) (fun _ => by simp)]; exact hk)]
/-- 'make([]T, n)' at the operation -/
theorem wp_make_rows {P : Program} (w : World) {o : Oper} {a : Act} {K : Act → World → Prop} {Q : Exit → Act → World → Prop} (l c : Operand) (t : TypeId) (hop : o.op = Op.makeSlice t l c)
    (e : TypeId) (i : TypeInfo) (z : Value) (size : Nat) (h1 : P.underlying t = some (.slice e)) (h2 : P.info? e = some i) (h3 : i.zero = some z) (h4 : i.size = size) (h5 : z.cells.size = size) (h6 : 0 < size)
    (n : Nat) (hl : a.eval l = .int .i64 (n : Int)) (hc : a.eval c = .int .i64 (n : Int)) (b2 : i.bytes * n ≤ 281474976710656) (b3 : n ≤ maxLen)
    (hK : ∀ w', RowIn (· = w.heap.size) w' e size (.slice (some ⟨w.heap.size, 0, none⟩) n n) n (fun _ => z.cells.toList) → w.grownBy w' none → K (a.put o.dst (.slice (some ⟨w.heap.size, 0, none⟩) n n)) w') :
    Oper.wp P o a w K Q := by
  obtain ⟨w', hrun, r1, r2⟩ := run_make_full (P := P) w 0 t e i z size h1 h2 h3 h4 .i64 .i64 n b2 b3 (Nat.zero_le _)
  unfold Oper.wp
  simp [execOp, hop, hl, hc, hrun, Result.andThen]
  refine hK w' ⟨?_, fun g hg => by simpa [Value.ownBlock] using hg.symm⟩ r2
  subst h5
  rw [← made_flat z.cells h6 n]
  exact r1

end Go.Proofs.YtkmpchffflemcaaGreatDoor
end

/- Kit12: A drawn region whose reads come ahead of a store: an operation that its guard does not want. No program in sight. -/
section
namespace Go.Proofs.YtkmpchffflemcaaGreatDoor
open Go.RowKit

end Go.Proofs.YtkmpchffflemcaaGreatDoor
end

/- Kit13: A range over a function whose iterator writes a cell that it has captured: the caller's law (after the library's law for a loop that is told of its own record), where what the caller holds abides such a write. No program in sight. -/
section
namespace Go.Proofs.YtkmpchffflemcaaGreatDoor
open Go.RowKit

variable {F : Fence} {n : Nat} {P : Program} {w : World}
end Go.Proofs.YtkmpchffflemcaaGreatDoor
end

/- Kit14: One element appended to a row told by a function, within a fence. No program in sight. -/
section
namespace Go.Proofs.YtkmpchffflemcaaGreatDoor
open Go.RowKit

theorem Arr.grownTo {w w' : World} {g : Nat} {t : TypeId} {cs : Array Value} {row : Option Nat} (h : Arr w g t cs) (hg : w.grownBy w' row) (hne : row ≠ some g) : Arr w' g t cs :=
  (hg.block g h.lt (fun e => hne e.symm)).trans h
theorem RowIn.cells {S : Nat → Prop} {w : World} {e : TypeId} {sz n j : Nat} {v : Value} {c : Nat → List Value} {o : Obj} (h : RowIn S w e sz v n c) (hj : v.ownBlock = some j) (ho : w.heap[j]? = some o) : o.isCells = true := by
  rcases h.own.2 with ⟨hv, _⟩ | ⟨g', cap', cur, hv, _, hh, _⟩
  · rw [hv] at hj; simp [Value.ownBlock] at hj
  · rw [hv] at hj
    have e1 : g' = j := by simpa [Value.ownBlock] using hj
    subst e1
    rw [hh] at ho
    cases ho; rfl

end Go.Proofs.YtkmpchffflemcaaGreatDoor
end
end

/- Drawn regions walked in one order by hand: the same laws, their side goals paid by themselves. No program in sight. -/
section
set_option linter.unusedVariables false
set_option linter.unusedSimpArgs false
namespace Go.Proofs.YtkmpchffflemcaaGreatDoor
open Go.RowKit

section
variable {P : Program} {ops : Array Oper} {Q : Exit → Act → World → Prop} {md : Region.Mode} {S : World → Prop} {fuel : Nat} {listed : Array Bool} {a : Act} {w : World} {oi : Oper} {v : Value}
theorem tky (i : Nat) (d : Option Tmp) (hS : S w)
    (h : wpAnyH P md ops Q S fuel (listed.setIfInBounds i true) (a.put d v) w)
    (hi : ops[i]? = some oi := by (simp only [List.getElem?_toArray, List.getElem?_cons_zero, List.getElem?_cons_succ]; exact rfl))
    (hs : Region.noSelect ops = true := by kernel_rfl) (hf : Region.free md ops listed i = true := by kernel_rfl) (hr : (Region.ready md ops listed).contains i = true := by kernel_rfl)
    (hQ : ∀ c a w, Q (.panic c) (a.put d v) w → Q (.panic c) a w := by exact (fun _ _ _ h => h)) (hd : oi.dst = d := by rfl) (hw : Region.wanted oi (yielded ops a.tmps) = true := by rfl)
    (hy : ∀ w, S w → (execOp a.eval oi).run P w = .ok (.value v) w := by (intro w hSw; (try dsimp only at hSw); (try (have hSa := hSw.1; have hSb := hSw.2; clear hSw)); (try (have hSc := hSb.1; have hSd := hSb.2; clear hSb)); (try (have hSe := hSd.1; have hSf := hSd.2; clear hSd)); (try (have hSg := hSf.1; have hSh := hSf.2; clear hSf)); go_simp; try with_reducible rfl)) :
    wpAnyH P md ops Q S (fuel + 1) listed a w := take_yes hi hs hf hr hQ hd hw hy hS h
theorem tkn (i : Nat) (d : Option Tmp) (hS : S w)
    (h : wpAnyH P md ops Q S fuel (listed.setIfInBounds i true) (a.put d undef) w)
    (hi : ops[i]? = some oi := by (simp only [List.getElem?_toArray, List.getElem?_cons_zero, List.getElem?_cons_succ]; exact rfl))
    (hs : Region.noSelect ops = true := by kernel_rfl) (hf : Region.free md ops listed i = true := by kernel_rfl) (hr : (Region.ready md ops listed).contains i = true := by kernel_rfl)
    (hQ : ∀ c a w, Q (.panic c) (a.put d undef) w → Q (.panic c) a w := by exact (fun _ _ _ h => h)) (hd : oi.dst = d := by rfl) (hw : Region.wanted oi (yielded ops a.tmps) = false := by rfl) :
    wpAnyH P md ops Q S (fuel + 1) listed a w := take_no hi hs hf hr hQ hd hw hS h
end

end Go.Proofs.YtkmpchffflemcaaGreatDoor
end

/- A range over a function that hands over nothing. No program in sight. -/
section
set_option linter.unusedVariables false
set_option linter.unusedSimpArgs false
namespace Go.Proofs.YtkmpchffflemcaaGreatDoor
open Go.RowKit

theorem _root_.Go.RowKit.Below.none {w W : World} (h : Below w.heap.size w W) : w.grownBy W none := ⟨h.os, h.tape, h.output, h.size, fun k hk _ => h.block k hk⟩
end Go.Proofs.YtkmpchffflemcaaGreatDoor
end
