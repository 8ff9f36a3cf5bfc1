/- More helpers of my own: whole arrays and structs loaded from and stored into a block that is known whole; behind a store the world goes on under a new name. No program in sight. -/
import Derived.Test.YtablpncipkbfhaaDoorKit2
import Derived.Deep.MidRow
import Derived.Laws.Rows
namespace Go.Proofs.YtablpncipkbfhaaDoor
open Go.RowKit

theorem Arr.grown {w w' : World} {g g' : Nat} {t : TypeId} {cs : Array Value} (h : Arr w g t cs) (hg : w.grownBy w' (some g')) (hne : g ≠ g') : Arr w' g t cs :=
  (hg.block g h.lt (by simpa using hne)).trans h
theorem ext_only {a w w' : World} {g : Nat} (h : Below a.heap.size a w) (hg : w.grownBy w' (some g)) (hb : a.heap.size ≤ g) : Below a.heap.size a w' :=
  h.grown hg h.size (fun k hk => by injection hk with hk; omega)
theorem only_setCells (g : Nat) : ∀ (vs : List Value) (o : Nat) (w : World), w.grownBy (w.setCells g o vs) (some g) ∧ (w.setCells g o vs).heap.size = w.heap.size
  | [], _, w => ⟨⟨rfl, rfl, rfl, Nat.le_refl _, fun _ _ _ => rfl⟩, rfl⟩
  | v :: r, o, w => by
    obtain ⟨h1, h2⟩ := only_setCells g r (o + 1) (w.setCell ⟨g, o, none⟩ v)
    have hs : (w.setCell ⟨g, o, none⟩ v).heap.size = w.heap.size := by simp [World.setCell]
    refine ⟨⟨h1.os.trans rfl, h1.tape.trans rfl, h1.output.trans rfl, by have := h1.size; show w.heap.size ≤ ((w.setCell ⟨g, o, none⟩ v).setCells g (o + 1) r).heap.size; omega, fun k hk hne => ?_⟩, h2.trans hs⟩
    have hkg : k ≠ g := fun e => hne (by rw [e])
    exact (h1.block k (by omega) hne).trans (Below.heap_setCell w ⟨g, o, none⟩ v k hkg)
theorem arr_setCells (g : Nat) (t : TypeId) : ∀ (vs : List Value) (o : Nat) (w : World) (cs : Array Value), Arr w g t cs → o + vs.length ≤ cs.size →
    ∃ cs', Arr (w.setCells g o vs) g t cs' ∧ cs'.size = cs.size ∧ (∀ j, j < vs.length → cs'[o + j]? = vs[j]?) ∧ (∀ j, j < o ∨ o + vs.length ≤ j → cs'[j]? = cs[j]?)
  | [], _, _, cs, h, _ => ⟨cs, h, rfl, fun j hj => absurd hj (by simp), fun _ _ => rfl⟩
  | v :: r, o, w, cs, h, hl => by
    have hl' : o + (r.length + 1) ≤ cs.size := by simpa using hl
    obtain ⟨cs', h1, h2, h3, h4⟩ := arr_setCells g t r (o + 1) (w.setCell ⟨g, o, none⟩ v) _ (h.put o v) (by rw [Array.size_setIfInBounds]; omega)
    rw [Array.size_setIfInBounds] at h2
    refine ⟨cs', h1, h2, fun j hj => ?_, fun j hj => ?_⟩
    · match j with
      | 0 =>
        have := h4 o (.inl (by omega))
        rw [Nat.add_zero, this, Array.getElem?_setIfInBounds, if_pos rfl, if_pos (by omega)]
        rfl
      | j + 1 =>
        have := h3 j (by simpa using hj)
        rw [show o + (j + 1) = o + 1 + j from by omega, this]
        rfl
    · have hj' : j < o ∨ o + (r.length + 1) ≤ j := by simpa using hj
      rw [h4 j (by omega), Array.getElem?_setIfInBounds, if_neg (by omega)]

/-- a whole block is loaded -/
theorem wpList_load_blk {P : Program} {ops : Array Oper} {rest : List Oper} {o : Oper} {a : Act} {w : World} {Q : Exit → Act → World → Prop} (hgd : o.guard = none) (ty : TypeId) (x : Operand) (ho : o.op = .load ty x)
    (g : Nat) (t : TypeId) (cs : Array Value) (hg : Arr w g t cs) (hx : a.eval x = .pointer (some ⟨g, 0, none⟩)) (d : TypeDesc)
    (hu : P.underlying ty = some d) (hd : (match d with | .struct _ | .array _ _ => true | _ => false) = true) (hi : (P.info? ty).map (·.size) = some cs.size)
    (h : wpList P ops Q rest (a.put o.dst (.agg cs)) w) : wpList P ops Q (o :: rest) a w :=
  wpList_load_row hgd ty x ho g hx t cs (0, 0) d hg hu hd hi h

/-- a whole block is stored into -/
theorem wpList_store_blk {P : Program} {ops : Array Oper} {rest : List Oper} {o : Oper} {a : Act} {w : World} {Q : Exit → Act → World → Prop} (hgd : o.guard = none) (ty : TypeId) (x y : Operand) (ho : o.op = .store ty x y)
    (g : Nat) (t : TypeId) (cs cells : Array Value) (hg : Arr w g t cs) (hx : a.eval x = .pointer (some ⟨g, 0, none⟩)) (hy : a.eval y = .agg cells) (hsz : cells.size = cs.size)
    (hi : (P.info? ty).map (·.size) = some cells.size) (h1 : cells.all (·.oneCell') = true)
    (h : ∀ w', Arr w' g t cells → w.grownBy w' (some g) → w'.heap.size = w.heap.size → wpList P ops Q rest (a.put o.dst undef) w') : wpList P ops Q (o :: rest) a w := by
  refine wpList_store_mid hgd ty x y ho g 0 cells hx hy (fun j hj => ?_) hi h1 ?_
  · rw [Nat.zero_add, hg.cell j, hg.mark j]
    rw [Array.getElem?_eq_getElem (by omega)]
    exact ⟨rfl, rfl⟩
  · obtain ⟨h2, h3⟩ := only_setCells g cells.toList 0 w
    obtain ⟨cs', h4, h5, h6, _⟩ := arr_setCells g t cells.toList 0 w cs hg (by simp; omega)
    refine h _ ?_ h2 h3
    have e : cs' = cells := by
      apply Array.ext_getElem?
      intro j
      rcases Nat.lt_or_ge j cells.size with hj | hj
      · have := h6 j (by simpa using hj)
        rw [Nat.zero_add] at this
        rw [this]; simp
      · rw [Array.getElem?_eq_none (by omega), Array.getElem?_eq_none hj]
    rw [e] at h4; exact h4

/-- what a whole block reads as -/
theorem run_load_blk {P : Program} {w : World} {g : Nat} {t : TypeId} {cs : Array Value} (ty : TypeId) (hg : Arr w g t cs) (d : TypeDesc)
    (hu : P.underlying ty = some d) (hd : (match d with | .struct _ | .array _ _ => true | _ => false) = true) (hi : (P.info? ty).map (·.size) = some cs.size) :
    (loadVar ty ⟨g, 0, none⟩).run P w = .ok (.agg cs) w := run_loadVar_row w g t ty cs (0, 0) d hg hu hd hi

/-- results: one in memory, one or two in slots -/
theorem results_cell_tmp {P : Program} {fn : Func} {p q : Tmp} {ty : TypeId} (h : fn.results = #[.cell p ty, .tmp q]) (tmps : Array Value) {w : World} {ad : Addr} {v : Value}
    (hp : tmps.getD p undef = .pointer (some ad)) (hl : (loadVar ty ad).run P w = .ok v w) : (results fn tmps).run P w = .ok (.tuple #[v, tmps.getD q undef]) w := by
  have hp' : tmps[p]?.getD undef = .pointer (some ad) := by simpa using hp
  simp [results, h, hp', asAddr, hl]
theorem results_cell {P : Program} {fn : Func} {p : Tmp} {ty : TypeId} (h : fn.results = #[.cell p ty]) (tmps : Array Value) {w : World} {ad : Addr} {v : Value}
    (hp : tmps.getD p undef = .pointer (some ad)) (hl : (loadVar ty ad).run P w = .ok v w) : (results fn tmps).run P w = .ok v w := by
  have hp' : tmps[p]?.getD undef = .pointer (some ad) := by simpa using hp
  simp [results, h, hp', asAddr, hl]

end Go.Proofs.YtablpncipkbfhaaDoor
