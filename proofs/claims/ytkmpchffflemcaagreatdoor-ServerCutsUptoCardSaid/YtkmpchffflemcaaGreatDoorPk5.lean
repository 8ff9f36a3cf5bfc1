/- Packed: Kit20. -/
import Derived.Test.YtkmpchffflemcaaGreatDoorPk1
set_option linter.unusedVariables false
set_option linter.unusedSimpArgs false
/- A part of a block that is known whole: loaded, stored into. No program in sight. -/
section
set_option linter.unusedVariables false
set_option linter.unusedSimpArgs false
namespace Go.Proofs.YtkmpchffflemcaaGreatDoor
open Go.RowKit

/-- vs laid over cs from o on -/
def part (cs : Array Value) (o : Nat) (vs : List Value) : Array Value := (cs.toList.take o ++ vs ++ cs.toList.drop (o + vs.length)).toArray
theorem arr_part {g : Nat} {t : TypeId} {w : World} {cs : Array Value} (hg : Arr w g t cs) (o : Nat) (vs : List Value) (ho : o + vs.length ≤ cs.size) : Arr (w.setCells g o vs) g t (part cs o vs) := by
  obtain ⟨cs', h1, h2, h3, h4⟩ := arr_setCells g t vs o w cs hg ho
  have e : cs' = part cs o vs := by
    apply Array.ext_getElem?
    intro j
    refine Eq.trans (b := (cs.toList.take o ++ vs ++ cs.toList.drop (o + vs.length))[j]?) ?_ (by unfold part; simp only [List.getElem?_toArray])
    have hl : (cs.toList.take o).length = o := by rw [List.length_take, Array.length_toList]; omega
    rcases Nat.lt_or_ge j o with hj | hj
    · rw [h4 j (.inl hj), List.append_assoc, List.getElem?_append_left (by omega), List.getElem?_take_of_lt hj, Array.getElem?_toList]
    · rcases Nat.lt_or_ge j (o + vs.length) with hj2 | hj2
      · obtain ⟨k, rfl⟩ : ∃ k, j = o + k := ⟨j - o, by omega⟩
        rw [h3 k (by omega), List.append_assoc, List.getElem?_append_right (by omega), hl, Nat.add_sub_cancel_left, List.getElem?_append_left (by omega)]
      · rw [h4 j (.inr hj2), List.getElem?_append_right (by rw [List.length_append]; omega), List.length_append, hl, List.getElem?_drop, Array.getElem?_toList]
        congr 1
        omega
  rw [e] at h1; exact h1
theorem wpList_load_part {P : Program} {ops : Array Oper} {rest : List Oper} {o : Oper} {a : Act} {w : World} {Q : Exit → Act → World → Prop} (hgd : o.guard = none) (ty : TypeId) (x : Operand) (ho : o.op = .load ty x)
    (g k : Nat) (t : TypeId) (cs : Array Value) (vs : List Value) (hg : Arr w g t cs) (hx : a.eval x = .pointer (some ⟨g, k, none⟩)) (hv : ∀ j v, vs[j]? = some v → cs[k + j]? = some v) (d : TypeDesc)
    (hu : P.underlying ty = some d) (hd : d.isRow = true) (hi : (P.info? ty).map (·.size) = some vs.length)
    (h : wpList P ops Q rest (a.put o.dst (.agg vs.toArray)) w) : wpList P ops Q (o :: rest) a w :=
  wpList_load_mid hgd ty x ho g k hx vs d (fun j v hj => by rw [hg.cell]; exact hv j v hj) hu hd hi h

/-- a whole block is stored into, at an operation of a drawn region -/
theorem wp_store_blk {P : Program} {op : Oper} {a : Act} {w : World} {K : Act → World → Prop} {Q : Exit → Act → World → Prop} (ty : TypeId) (x y : Operand) (ho : op.op = .store ty x y)
    (g : Nat) (t : TypeId) (cs cells : Array Value) (hg : Arr w g t cs) (hx : a.eval x = .pointer (some ⟨g, 0, none⟩)) (hy : a.eval y = .agg cells) (hsz : cells.size = cs.size)
    (hi : (P.info? ty).map (·.size) = some cells.size) (h1 : cells.all (·.oneCell') = true)
    (h : ∀ w', Arr w' g t cells → w.grownBy w' (some g) → w'.heap.size = w.heap.size → K (a.put op.dst undef) w') : op.wp P a w K Q := by
  refine wp_store_mid ty x y ho g 0 cells hx hy (fun j hj => ?_) hi h1 ?_
  · rw [Nat.zero_add, hg.cell j, hg.mark j]
    rw [Array.getElem?_eq_getElem (by omega)]
    exact ⟨rfl, rfl⟩
  · obtain ⟨h2, h3⟩ := only_setCells g cells.toList 0 w
    obtain ⟨cs', h4, h5, h6, _⟩ := arr_setCells g t cells.toList 0 w cs hg (by simp; omega)
    refine h _ ?_ h2 h3
    have e : cs' = cells := by
      apply Array.ext_getElem?
      intro j
      rcases Nat.lt_or_ge j cells.size with hj | hj
      · have := h6 j (by simpa using hj)
        rw [Nat.zero_add] at this
        rw [this]; simp
      · rw [Array.getElem?_eq_none (by omega), Array.getElem?_eq_none hj]
    rw [e] at h4; exact h4

end Go.Proofs.YtkmpchffflemcaaGreatDoor
end
