/- More helpers of my own: a string turned to bytes, bytes turned back; cells behind a store. No program in sight. -/
import Derived.Test.YtablpncipkbfhaaDoorKit
import Derived.Laws.IdiomStrings
namespace Go.Proofs.YtablpncipkbfhaaDoor
open Go.RowKit

theorem add_zero_off (g j : Nat) : (⟨g, 0, none⟩ : Addr).add j = ⟨g, j, none⟩ := by
  unfold Addr.add; split
  · subst_vars; rfl
  · simp

/-- a row of one-cell values: the cells behind a store into it -/
theorem cell_put {w : World} {g i j m : Nat} {c : Nat → Value} (h : ∀ j, j < m → w.cell? ⟨g, j, none⟩ = some (c j)) (hi : i < m) (hj : j < m) (u : Value) :
    (w.setCell ⟨g, i, none⟩ u).cell? ⟨g, j, none⟩ = some (if j = i then u else c j) := by
  by_cases e : j = i
  · subst e; rw [if_pos rfl]; exact World.cell?_setCell_same _ _ _ (h j hj)
  · rw [if_neg e, World.cell?_setCell_other _ _ _ _ (by intro h; injection h with _ h; exact e h.symm)]; exact h j hj

/-- '[]byte(s)' at a step of the walk: the new row is known by its cells, the world goes on under a new name -/
theorem upon_bytes {P : Program} {o : Oper} {a : Act} {next : Act → World → Prop} {Q : Exit → Act → World → Prop} {w : World} {s : ByteArray} {src dst e : TypeId}
    (hs : P.underlying src = some .string) (hd : P.underlying dst = some (.slice e)) (he : P.underlying e = some (.int .u8))
    (h : ∀ (cap : Nat) (w3 : World), s.size ≤ cap → Below w.heap.size w w3 → w.heap.size < w3.heap.size → (∀ j, j < s.size → w3.cell? ⟨w.heap.size, j, none⟩ = some (.int .u8 ((s.data.toList.getD j 0).toNat : Nat))) →
      (∀ j, j < s.size → w3.frozen? ⟨w.heap.size, j, none⟩ = false) → next (a.put o.dst (.slice (some ⟨w.heap.size, 0, none⟩) s.size cap)) w3) :
    o.upon P a next Q (((convert src dst (.string s)).run P w).andThen fun v w' => .ok (.value v) w') := by
  rw [run_bytes_of_string w src dst e s hs hd he]
  have hcap : s.size ≤ grownCap w s.size 0 e := grownCap_ge w s.size 0 e
  have hrow : s.size ≤ (bytesRow s (grownCap w s.size 0 e)).size := by
    unfold bytesRow; rw [Array.size_append, Array.size_map]; exact Nat.le_add_right _ _
  refine h _ _ hcap (((Below.refl _ _).drew).alloc (Nat.le_refl _) _) (by rw [World.size_alloc]; exact Nat.lt_succ_self _) (fun j hj => ?_) (fun j hj => ?_)
  · have := World.cell?_alloc_mark w.drew (bytesRow s (grownCap w s.size 0 e)) e ((bytesRow s (grownCap w s.size 0 e)).size, (bytesRow s (grownCap w s.size 0 e)).size + 1) j
    refine this.trans ?_
    have hjl : j < s.data.size := hj
    unfold bytesRow
    rw [Array.getElem?_append_left (by simpa using hjl)]
    simp [List.getD_eq_getElem?_getD, Array.getElem?_eq_getElem hjl]
  · have := World.frozen?_alloc_mark w.drew (bytesRow s (grownCap w s.size 0 e)) e (bytesRow s (grownCap w s.size 0 e)).size ((bytesRow s (grownCap w s.size 0 e)).size + 1) j
    refine this.trans ?_
    rw [decide_eq_false (by omega), Bool.false_and]

end Go.Proofs.YtablpncipkbfhaaDoor
