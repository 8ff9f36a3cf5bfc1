/- Small helpers of my own that the walks share: what a call's world may have turned ('Below w.heap.size w w''), composed without side conditions. No program in sight. -/
import Derived.WalkKit
import Derived.WalkSpells
import Derived.WalkLawsBesides
import Derived.Deep.QuietTactic
import Derived.BigQuiet
import Derived.Deep.RegionHeld3
import Derived.Deep.DrawnRows
import Derived.Deep.AppendLies
import Derived.Outline
import Derived.Lib.Hide
namespace Go.Proofs.YtablpncipkbfhaaDoor
open Go.RowKit

theorem ret_int {k : IntKind} {a b : Int} (h : a = b) : Ending.returned (.int k a) = .returned (.int k b) := by rw [h]
theorem ret_bool {a b : Bool} (h : a = b) : Ending.returned (.bool a) = .returned (.bool b) := by rw [h]
theorem ret_val {a b : Value} (h : a = b) : Ending.returned a = .returned b := by rw [h]

/-- all old cells and old marks read as before -/
theorem bcell {W w1 : World} (hb : Below W.heap.size W w1) : (∀ b o, b < W.heap.size → w1.cell? ⟨b, o, none⟩ = W.cell? ⟨b, o, none⟩) ∧ (∀ b o, b < W.heap.size → w1.frozen? ⟨b, o, none⟩ = W.frozen? ⟨b, o, none⟩) :=
  ⟨fun b o h => hb.cell (p := ⟨b, o, none⟩) h, fun b o h => hb.frozen (p := ⟨b, o, none⟩) h⟩

theorem ext_trans {a b c : World} (h : Below a.heap.size a b) (k : Below b.heap.size b c) : Below a.heap.size a c := h.trans (k.mono h.size)
theorem ext_alloc {a w : World} (h : Below a.heap.size a w) (o : Obj) : Below a.heap.size a (w.alloc o) := h.alloc h.size o
theorem ext_drew {a w : World} (h : Below a.heap.size a w) : Below a.heap.size a w.drew := h.drew
theorem ext_drewN {a w : World} (h : Below a.heap.size a w) (n : Nat) : Below a.heap.size a (w.drewN n) := ⟨h.os, h.tape, h.output, h.size, h.block⟩
theorem ext_setCell {a w : World} (h : Below a.heap.size a w) {p : Addr} (hp : a.heap.size ≤ p.block) (u : Value) : Below a.heap.size a (w.setCell p u) := h.setCell hp u

/-- block g holds just the cells cs (element type t), none of them frozen -/
def Arr (w : World) (g : Nat) (t : TypeId) (cs : Array Value) : Prop := w.heap[g]? = some (.cells cs t (0, 0))
theorem Arr.lt {w : World} {g : Nat} {t : TypeId} {cs : Array Value} (h : Arr w g t cs) : g < w.heap.size := by
  rcases Nat.lt_or_ge g w.heap.size with h1 | h1
  · exact h1
  · rw [Arr, Array.getElem?_eq_none h1] at h; cases h
theorem Arr.cell {w : World} {g : Nat} {t : TypeId} {cs : Array Value} (h : Arr w g t cs) (i : Nat) : w.cell? ⟨g, i, none⟩ = cs[i]? := by
  rw [Arr] at h; simp [World.cell?, h]
theorem Arr.mark {w : World} {g : Nat} {t : TypeId} {cs : Array Value} (h : Arr w g t cs) (i : Nat) : w.frozen? ⟨g, i, none⟩ = false := by
  rw [Arr] at h; simp [World.frozen?, h]
theorem Arr.fresh (w : World) (t : TypeId) (cs : Array Value) : Arr (w.alloc (.cells cs t)) w.heap.size t cs := by
  exact heap_alloc_new w _
theorem Arr.new {w : World} {g : Nat} {t : TypeId} {cs : Array Value} (h : g = w.heap.size) : Arr (w.alloc (.cells cs t)) g t cs := by
  subst h; exact Arr.fresh w t cs
theorem Arr.drew {w : World} {g : Nat} {t : TypeId} {cs : Array Value} (h : Arr w g t cs) : Arr w.drew g t cs := h
theorem Arr.drewN {w : World} {g : Nat} {t : TypeId} {cs : Array Value} (h : Arr w g t cs) (n : Nat) : Arr (w.drewN n) g t cs := h
theorem Arr.alloc {w : World} {g : Nat} {t : TypeId} {cs : Array Value} (h : Arr w g t cs) (o : Obj) : Arr (w.alloc o) g t cs :=
  (Below.heap_alloc w o g h.lt).trans h
theorem Arr.put {w : World} {g : Nat} {t : TypeId} {cs : Array Value} (h : Arr w g t cs) (i : Nat) (u : Value) : Arr (w.setCell ⟨g, i, none⟩ u) g t (cs.setIfInBounds i u) := by
  rw [Arr] at h; simp [Arr, World.setCell, Array.getElem?_modify, h]
theorem Arr.other {w : World} {g : Nat} {t : TypeId} {cs : Array Value} (h : Arr w g t cs) {p : Addr} (hp : g ≠ p.block) (u : Value) : Arr (w.setCell p u) g t cs :=
  (Below.heap_setCell w p u g hp).trans h
theorem Arr.keep {w w' : World} {g : Nat} {t : TypeId} {cs : Array Value} (h : Arr w g t cs) (hb : Below w.heap.size w w') : Arr w' g t cs :=
  (hb.block g h.lt).trans h

/-- an owned row lies at or above its base -/
theorem own_base {w : World} {base : Nat} {e : TypeId} {size n : Nat} {v : Value} {xs : List Value} (h : w.ownsRow base e size v n xs) : ∀ k, v.ownBlock = some k → base ≤ k := by
  intro k hk
  rcases h.2 with ⟨rfl, _⟩ | ⟨g, cap, cur, rfl, hb, _⟩
  · simp [Value.ownBlock] at hk
  · simp [Value.ownBlock] at hk; omega
theorem ext_append {a w w' : World} {e : TypeId} {size n : Nat} {v : Value} {xs : List Value} (h : Below a.heap.size a w) (ho : w.ownsRow a.heap.size e size v n xs) (hg : w.grownBy w' v.ownBlock) : Below a.heap.size a w' :=
  h.grown hg h.size (own_base ho)

end Go.Proofs.YtablpncipkbfhaaDoor
