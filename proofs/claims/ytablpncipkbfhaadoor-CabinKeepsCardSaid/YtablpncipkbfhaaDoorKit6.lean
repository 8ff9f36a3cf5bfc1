/- A world that differs from another in some old blocks alone. No program in sight. -/
import Derived.Test.YtablpncipkbfhaaDoorKit5
namespace Go.Proofs.YtablpncipkbfhaaDoor
open Go.RowKit

/-- w' is w but for the blocks that S names, and new ones -/
structure Tch (S : Nat → Prop) (w w' : World) : Prop where
  os : w'.os = w.os
  tape : w'.tape = w.tape
  output : w'.output = w.output
  size : w.heap.size ≤ w'.heap.size
  block : ∀ k, k < w.heap.size → ¬ S k → w'.heap[k]? = w.heap[k]?
theorem Tch.refl (S : Nat → Prop) (w : World) : Tch S w w := ⟨rfl, rfl, rfl, Nat.le_refl _, fun _ _ _ => rfl⟩
theorem Tch.alloc {S : Nat → Prop} {a w : World} (h : Tch S a w) (o : Obj) : Tch S a (w.alloc o) :=
  ⟨h.os, h.tape, h.output, by have := h.size; simp; omega, fun k hk hS => (heap_alloc_old w o (Nat.lt_of_lt_of_le hk h.size)).trans (h.block k hk hS)⟩
theorem Tch.put {S : Nat → Prop} {a w : World} (h : Tch S a w) {p : Addr} (hp : S p.block ∨ a.heap.size ≤ p.block) (u : Value) : Tch S a (w.setCell p u) :=
  ⟨h.os, h.tape, h.output, by have := h.size; simp; omega, fun k hk hS => (Below.heap_setCell w p u k (fun e => by rcases hp with hp | hp; exact hS (e ▸ hp); omega)).trans (h.block k hk hS)⟩
theorem Tch.below {S : Nat → Prop} {a w w' : World} (h : Tch S a w) (hb : Below w.heap.size w w') : Tch S a w' :=
  ⟨hb.os.trans h.os, hb.tape.trans h.tape, hb.output.trans h.output, Nat.le_trans h.size hb.size, fun k hk hS => (hb.block k (Nat.lt_of_lt_of_le hk h.size)).trans (h.block k hk hS)⟩
theorem Tch.grown {S : Nat → Prop} {a w w' : World} {r : Option Nat} (h : Tch S a w) (hg : w.grownBy w' r) (hr : ∀ k, r = some k → S k ∨ a.heap.size ≤ k) : Tch S a w' :=
  ⟨hg.os.trans h.os, hg.tape.trans h.tape, hg.output.trans h.output, Nat.le_trans h.size hg.size, fun k hk hS => (hg.block k (Nat.lt_of_lt_of_le hk h.size) (fun e => by rcases hr k e.symm with h1 | h1; exact hS h1; omega)).trans (h.block k hk hS)⟩
theorem Tch.trans {S : Nat → Prop} {a b c : World} (h : Tch S a b) (k : Tch S b c) : Tch S a c :=
  ⟨k.os.trans h.os, k.tape.trans h.tape, k.output.trans h.output, Nat.le_trans h.size k.size, fun j hj hS => (k.block j (Nat.lt_of_lt_of_le hj h.size) hS).trans (h.block j hj hS)⟩
theorem Tch.mono {S T : Nat → Prop} {a b : World} (h : Tch S a b) (hST : ∀ k, k < a.heap.size → S k → T k) : Tch T a b :=
  ⟨h.os, h.tape, h.output, h.size, fun j hj hT => h.block j hj (fun hS => hT (hST j hj hS))⟩
theorem Tch.to_below {S : Nat → Prop} {a w w' : World} (hb : Below a.heap.size a w) (h : Tch S w w') (hS : ∀ k, S k → a.heap.size ≤ k) : Below a.heap.size a w' :=
  ⟨h.os.trans hb.os, h.tape.trans hb.tape, h.output.trans hb.output, Nat.le_trans hb.size h.size, fun k hk => (h.block k (Nat.lt_of_lt_of_le hk hb.size) (fun hs => by have := hS k hs; omega)).trans (hb.block k hk)⟩
theorem Tch.arr {S : Nat → Prop} {w w' : World} {g : Nat} {t : TypeId} {cs : Array Value} (h : Tch S w w') (ha : Arr w g t cs) (hg : ¬ S g) : Arr w' g t cs :=
  (h.block g ha.lt hg).trans ha
theorem Tch.own {S : Nat → Prop} {w w' : World} {base n size : Nat} {e : TypeId} {v : Value} {xs : List Value} (h : Tch S w w') (ho : w.ownsRow base e size v n xs) (hg : ∀ g, v.ownBlock = some g → ¬ S g) : w'.ownsRow base e size v n xs :=
  own_same ho fun g e => h.block g (own_lt ho e).1 (hg g e)

end Go.Proofs.YtablpncipkbfhaaDoor
