/- Packed: Kit15, OctPlain, Kit16. -/
import Derived.Test.YtkmpchffflemcaaGreatDoorPk1
import Derived.Maps.OwnSet
import Derived.Maps.OwnOps
import Derived.Laws.Bits64b
import Derived.IntWalk
import Derived.Laws.CopyRow
import Derived.Laws.CopyOwn
set_option linter.unusedVariables false
set_option linter.unusedSimpArgs false
/- Maps from integers to values of any kind, told by a function; clear. No program in sight. -/
section
set_option linter.unusedVariables false
set_option linter.unusedSimpArgs false
namespace Go.Proofs.YtkmpchffflemcaaGreatDoor
open Go.RowKit Go.Maps

/-- any value reads as itself -/
def anyR (v : Value) : Option (DataW Value × List MemPlace) := some (.held v, [])
/-- block b is a map (keys of the kind q) of n entries that holds what φ says -/
def MapV (P : Program) (k : TypeId) (q : IntKind) (w : World) (b n : Nat) (φ : Int → Option Value) : Prop :=
  ∃ D : DataW Value, w.ownsMap P k anyR b n D ∧ Maps.size D = n ∧ ∀ i (z : Value), Maps.has D (.int q i) = (φ i).isSome ∧ D.atKey (.int q i) (.held z) = .held ((φ i).getD z)
def vput (φ : Int → Option Value) (i : Int) (v : Option Value) : Int → Option Value := fun j => if j = i then v else φ j
theorem vput_same (φ : Int → Option Value) (i : Int) (v : Option Value) : vput φ i v i = v := if_pos rfl
theorem vput_other (φ : Int → Option Value) {i j : Int} (v : Option Value) (h : j ≠ i) : vput φ i v j = φ j := if_neg h
theorem ownsMap_exactV {P : Program} {k : TypeId} {R : Value → Option (DataW Value × List MemPlace)} {w : World} {b n : Nat} {D : DataW Value} (h : w.ownsMap P k R b n D) : w.ownsMap P k R b (Maps.size D) D := by
  obtain ⟨es, clock, hb, F, hs, rfl⟩ := h
  exact ⟨es, clock, hb, F, by simp [Maps.size, length_sorted], rfl⟩
theorem MapV.made (P : Program) (k : TypeId) (q : IntKind) (w : World) : MapV P k q (w.alloc (.map #[] 0)) w.heap.size 0 (fun _ => none) :=
  ⟨.map [], World.ownsMap_made w P k _, rfl, fun i z => ⟨rfl, rfl⟩⟩
theorem MapV.lt {P : Program} {k : TypeId} {q : IntKind} {w : World} {b n : Nat} {φ : Int → Option Value} (h : MapV P k q w b n φ) : b < w.heap.size := by
  obtain ⟨D, ho, _⟩ := h; exact ho.lt
theorem MapV.same {P : Program} {k : TypeId} {q : IntKind} {w w' : World} {b n : Nat} {φ : Int → Option Value} (h : MapV P k q w b n φ) (hk : w'.heap[b]? = w.heap[b]?) : MapV P k q w' b n φ := by
  obtain ⟨D, ⟨es, clock, hb, r⟩, hs, hf⟩ := h
  exact ⟨D, ⟨es, clock, hk.trans hb, r⟩, hs, hf⟩
theorem MapV.keep {P : Program} {k : TypeId} {q : IntKind} {w w' : World} {b n : Nat} {φ : Int → Option Value} (h : MapV P k q w b n φ) (hb : Below w.heap.size w w') : MapV P k q w' b n φ := h.same (hb.block b h.lt)
theorem litV_ne {q : IntKind} {i j : Int} (h : j ≠ i) : Lit.int q j ≠ Lit.int q i := fun e => h (by injection e)
theorem MapV.put {P : Program} {k e t : TypeId} {q : IntKind} {w : World} {b n : Nat} {φ : Int → Option Value} (h : MapV P k q w b n φ) (hk : P.underlying k = some (.int q)) (ht : P.underlying t = some (.map k e)) (hn : n < maxLen) {i : Int} {v : Value} (hi : (Lit.int q i).wf = true) :
    ∃ w', (Instr.mapUpdate t (.map (some b)) (.int q i) v).run P w = .ok () w' ∧ MapV P k q w' b (if (φ i).isSome then n else n + 1) (vput φ i (some v)) ∧ w.grownBy w' (some b) := by
  obtain ⟨D, ho, hs, hf⟩ := h
  obtain ⟨w', hrun, h1, h2⟩ := ho.update (int_keyed hk) ht hn (keyOf_int_mk hk hi) (show anyR v = some (.held v, []) from rfl)
  have hsz : Maps.size (D.put (.int q i) (.held v)) = if (φ i).isSome then n else n + 1 := by rw [Maps.size_put (ho.tidy (int_keyed hk)), (hf i v).1, hs]
  refine ⟨w', hrun, ⟨_, hsz ▸ ownsMap_exactV h1, hsz, fun j z => ?_⟩, h2⟩
  by_cases e1 : j = i
  · subst e1
    rw [vput_same]
    exact ⟨Maps.has_put_same ho.isMap (k := .int q j) True.intro _, Maps.atKey_put_same ho.isMap (k := .int q j) True.intro _ _⟩
  · rw [vput_other _ _ e1, Maps.has_put_other (litV_ne e1), Maps.atKey_put_other (litV_ne e1)]
    exact hf j z
theorem MapV.look {P : Program} {k e t : TypeId} {q : IntKind} {w : World} {b n : Nat} {φ : Int → Option Value} (h : MapV P k q w b n φ) (hk : P.underlying k = some (.int q)) (ht : P.underlying t = some (.map k e)) {z : Value} (hz : (zeroValue e).run P w = .ok z w) {i : Int} (hi : (Lit.int q i).wf = true) :
    (Instr.lookup t (.map (some b)) (.int q i) true).run P w = .ok (.tuple #[(φ i).getD z, .bool (φ i).isSome]) w := by
  obtain ⟨D, ho, hs, hf⟩ := h
  obtain ⟨v, ps, hrun, hv⟩ := ho.look_ok (int_keyed hk) ht hz (show anyR z = some (.held z, []) from rfl) (keyOf_int_mk hk hi)
  rw [hrun, (hf i z).1]
  rw [(hf i z).2] at hv
  unfold anyR at hv
  simp only [Option.some.injEq, Prod.mk.injEq, DataW.held.injEq] at hv
  rw [hv.1]
/-- 'm[i]' without ok -/
theorem MapV.look1 {P : Program} {k e t : TypeId} {q : IntKind} {w : World} {b n : Nat} {φ : Int → Option Value} (h : MapV P k q w b n φ) (hk : P.underlying k = some (.int q)) (ht : P.underlying t = some (.map k e)) {z : Value} (hz : (zeroValue e).run P w = .ok z w) {i : Int} (hi : (Lit.int q i).wf = true) :
    (Instr.lookup t (.map (some b)) (.int q i) false).run P w = .ok ((φ i).getD z) w := by
  obtain ⟨D, ho, hs, hf⟩ := h
  obtain ⟨v, ps, hrun, hv⟩ := ho.lookup (int_keyed hk) ht hz (show anyR z = some (.held z, []) from rfl) (keyOf_int_mk hk hi)
  rw [hrun]
  rw [(hf i z).2] at hv
  unfold anyR at hv
  simp only [Option.some.injEq, Prod.mk.injEq, DataW.held.injEq] at hv
  rw [hv.1]
/-- 'clear(m)' -/
theorem MapV.clear {P : Program} {k e t : TypeId} {q : IntKind} {w : World} {b n : Nat} {φ : Int → Option Value} (h : MapV P k q w b n φ) (ht : P.underlying t = some (.map k e)) (ty : TypeId) :
    ∃ w', (Builtin.clear_ #[t] ty #[.map (some b)]).run P w = .ok (.tuple #[]) w' ∧ MapV P k q w' b 0 (fun _ => none) ∧ w.grownBy w' (some b) := by
  obtain ⟨D, ⟨es, clock, hb, F, hs, rfl⟩, _⟩ := h
  refine ⟨Go.ChangeMaps.setBlock w b (.map #[] clock), ?_, ⟨.map [], ⟨#[], clock, Go.ChangeMaps.heap_setBlock_same hb _, ⟨by simp, Go.MapKept.stamped_empty clock, by simp⟩, Nat.le_refl _, rfl⟩, rfl, fun i z => ⟨rfl, rfl⟩⟩, ?_⟩
  · simp [Builtin.clear_, run_underlying ht, Go.MapKept.run_getObj_map hb, Go.MapKept.run_setObj_map _ hb, Result.andThen, Go.ChangeMaps.setBlock]
  · exact World.mapTurned.grown ⟨es, clock, #[], clock, hb, rfl⟩
end Go.Proofs.YtkmpchffflemcaaGreatDoor
end

/- Numbers as bytes, plainly. No program in sight. -/
section
set_option linter.unusedVariables false
set_option linter.unusedSimpArgs false
namespace Go.Proofs.YtkmpchffflemcaaGreatDoor.Oc
open Go.RowKit

/-- the lowest so many bytes of a number -/
def le (n : Nat) : Nat → List UInt8
  | 0 => []
  | k + 1 => le n k ++ [UInt8.ofNat (n / 256 ^ k)]
/-- what bytes say -/
def val : List UInt8 → Nat
  | [] => 0
  | b :: r => b.toNat + 256 * val r
theorem le_len (n : Nat) : ∀ k, (le n k).length = k
  | 0 => rfl
  | k + 1 => by rw [le, List.length_append, le_len n k]; rfl
theorem val_snoc (b : UInt8) : ∀ l, val (l ++ [b]) = val l + b.toNat * 256 ^ l.length
  | [] => by simp [val]
  | c :: r => by
    rw [List.cons_append, val, val_snoc b r, val, List.length_cons, Nat.pow_succ, Nat.mul_add]
    have : 256 * (b.toNat * 256 ^ r.length) = b.toNat * (256 ^ r.length * 256) := by rw [Nat.mul_comm 256, Nat.mul_assoc]
    omega
theorem val_lt : ∀ l, val l < 256 ^ l.length
  | [] => by simp [val]
  | c :: r => by
    have := val_lt r
    have h2 : c.toNat < 256 := c.toNat_lt
    rw [val, List.length_cons, Nat.pow_succ]
    omega
def byteV (b : UInt8) : Value := .int .u8 (b.toNat : Int)
def bytesV (bs : List UInt8) : List Value := bs.map byteV
theorem bytesV_len (bs : List UInt8) : (bytesV bs).length = bs.length := by simp [bytesV]
theorem bytesV_app (a b : List UInt8) : bytesV (a ++ b) = bytesV a ++ bytesV b := by simp [bytesV]
theorem bytesV_one (bs : List UInt8) : ∀ u ∈ bytesV bs, u.oneCell' = true := by
  intro u hu
  obtain ⟨b, _, rfl⟩ := List.mem_map.1 hu
  rfl
theorem bytesV_get {bs : List UInt8} {i : Nat} (h : i < bs.length) : (bytesV bs)[i]? = some (byteV bs[i]) := by simp [bytesV, h]
/-- a byte that is written: 'byte(n >> (8 * i))' -/
theorem byte_of (n i : Nat) : Value.int .u8 ((n : Int) / 2 ^ (8 * i) % 256) = byteV (UInt8.ofNat (n / 256 ^ i)) := by
  have e : (2 : Int) ^ (8 * i) = ((256 ^ i : Nat) : Int) := by rw [Int.pow_mul]; norm_cast
  unfold byteV
  rw [e]
  congr 1
/-- a byte that is read: 'n |= uint64(b) << (8 * i)' -/
theorem or_byte (a b i : Nat) (ha : a < 256 ^ i) (hb : b < 256) (hi : i < 8) : Go.bits BinOp.or IntKind.u64 (a : Int) (IntKind.u64.wrap ((b : Int) * 2 ^ (8 * i))) = ((a + b * 256 ^ i : Nat) : Int) := by
  have e : (256 : Nat) ^ i = 2 ^ (8 * i) := by rw [Nat.pow_mul]
  have h1 : b * 256 ^ i < 18446744073709551616 := by
    have : b * 256 ^ i < 256 * 256 ^ i := Nat.mul_lt_mul_of_pos_right hb (Nat.pow_pos (by omega))
    have h2 : 256 * 256 ^ i ≤ 256 ^ 8 := by rw [← Nat.pow_succ']; exact Nat.pow_le_pow_right (by omega) (by omega)
    omega
  have h3 : a < 18446744073709551616 := Nat.lt_of_lt_of_le ha (Nat.le_trans (Nat.pow_le_pow_right (by omega) (show i ≤ 8 by omega)) (by decide))
  have e2 : (b : Int) * 2 ^ (8 * i) = ((b * 256 ^ i : Nat) : Int) := by rw [e]; push_cast; rfl
  have e3 : IntKind.u64.wrap ((b * 256 ^ i : Nat) : Int) = ((b * 256 ^ i : Nat) : Int) := by
    rw [IntKind.wrap_u64]
    omega
  rw [e2, e3, bits_or_u64_nat a _ h3 h1]
  congr 1
  rw [Nat.or_comm, Nat.mul_comm, e, ← Nat.two_pow_add_eq_or_of_lt (by rw [← e]; exact ha)]
  omega

end Go.Proofs.YtkmpchffflemcaaGreatDoor.Oc
end

/- What a thing in memory owns: blocks that it names, new ones behind a call; bytes in memory. No program in sight. -/
section
set_option linter.unusedVariables false
set_option linter.unusedSimpArgs false
namespace Go.Proofs.YtkmpchffflemcaaGreatDoor
open Go.RowKit
open Go.Proofs.YtkmpchffflemcaaGreatDoor.Oc (bytesV byteV bytesV_len)

/-- the blocks of S, and those that came between w and w' -/
def Gr (S : Nat → Prop) (w w' : World) : Nat → Prop := fun k => S k ∨ (w.heap.size ≤ k ∧ k < w'.heap.size)
/-- a thing that hangs on the blocks it names alone -/
structure Loc (A : (Nat → Prop) → World → Prop) : Prop where
  lt : ∀ {S : Nat → Prop} {w : World}, A S w → ∀ k, S k → k < w.heap.size
  same : ∀ {S : Nat → Prop} {w w' : World}, A S w → w.heap.size ≤ w'.heap.size → (∀ k, S k → w'.heap[k]? = w.heap[k]?) → A S w'
  mono : ∀ {S T : Nat → Prop} {w : World}, A S w → (∀ k, S k → T k) → (∀ k, T k → k < w.heap.size) → A T w
section
variable {A : (Nat → Prop) → World → Prop} {S T : Nat → Prop} {w w1 w2 w' : World}
theorem Loc.below (L : Loc A) (h : A S w) (hb : Below w.heap.size w w') : A S w' := L.same h hb.size fun k hk => hb.block k (L.lt h k hk)
theorem Loc.tch (L : Loc A) (h : A S w) (ht : Tch T w w') (hd : ∀ k, S k → ¬ T k) : A S w' := L.same h ht.size fun k hk => ht.block k (L.lt h k hk) (hd k hk)
theorem Gr.old {k : Nat} (h : Gr S w w' k) (hk : k < w.heap.size) : S k := by rcases h with h | h; exact h; omega
theorem Gr.apart (hd : ∀ k, S k → ¬ T k) (hT : ∀ k, T k → k < w.heap.size) : ∀ k, Gr S w w' k → ¬ T k := fun k hk ht => hd k (hk.old (hT k ht)) ht
theorem Tch.gr (h : Tch S w w1) (k : Tch (Gr S w w1) w1 w2) : Tch S w w2 :=
  h.new (k.mono fun j _ hj => by rcases hj with hj | hj; exact .inl hj; exact .inr hj.1)
theorem Tch.of_below (hb : Below w.heap.size w w') : Tch S w w' := ⟨hb.os, hb.tape, hb.output, hb.size, fun k hk _ => hb.block k hk⟩
theorem Tch.fresh (h : Tch S w1 w2) (hb : Below w.heap.size w w1) (hS : ∀ k, S k → w.heap.size ≤ k) : Below w.heap.size w w2 := Tch.to_below hb h hS
end
theorem Tch.at (w : World) (q i : Nat) (u : Value) : Tch (· = q) w (w.setCell ⟨q, i, none⟩ u) := (Tch.refl (· = q) w).put (p := ⟨q, i, none⟩) (.inl rfl) u
theorem Tch.at2 {a w : World} {q : Nat} (h : Tch (· = q) a w) (i : Nat) (u : Value) : Tch (· = q) a (w.setCell ⟨q, i, none⟩ u) := h.put (p := ⟨q, i, none⟩) (.inl rfl) u
theorem Tch.cells {q : Nat} {w w' : World} (h : Tch (· = q) w w') {b : Nat} (hb : b < w.heap.size) (hne : b ≠ q) (o : Nat) : w'.cell? ⟨b, o, none⟩ = w.cell? ⟨b, o, none⟩ := World.cell?_of_block (a := ⟨b, o, none⟩) (h.block b hb hne)
/-- block g begins with these bytes -/
def Blk (w : World) (u8 : TypeId) (g : Nat) (bs : List UInt8) : Prop := ∃ cur : Array Value, w.heap[g]? = some (.cells cur u8 (0, 0)) ∧ ∀ (j : Nat) (u : Value), (bytesV bs)[j]? = some u → cur[j]? = some u
theorem Blk.lt {w : World} {t : TypeId} {g : Nat} {bs : List UInt8} (h : Blk w t g bs) : g < w.heap.size := by
  obtain ⟨cur, h1, _⟩ := h; exact (Array.getElem?_eq_some_iff.1 h1).1
theorem Blk.same {w w' : World} {t : TypeId} {g : Nat} {bs : List UInt8} (h : Blk w t g bs) (hk : w'.heap[g]? = w.heap[g]?) : Blk w' t g bs := by
  obtain ⟨cur, h1, h2⟩ := h; exact ⟨cur, hk.trans h1, h2⟩
theorem Blk.cell {w : World} {t : TypeId} {g : Nat} {bs : List UInt8} (h : Blk w t g bs) {j : Nat} (hj : j < bs.length) : w.cell? ⟨g, j, none⟩ = some (byteV bs[j]) := by
  obtain ⟨cur, h1, h2⟩ := h
  rw [show w.cell? ⟨g, j, none⟩ = cur[j]? from by simp [World.cell?, h1]]
  exact h2 j _ (Oc.bytesV_get hj)
theorem Blk.mark {w : World} {t : TypeId} {g : Nat} {bs : List UInt8} (h : Blk w t g bs) (j : Nat) : w.frozen? ⟨g, j, none⟩ = false := by
  obtain ⟨cur, h1, _⟩ := h; simp [World.frozen?, h1]

end Go.Proofs.YtkmpchffflemcaaGreatDoor
end
