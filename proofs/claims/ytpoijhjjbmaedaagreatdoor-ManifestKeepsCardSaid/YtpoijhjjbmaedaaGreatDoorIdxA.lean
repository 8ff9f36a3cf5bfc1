/- Packed: Bits Bits2 Bits3 Idx Idx2 IdxPlain Idx3 Idx4 -/
import Derived.Test.YtpoijhjjbmaedaaGreatDoorKitA
import Derived.Test.YtpoijhjjbmaedaaGreatDoorProg
import Derived.Laws.Bits64b
import Derived.WalkSmall
import Derived.IntWalk
import Derived.StillTailTactics
import Derived.Laws.OwnMore
import Derived.OwnWalk
import Derived.Scope
import Derived.Deep.MidRow
set_option linter.unusedVariables false
set_option linter.unusedSimpArgs false
/- Bits: The contracts of bits.Set: there, Has, change (in), Put. -/
section
namespace Go.Proofs.YtpoijhjjbmaedaaGreatDoor.Bit
open Go.RowKit

/-- a set below n, its words: the set's own block p, the words' block g -/
structure SetAt (w : World) (p g c n : Nat) (ws : Nat → Nat) : Prop where
  own : Arr w p 209 #[.bool true, .int .i64 n, .slice (some ⟨g, 0, none⟩) ((n + 63) / 64) c]
  row : ∃ cur, w.heap[g]? = some (.cells cur 139 (0, 0)) ∧ ∀ j, j < (n + 63) / 64 → cur[j]? = some (.int .u64 (ws j))
  small : ∀ j, ws j < 18446744073709551616
  apart : p ≠ g
def hasB (ws : Nat → Nat) (i : Nat) : Bool := (ws (i / 64)).testBit (i % 64)
theorem SetAt.keep {w w' : World} {p g c n : Nat} {ws : Nat → Nat} (h : SetAt w p g c n ws) (hb : Below w.heap.size w w') : SetAt w' p g c n ws := by
  obtain ⟨cur, h1, h2⟩ := h.row
  exact ⟨h.own.keep hb, ⟨cur, (hb.block g (Array.getElem?_eq_some_iff.1 h1).1).trans h1, h2⟩, h.small, h.apart⟩
theorem SetAt.word {w : World} {p g c n : Nat} {ws : Nat → Nat} (h : SetAt w p g c n ws) {j : Nat} (hj : j < (n + 63) / 64) : w.cell? ⟨g, j, none⟩ = some (.int .u64 (ws j)) ∧ w.frozen? ⟨g, j, none⟩ = false := by
  obtain ⟨cur, h1, h2⟩ := h.row
  exact ⟨by rw [show w.cell? ⟨g, j, none⟩ = cur[j]? from by simp [World.cell?, h1]]; exact h2 j hj, by simp [World.frozen?, h1]⟩
theorem bit_test (x k : Nat) (hx : x < 18446744073709551616) : (Go.bits BinOp.and IntKind.u64 ((x : Int) / 2 ^ k) 1 == 1) = x.testBit k := by
  have e : (x : Int) / 2 ^ k = ((x / 2 ^ k : Nat) : Int) := by simp
  have hs : x / 2 ^ k ≤ x := Nat.div_le_self _ _
  rw [e, Nat.testBit_eq_decide_div_mod_eq]
  generalize x / 2 ^ k = y at hs
  rw [and_one_u64 _ (by omega) (by omega)]
  rw [Bool.eq_iff_iff, beq_iff_eq, decide_eq_true_eq]
  omega

-- (*gangway/bits.Set).there
set_option maxRecDepth 100000 in
set_option maxHeartbeats 1000000 in
theorem There (p : Nat) (w : World) (h : w.cell? ⟨p, 0, none⟩ = some (.bool true)) : Calls Tryz.prog 130 #[.pointer (some ⟨p, 0, none⟩)] w fun e w' => e = .returned (.bool true) ∧ w' = w := by
  go_enter Tryz.func130, Tryz.ntmps130
  go_wp2_with fail
  go_ret
  exact ⟨rfl, rfl⟩

-- (*gangway/bits.Set).Has
set_option maxRecDepth 100000 in
set_option maxHeartbeats 1000000 in
theorem Has_in (p g c n i : Nat) (ws : Nat → Nat) (w : World) (h : SetAt w p g c n ws) (hi : i < n) (hn : n ≤ 1000000) : Calls Tryz.prog 80 #[.pointer (some ⟨p, 0, none⟩), .int .i64 i] w fun e w' => e = .returned (.bool (hasB ws i)) ∧ w' = w := by
  have x0 : w.cell? ⟨p, 0, none⟩ = some (.bool true) := h.own.cell 0
  have x1 : w.cell? ⟨p, 1, none⟩ = some (.int .i64 n) := h.own.cell 1
  have x2 : w.cell? ⟨p, 2, none⟩ = some (.slice (some ⟨g, 0, none⟩) ((n + 63) / 64) c) := h.own.cell 2
  obtain ⟨q, hq⟩ : ∃ q, i / 64 = q := ⟨_, rfl⟩
  obtain ⟨k, hk⟩ : ∃ k, i % 64 = k := ⟨_, rfl⟩
  have hqn : q < (n + 63) / 64 := by omega
  obtain ⟨y0, _⟩ := h.word hqn
  have e1 : (i : Int) / 64 = (q : Int) := by omega
  have e2 : (i : Int) % 64 = (k : Int) := by omega
  have e3 : hasB ws i = (ws q).testBit k := by unfold hasB; rw [hq, hk]
  have hb := bit_test (ws q) k (h.small q)
  obtain ⟨nw, hnw⟩ : ∃ nw, (n + 63) / 64 = nw := ⟨_, rfl⟩
  rw [hnw] at x2 hqn
  have hqn2 : (q : Int) < (nw : Int) := by omega
  have hq0 : (0 : Int) ≤ (q : Int) := by omega
  have hk63 : k < 64 := by omega
  have hi1 : (i : Int) < (n : Int) := by omega
  have hi0 : (0 : Int) ≤ (i : Int) := by omega
  rw [e3]
  have HB := Lib.hid hb
  clear h hq hk hnw e3 hb
  go_enter Tryz.func80, Tryz.ntmps80
  go_wp2_with fail
  refine (There p _ x0).mono ?_
  rintro e w1 ⟨rfl, hw⟩
  subst hw
  go_wp2_with fail
  go_ret
  exact ⟨by rw [← HB.out]; rfl, rfl⟩

end Go.Proofs.YtpoijhjjbmaedaaGreatDoor.Bit
end

/- Bits2: bits.Set: Put. -/
section
namespace Go.Proofs.YtpoijhjjbmaedaaGreatDoor.Bit
open Go.RowKit

theorem or_set (x k : Nat) (hx : x < 18446744073709551616) (hk : k < 64) : Go.bits BinOp.or IntKind.u64 (x : Int) (IntKind.u64.wrap (2 ^ k)) = ((x ||| 2 ^ k : Nat) : Int) := by
  have h1 : (2 : Nat) ^ k < 18446744073709551616 := Nat.pow_lt_pow_right (n := 64) (by decide) hk
  have e : IntKind.u64.wrap ((2 : Int) ^ k) = ((2 ^ k : Nat) : Int) := by
    rw [show ((2 : Int) ^ k) = ((2 ^ k : Nat) : Int) from by simp, IntKind.wrap_u64]
    generalize (2 : Nat) ^ k = y at h1
    omega
  rw [e, bits_or_u64_nat x (2 ^ k) hx h1]

set_option maxRecDepth 100000 in
set_option maxHeartbeats 2000000 in
theorem Change_in (p g c n i : Nat) (ws : Nat → Nat) (w : World) (h : SetAt w p g c n ws) (hi : i < n) (hn : n ≤ 1000000) : Calls Tryz.prog 132 #[.pointer (some ⟨p, 0, none⟩), .int .i64 i, .bool true] w fun e w' => e = .returned (.int .i64 0) ∧ SetAt w' p g c n (fun j => if j = i / 64 then ws j ||| 2 ^ (i % 64) else ws j) ∧ w.grownBy w' (some g) := by
  have x0 : w.cell? ⟨p, 0, none⟩ = some (.bool true) := h.own.cell 0
  have x1 : w.cell? ⟨p, 1, none⟩ = some (.int .i64 n) := h.own.cell 1
  have x2 : w.cell? ⟨p, 2, none⟩ = some (.slice (some ⟨g, 0, none⟩) ((n + 63) / 64) c) := h.own.cell 2
  obtain ⟨q, hq⟩ : ∃ q, i / 64 = q := ⟨_, rfl⟩
  obtain ⟨k, hk⟩ : ∃ k, i % 64 = k := ⟨_, rfl⟩
  have hqn : q < (n + 63) / 64 := by omega
  obtain ⟨y0, m0⟩ := h.word hqn
  have e1 : (i : Int) / 64 = (q : Int) := by omega
  have e2 : (i : Int) % 64 = (k : Int) := by omega
  obtain ⟨nw, hnw⟩ : ∃ nw, (n + 63) / 64 = nw := ⟨_, rfl⟩
  rw [hnw] at x2 hqn
  rw [hq, hk]
  have hqn2 : (q : Int) < (nw : Int) := by omega
  have hq0 : (0 : Int) ≤ (q : Int) := by omega
  have hk63 : k < 64 := by omega
  have hi1 : (i : Int) < (n : Int) := by omega
  have hi0 : (0 : Int) ≤ (i : Int) := by omega
  have hpg : p ≠ g := h.apart
  have t1 : (i : Int).tmod 64 = (k : Int) := by rw [Int.tmod_eq_emod_of_nonneg (by omega)]; exact e2
  have hk0 : (0 : Int) ≤ (k : Int) := by omega
  have v1 : IntKind.i64.wrap (q : Int) = (q : Int) := IntWalk.i64_in _ (by omega)
  have v2 : IntKind.i64.wrap (k : Int) = (k : Int) := IntWalk.i64_in _ (by omega)
  have HS := Lib.hid h
  clear h hq hk hnw
  go_enter Tryz.func132, Tryz.ntmps132
  go_wp2_with fail
  refine (There p _ x0).mono ?_
  rintro e w1 ⟨rfl, hw⟩
  rw [hw]
  clear hw w1
  go_wp2_with fail
  have hS : w.cell? ⟨p, 2, none⟩ = some (.slice (some ⟨g, 0, none⟩) nw c) ∧ w.cell? ⟨g, q, none⟩ = some (.int .u64 (ws q)) ∧ w.frozen? ⟨g, q, none⟩ = false := ⟨x2, y0, m0⟩
  go_still_tail 13, (by kernel_rfl)
  change wpList _ _ _ _ _ w.drew
  have hS2 : w.drew.cell? ⟨p, 2, none⟩ = some (.slice (some ⟨g, 0, none⟩) nw c) ∧ w.drew.cell? ⟨g, q, none⟩ = some (.int .u64 (ws q)) ∧ w.drew.frozen? ⟨g, q, none⟩ = false := hS
  obtain ⟨z1, z2, z3⟩ := hS2
  obtain ⟨w2, hw2⟩ : ∃ w2, w.drew = w2 := ⟨_, rfl⟩
  rw [hw2] at z1 z2 z3 ⊢
  have HW2 := Lib.hid hw2
  clear hw2 hS
  go_wp2_with fail
  go_ret
  rw [or_set _ _ (HS.out.small q) hk63, ← HW2.out]
  have h0 := HS.out
  have hg1 : w.grownBy w.drew (some g) := ⟨rfl, rfl, rfl, Nat.le_refl _, fun _ _ _ => rfl⟩
  have hg2 : w.drew.grownBy (w.drew.setCell ⟨g, q, none⟩ (.int .u64 ((ws q ||| 2 ^ k : Nat) : Int))) (some g) := ⟨rfl, rfl, rfl, by simp, fun j _ hj => Below.heap_setCell _ _ _ j (fun e => hj (by rw [e]))⟩
  obtain ⟨cur, r1, r2⟩ := h0.row
  refine ⟨rfl, ⟨Arr.other (Arr.drew h0.own) hpg _, ⟨cur.setIfInBounds q (.int .u64 ((ws q ||| 2 ^ k : Nat) : Int)), ?_, fun j hj => ?_⟩, fun j => ?_, hpg⟩, hg1.trans hg2⟩
  · have r3 : w.drew.heap[g]? = some (.cells cur 139 (0, 0)) := r1
    simp [World.setCell, Array.getElem?_modify, r3]
  · rw [Array.getElem?_setIfInBounds]
    by_cases e : j = q
    · subst e
      have hc : j < cur.size := (Array.getElem?_eq_some_iff.1 (r2 j hj)).1
      rw [if_pos rfl, if_pos hc]
      simp
    · rw [if_neg (fun h => e h.symm), if_neg e]; exact r2 j hj
  · by_cases e : j = q
    · rw [if_pos e]
      exact Nat.or_lt_two_pow (n := 64) (h0.small j) (Nat.pow_lt_pow_right (by decide) hk63)
    · rw [if_neg e]; exact h0.small j

end Go.Proofs.YtpoijhjjbmaedaaGreatDoor.Bit
end

/- Bits3: bits.New: a set without numbers. -/
section
namespace Go.Proofs.YtpoijhjjbmaedaaGreatDoor.Bit
open Go.RowKit

theorem u64_info : (Tryz.prog.info? 139).map (fun i => (i.zero, i.size, i.bytes)) = some (some (.int .u64 0), 1, 8) := by kernel_rfl
def NewOut (n : Nat) (w : World) (e : Ending) (w' : World) : Prop := ∃ p g, e = .returned (.tuple #[.pointer (some ⟨p, 0, none⟩), .int .i64 0]) ∧ SetAt w' p g ((n + 63) / 64) n (fun _ => 0) ∧ w.heap.size ≤ p ∧ w.heap.size ≤ g ∧ Below w.heap.size w w'
-- bits.New
set_option maxRecDepth 100000 in
set_option maxHeartbeats 1000000 in
theorem New_in (n : Nat) (hn : n ≤ 65536) (w : World) : Calls Tryz.prog 76 #[.int .i64 n] w (NewOut n w) := by
  obtain ⟨i0, hi, hz0, hz1, hz2⟩ := info_parts u64_info
  obtain ⟨nw, hnw⟩ : ∃ nw, (n + 63) / 64 = nw := ⟨_, rfl⟩
  have e1 : ((n : Int) + 63) / 64 = (nw : Int) := by omega
  have hnl : nw ≤ 1025 := by omega
  have hn1 : ¬ (65536 : Int) < (n : Int) := by omega
  have hn0 : ¬ (n : Int) < 0 := by omega
  have HN := Lib.hid hnw
  clear hnw
  go_enter Tryz.func76, Tryz.ntmps76
  go_wp2_with (refine wpList_make_full _ rfl _ _ 207 rfl w.heap.size 139 i0 (.int .u64 0) 1 Tryz.underlying207 hi hz0 hz1 .i64 .i64 _ _ nw rfl rfl (by omega) (by omega) (by rw [hz2]; omega) (by unfold maxLen; omega) (Nat.le_refl _) ?_; intro w5 hown5 hg5; have HO5 := Lib.hid hown5; have HG5 := Lib.hid hg5; clear hown5 hg5)
  go_ret2
  have hown := HO5.out
  rw [show (Value.int IntKind.u64 0).cells = #[Value.int IntKind.u64 0] from rfl, toList_madeCells_one] at hown
  have hg := HG5.out
  have hb5 : Below w.heap.size w w5 := Below.grown (Below.refl _ _) hg (Nat.le_refl _) (by simp)
  have hlt : w.heap.size < w5.heap.size := (own_lt (g := w.heap.size) hown rfl).1
  rw [NewOut, HN.out]
  refine ⟨w5.heap.size, w.heap.size, rfl, ⟨?_, ?_, fun _ => by decide, by omega⟩, hb5.size, Nat.le_refl _, ext_alloc hb5 _⟩
  · rw [HN.out]; exact Arr.fresh w5 _ _
  · rcases hown.2 with ⟨h0, _⟩ | ⟨g', cap, cur, hv, hb, hh, hnc, hcm, hcs, ht⟩
    · cases h0
    · injection hv with e1 _ e2
      injection e1 with e1
      injection e1 with e1
      subst e1 e2
      refine ⟨cur, (heap_alloc_old w5 _ hlt).trans hh, fun j hj => ?_⟩
      rw [HN.out] at hj
      have hx : cur[j]? = (List.replicate (nw * 1) (Value.int IntKind.u64 0))[j]? := by
        rw [← ht, List.getElem?_take, if_pos (by omega), Array.getElem?_toList]
      rw [hx, List.getElem?_replicate, if_pos (by omega)]; rfl

end Go.Proofs.YtpoijhjjbmaedaaGreatDoor.Bit
end

/- Idx: The contracts of the index: mix.Hash, made, New. -/
section
namespace Go.Proofs.YtpoijhjjbmaedaaGreatDoor.Idx
open Go.RowKit

theorem xor_range (a b : Int) : 0 ≤ Go.bits BinOp.xor IntKind.u64 a b ∧ Go.bits BinOp.xor IntKind.u64 a b < 18446744073709551616 := by
  show 0 ≤ IntKind.u64.wrap _ ∧ IntKind.u64.wrap _ < _
  rw [IntKind.wrap_u64]
  omega
def mx (x d : Int) : Int := Go.bits BinOp.xor IntKind.u64 x (x / d)
/-- the number's own place, before it is brought into the table -/
def hsh (x : Int) : Int := mx (IntKind.u64.wrap (mx (IntKind.u64.wrap (mx x 1073741824 * 13787848793156543929)) 134217728 * 10723151780598845931)) 2147483648
theorem hsh_range (x : Int) : 0 ≤ hsh x ∧ hsh x < 18446744073709551616 := xor_range _ _
-- mix.Hash
set_option maxRecDepth 100000 in
set_option maxHeartbeats 1000000 in
theorem Hash (x : Int) (w : World) : Calls Tryz.prog 164 #[.int .u64 x] w fun e w' => e = .returned (.int .u64 (hsh x)) ∧ w' = w := by
  go_enter Tryz.func164, Tryz.ntmps164
  go_wp2_with fail
  go_ret
  exact ⟨rfl, rfl⟩

end Go.Proofs.YtpoijhjjbmaedaaGreatDoor.Idx
end

/- Idx2: The contracts of the index: New, made. -/
section
namespace Go.Proofs.YtpoijhjjbmaedaaGreatDoor.Idx
open Go.RowKit

theorem slot_info : (Tryz.prog.info? 205).map (fun i => (i.zero, i.size, i.bytes)) = some (some (.agg #[.int .u8 0, .int .u32 0, .int .i64 0]), 3, 16) := by kernel_rfl
/-- what a slot of the table holds: its state, an id, a number -/
structure Slot where
  state : Nat
  id : Int
  v : Int
/-- the table's block -/
def Rows (w : World) (g n : Nat) (f : Nat → Slot) : Prop := ∃ cur, w.heap[g]? = some (.cells cur 205 (0, 0)) ∧ ∀ i, i < n → cur[i * 3]? = some (.int .u8 (f i).state) ∧ cur[i * 3 + 1]? = some (.int .u32 (f i).id) ∧ cur[i * 3 + 2]? = some (.int .i64 (f i).v)
/-- an index: its own block p, its table's block g with n places -/
structure IdxAt (w : World) (p g n : Nat) (most len graves steps : Int) (f : Nat → Slot) : Prop where
  own : Arr w p 200 #[.slice (some ⟨g, 0, none⟩) n n, .int .i64 most, .int .i64 len, .int .i64 graves, .int .i64 steps]
  rows : Rows w g n f
  apart : p ≠ g
def IdxNew (m : Nat) (w : World) (e : Ending) (w' : World) : Prop := ∃ p g n, e = .returned (.tuple #[.pointer (some ⟨p, 0, none⟩), .int .i64 0]) ∧ IdxAt w' p g n m 0 0 0 (fun _ => ⟨0, 0, 0⟩) ∧ 2 * m ≤ n ∧ n ≤ 4 * m ∧ w.heap.size ≤ p ∧ w.heap.size ≤ g ∧ Below w.heap.size w w'
theorem made_cell (n j : Nat) (h : j < n) : (madeCells #[Value.int .u8 0, .int .u32 0, .int .i64 0] n)[j]? = #[Value.int .u8 0, .int .u32 0, .int .i64 0][j % 3]? := by
  have h3 : j % 3 < 3 := Nat.mod_lt _ (by decide)
  unfold madeCells
  rw [Array.getElem?_map, Array.getElem?_range, if_pos h]
  obtain h4 | h4 | h4 : j % 3 = 0 ∨ j % 3 = 1 ∨ j % 3 = 2 := by omega
  all_goals simp [h4]

set_option maxRecDepth 100000 in
set_option maxHeartbeats 1000000 in
theorem New_in (m : Nat) (h1 : 1 ≤ m) (h2 : m ≤ 4096) (w : World) : Calls Tryz.prog 77 #[.int .i64 m] w (IdxNew m w) := by
  obtain ⟨i0, hi, hz0, hz1, hz2⟩ := info_parts slot_info
  have hm1 : ¬ (m : Int) < 1 := by omega
  have hm2 : ¬ (4096 : Int) < (m : Int) := by omega
  go_enter Tryz.func77, Tryz.ntmps77
  go_wp2_with fail
  go_loopw [4] (fun k wr => ∃ n : Nat, 1 ≤ n ∧ n ≤ 4 * m ∧ k = .int .i64 n ∧ wr = w) (fun k _ => (2 * m - intOf k).toNat)
  case atStart => exact ⟨1, by omega, by omega, rfl, rfl⟩
  case round =>
    obtain ⟨n, hn1, hn2, rfl, hw⟩ := hrel
    rw [hw]
    clear hw
    by_cases h : n < 2 * m
    · have h' : (n : Int) < 2 * (m : Int) := by omega
      go_wp2_with fail
      go_roundw
      case rel => exact ⟨n * 2, by omega, by omega, by go_num, by first | rfl | trivial⟩
      case measure => simp [intOf]; omega
    · have h' : ¬ (n : Int) < 2 * (m : Int) := by omega
      go_wp2_with (refine wpList_make_full _ rfl _ _ 198 rfl w.heap.size 205 i0 (.agg #[.int .u8 0, .int .u32 0, .int .i64 0]) 3 Tryz.underlying198 hi hz0 hz1 .i64 .i64 _ _ n rfl rfl rfl rfl (by rw [hz2]; omega) (by unfold maxLen; omega) (Nat.le_refl _) ?_; intro w5 hown5 hg5; have HO5 := Lib.hid hown5; have HG5 := Lib.hid hg5; clear hown5 hg5)
      go_ret2
      have hown := HO5.out
      have hb5 : Below w.heap.size w w5 := Below.grown (Below.refl _ _) HG5.out (Nat.le_refl _) (by simp)
      have hlt : w.heap.size < w5.heap.size := (own_lt (g := w.heap.size) hown rfl).1
      refine ⟨w5.heap.size, w.heap.size, n, rfl, ⟨Arr.fresh w5 _ _, ?_, by omega⟩, by omega, hn2, hb5.size, Nat.le_refl _, ext_alloc hb5 _⟩
      rcases hown.2 with ⟨h0, _⟩ | ⟨g', cap, cur, hv, hb, hh, hnc, hcm, hcs, ht⟩
      · cases h0
      · injection hv with e1 _ e2
        injection e1 with e1
        injection e1 with e1
        subst e1 e2
        have hx : ∀ j, j < n * 3 → cur[j]? = #[Value.int .u8 0, .int .u32 0, .int .i64 0][j % 3]? := fun j hj => by
          rw [← made_cell (n * 3) j hj, ← Array.getElem?_toList (xs := madeCells _ _)]
          show cur[j]? = (madeCells (Value.agg #[Value.int .u8 0, .int .u32 0, .int .i64 0]).cells (n * 3)).toList[j]?
          rw [← ht, List.getElem?_take, if_pos hj, Array.getElem?_toList]
        refine ⟨cur, (heap_alloc_old w5 _ hlt).trans hh, fun i hi => ⟨?_, ?_, ?_⟩⟩
        · rw [hx _ (by omega), Nat.mul_mod_left]; rfl
        · rw [hx _ (by omega), show (i * 3 + 1) % 3 = 1 from by omega]; rfl
        · rw [hx _ (by omega), show (i * 3 + 2) % 3 = 2 from by omega]; rfl

end Go.Proofs.YtpoijhjjbmaedaaGreatDoor.Idx
end

/- IdxPlain: Open addressing in plain Lean: what a search meets, and what stays true where something is laid in. No program in sight. -/
section
namespace Go.Proofs.YtpoijhjjbmaedaaGreatDoor.Idx

/-- open addressing: what find answers from a place on, for k steps more -/
def probe (f : Nat → Slot) (id : Int) (n : Nat) : Nat → Nat → Int → Int × Bool
  | 0, _, free => (free, false)
  | k + 1, a, free => match (f a).state with
    | 0 => (if free < 0 then (a : Int) else free, false)
    | 1 => if (f a).id = id then ((a : Int), true) else probe f id n k ((a + 1) % n) free
    | _ => probe f id n k ((a + 1) % n) (if free < 0 then (a : Int) else free)
theorem probe_0 {f : Nat → Slot} {id : Int} {n k a : Nat} {free : Int} (s : (f a).state = 0) : probe f id n (k + 1) a free = (if free < 0 then (a : Int) else free, false) := by rw [probe, s]; rfl
theorem probe_hit {f : Nat → Slot} {id : Int} {n k a : Nat} {free : Int} (s : (f a).state = 1) (h : (f a).id = id) : probe f id n (k + 1) a free = ((a : Int), true) := by rw [probe, s]; simp [h]
theorem probe_on {f : Nat → Slot} {id : Int} {n k a : Nat} {free : Int} (s : (f a).state = 1) (h : ¬ (f a).id = id) : probe f id n (k + 1) a free = probe f id n k ((a + 1) % n) free := by rw [probe, s]; simp [h]
theorem probe_2 {f : Nat → Slot} {id : Int} {n k a : Nat} {free : Int} (s : (f a).state = 2) : probe f id n (k + 1) a free = probe f id n k ((a + 1) % n) (if free < 0 then (a : Int) else free) := by rw [probe, s]; rfl
def pos (n h d : Nat) : Nat := (h + d) % n
theorem pos_succ (n h d : Nat) : (pos n h d + 1) % n = pos n h (d + 1) := by unfold pos; rw [Nat.mod_add_mod]; rfl
theorem pos_lt {n : Nat} (h d : Nat) (hn : 0 < n) : pos n h d < n := Nat.mod_lt _ hn
theorem pos_val {n h d : Nat} (hh : h < n) (hd : d < n) : pos n h d = if h + d < n then h + d else h + d - n := by
  unfold pos
  split
  · exact Nat.mod_eq_of_lt (by assumption)
  · rw [Nat.mod_eq_sub_mod (by omega), Nat.mod_eq_of_lt (by omega)]
theorem pos_inj {n h d e : Nat} (hh : h < n) (hd : d < n) (he : e < n) (hx : pos n h d = pos n h e) : d = e := by
  rw [pos_val hh hd, pos_val hh he] at hx
  split at hx <;> split at hx <;> omega
theorem pos_all {n h i : Nat} (hh : h < n) (hi : i < n) : ∃ e, e < n ∧ pos n h e = i := by
  rcases Nat.lt_or_ge i h with h1 | h1
  · exact ⟨i + n - h, by omega, by rw [pos_val hh (by omega)]; split <;> omega⟩
  · exact ⟨i - h, by omega, by rw [pos_val hh (by omega)]; split <;> omega⟩

def Hit (f : Nat → Slot) (id : Int) (n h d : Nat) (r : Int × Bool) : Prop := ∃ e, d ≤ e ∧ e < n ∧ r = ((pos n h e : Int), true) ∧ (f (pos n h e)).state = 1 ∧ (f (pos n h e)).id = id
def Miss (f : Nat → Slot) (id : Int) (n h d : Nat) (free : Int) (r : Int × Bool) : Prop := r.2 = false ∧ (∀ e, d ≤ e → e < n → (f (pos n h e)).state = 1 → (f (pos n h e)).id = id → ∃ e', d ≤ e' ∧ e' < e ∧ (f (pos n h e')).state = 0) ∧ (0 ≤ free → r.1 = free) ∧ (free < 0 → (r.1 = free ∧ ∀ e, d ≤ e → e < n → (f (pos n h e)).state = 1) ∨ ∃ e, d ≤ e ∧ e < n ∧ r.1 = (pos n h e : Int) ∧ (f (pos n h e)).state ≠ 1 ∧ ∀ e', d ≤ e' → e' < e → (f (pos n h e')).state = 1)

theorem probe_spec (f : Nat → Slot) (id : Int) (n h : Nat) (hst : ∀ i, i < n → (f i).state ≤ 2) (hn : 0 < n) : ∀ k d free, d + k = n → Hit f id n h d (probe f id n k (pos n h d) free) ∨ Miss f id n h d free (probe f id n k (pos n h d) free)
  | 0, d, free, hd => .inr ⟨rfl, fun e h1 h2 => by omega, fun _ => rfl, fun _ => .inl ⟨rfl, fun e h1 h2 => by omega⟩⟩
  | k + 1, d, free, hd => by
    have hp : pos n h d < n := pos_lt h d hn
    have hs := hst _ hp
    rcases (show (f (pos n h d)).state = 0 ∨ (f (pos n h d)).state = 1 ∨ (f (pos n h d)).state = 2 by omega) with s | s | s
    · have e : probe f id n (k + 1) (pos n h d) free = (if free < 0 then (pos n h d : Int) else free, false) := by rw [probe, s]; rfl
      rw [e]
      refine .inr ⟨rfl, fun e h1 h2 s1 _ => ⟨d, Nat.le_refl _, ?_, s⟩, fun h => if_neg (by omega), fun h => .inr ⟨d, Nat.le_refl _, by omega, if_pos h, by rw [s]; decide, fun e' h1 h2 => by omega⟩⟩
      rcases Nat.lt_or_ge d e with h3 | h3
      · exact h3
      · obtain rfl : e = d := by omega
        rw [s] at s1; cases s1
    · by_cases hid : (f (pos n h d)).id = id
      · exact .inl ⟨d, Nat.le_refl _, by omega, by rw [probe, s]; simp [hid], s, hid⟩
      · have e : probe f id n (k + 1) (pos n h d) free = probe f id n k (pos n h (d + 1)) free := by rw [probe, s]; simp [hid, pos_succ]
        rw [e]
        rcases probe_spec f id n h hst hn k (d + 1) free (by omega) with ⟨e, h1, h2⟩ | ⟨h1, h2, h3, h4⟩
        · exact .inl ⟨e, by omega, h2⟩
        · refine .inr ⟨h1, fun e he hen hs1 hi1 => ?_, h3, fun hf => ?_⟩
          · rcases Nat.lt_or_ge d e with h5 | h5
            · obtain ⟨e', a, b⟩ := h2 e h5 hen hs1 hi1
              exact ⟨e', by omega, b⟩
            · obtain rfl : e = d := by omega
              exact absurd hi1 hid
          · rcases h4 hf with ⟨a, b⟩ | ⟨e, a, b, c, d', g⟩
            · refine .inl ⟨a, fun e he hen => ?_⟩
              rcases Nat.lt_or_ge d e with h5 | h5
              · exact b e h5 hen
              · obtain rfl : e = d := by omega
                exact s
            · refine .inr ⟨e, by omega, b, c, d', fun e' he hen => ?_⟩
              rcases Nat.lt_or_ge d e' with h5 | h5
              · exact g e' h5 hen
              · obtain rfl : e' = d := by omega
                exact s
    · have e : probe f id n (k + 1) (pos n h d) free = probe f id n k (pos n h (d + 1)) (if free < 0 then (pos n h d : Int) else free) := by rw [probe, s, pos_succ]; rfl
      rw [e]
      rcases probe_spec f id n h hst hn k (d + 1) (if free < 0 then (pos n h d : Int) else free) (by omega) with ⟨e, h1, h2⟩ | ⟨h1, h2, h3, h4⟩
      · exact .inl ⟨e, by omega, h2⟩
      · refine .inr ⟨h1, fun e he hen hs1 hi1 => ?_, fun hf => ?_, fun hf => ?_⟩
        · rcases Nat.lt_or_ge d e with h5 | h5
          · obtain ⟨e', a, b⟩ := h2 e h5 hen hs1 hi1
            exact ⟨e', by omega, b⟩
          · obtain rfl : e = d := by omega
            rw [s] at hs1; cases hs1
        · rw [if_neg (by omega)] at h3 ⊢
          exact h3 hf
        · rw [if_pos hf] at h3 ⊢
          exact .inr ⟨d, Nat.le_refl _, by omega, h3 (by omega), by rw [s]; decide, fun e' h1 h2 => by omega⟩

/-- how many of the first n places are in a state -/
def cnt (f : Nat → Slot) (s : Nat) : Nat → Nat
  | 0 => 0
  | n + 1 => cnt f s n + if (f n).state = s then 1 else 0
def upd (f : Nat → Slot) (i : Nat) (s : Slot) : Nat → Slot := fun j => if j = i then s else f j
theorem upd_same (f : Nat → Slot) (i : Nat) (s : Slot) : upd f i s i = s := if_pos rfl
theorem upd_other (f : Nat → Slot) {i j : Nat} (s : Slot) (h : j ≠ i) : upd f i s j = f j := if_neg h
theorem cnt_le (f : Nat → Slot) (s : Nat) : ∀ n, cnt f s n ≤ n
  | 0 => Nat.le_refl _
  | n + 1 => by have := cnt_le f s n; rw [cnt]; split <;> omega
theorem cnt_full {f : Nat → Slot} {s : Nat} : ∀ {n}, (∀ i, i < n → (f i).state = s) → cnt f s n = n
  | 0, _ => rfl
  | n + 1, h => by rw [cnt, cnt_full (fun i hi => h i (by omega)), if_pos (h n (by omega))]
theorem cnt_past (f : Nat → Slot) (t : Nat) (i : Nat) (s : Slot) : ∀ n, n ≤ i → cnt (upd f i s) t n = cnt f t n
  | 0, _ => rfl
  | n + 1, h => by rw [cnt, cnt, cnt_past f t i s n (by omega), upd_other f s (by omega)]
theorem cnt_upd (f : Nat → Slot) (t : Nat) (i : Nat) (s : Slot) : ∀ n, i < n → cnt (upd f i s) t n + (if (f i).state = t then 1 else 0) = cnt f t n + (if s.state = t then 1 else 0)
  | 0, h => by omega
  | n + 1, h => by
    rw [cnt, cnt]
    rcases Nat.lt_or_ge i n with h1 | h1
    · have := cnt_upd f t i s n h1
      rw [upd_other f s (by omega : n ≠ i)]
      omega
    · obtain rfl : i = n := by omega
      rw [cnt_past f t i s i (Nat.le_refl _), upd_same]
      omega

/-- the place from which an id is searched -/
def home (n : Nat) (id : Int) : Nat := (hsh id % (n : Int)).toNat
theorem home_lt {n : Nat} (id : Int) (hn : 0 < n) : home n id < n := by
  unfold home
  generalize hsh id = x
  have h1 := Int.emod_nonneg x (show (n : Int) ≠ 0 by omega)
  have h2 := Int.emod_lt_of_pos x (show (0 : Int) < n by omega)
  omega
theorem pos_home {n : Nat} (id : Int) (hn : 0 < n) : pos n (home n id) 0 = home n id := by
  have h := home_lt id hn
  generalize home n id = x at h
  unfold pos
  rw [Nat.add_zero]
  exact Nat.mod_eq_of_lt h
/-- a table as the program keeps it -/
structure Tab (f : Nat → Slot) (n : Nat) : Prop where
  states : ∀ i, i < n → (f i).state ≤ 2
  uniq : ∀ i j, i < n → j < n → (f i).state = 1 → (f j).state = 1 → (f i).id = (f j).id → i = j
  reach : ∀ id e, e < n → (f (pos n (home n id) e)).state = 1 → (f (pos n (home n id) e)).id = id → ∀ e', e' < e → (f (pos n (home n id) e')).state ≠ 0
def seek (f : Nat → Slot) (n : Nat) (id : Int) : Int × Bool := probe f id n n (home n id) (-1)
theorem seek_spec {f : Nat → Slot} {n : Nat} (h : Tab f n) (hn : 0 < n) (id : Int) : Hit f id n (home n id) 0 (seek f n id) ∨ Miss f id n (home n id) 0 (-1) (seek f n id) := by
  have := probe_spec f id n (home n id) h.states hn n 0 (-1) (by omega)
  rwa [pos_home id hn] at this
/-- who is there is found -/
theorem seek_there {f : Nat → Slot} {n : Nat} (h : Tab f n) {i : Nat} (hi : i < n) (hs : (f i).state = 1) : seek f n (f i).id = ((i : Int), true) := by
  have hn : 0 < n := by omega
  rcases seek_spec h hn (f i).id with ⟨e, _, he, hr, h1, h2⟩ | ⟨_, h2, _⟩
  · rw [hr, h.uniq _ _ (pos_lt _ _ hn) hi h1 hs h2]
  · obtain ⟨e, he, hp⟩ := pos_all (home_lt (f i).id hn) hi
    obtain ⟨e', _, h3, h4⟩ := h2 e (Nat.zero_le _) he (by rw [hp]; exact hs) (by rw [hp])
    exact absurd h4 (h.reach (f i).id e he (by rw [hp]; exact hs) (by rw [hp]) e' h3)
theorem seek_hit {f : Nat → Slot} {n : Nat} (h : Tab f n) (hn : 0 < n) {id : Int} (hr : (seek f n id).2 = true) : ∃ i, i < n ∧ seek f n id = ((i : Int), true) ∧ (f i).state = 1 ∧ (f i).id = id := by
  rcases seek_spec h hn id with ⟨e, _, he, h3, h1, h2⟩ | ⟨h1, _⟩
  · exact ⟨_, pos_lt _ _ hn, h3, h1, h2⟩
  · rw [hr] at h1; cases h1
/-- who isn't there: a place is found where it may be laid -/
theorem seek_free {f : Nat → Slot} {n : Nat} (h : Tab f n) (hl : cnt f 1 n < n) {id : Int} (hr : ∀ i, i < n → (f i).state = 1 → (f i).id ≠ id) : ∃ i, i < n ∧ seek f n id = ((i : Int), false) ∧ (f i).state ≠ 1 ∧ ∀ v, Tab (upd f i ⟨1, id, v⟩) n := by
  have hn : 0 < n := by omega
  rcases seek_spec h hn id with ⟨e, _, he, h3, h1, h2⟩ | ⟨h1, _, _, h4⟩
  · exact absurd h2 (hr _ (pos_lt _ _ hn) h1)
  · have hr1 : seek f n id = ((seek f n id).1, false) := by rw [← h1]
    rcases h4 (by omega) with ⟨_, h5⟩ | ⟨e, _, he, h5, h6, h7⟩
    · have : cnt f 1 n = n := cnt_full fun i hi => by
        obtain ⟨e, he, hp⟩ := pos_all (home_lt id hn) hi
        have := h5 e (Nat.zero_le _) he
        rwa [hp] at this
      omega
    · refine ⟨_, pos_lt _ _ hn, by rw [hr1, h5], h6, fun v => ?_⟩
      obtain ⟨a, ha⟩ : ∃ a, pos n (home n id) e = a := ⟨_, rfl⟩
      rw [ha] at h6 ⊢
      have han : a < n := by rw [← ha]; exact pos_lt _ _ hn
      refine ⟨fun i hi => ?_, fun i j hi hj si sj e => ?_, fun id' d hd s1 s2 d' hd' => ?_⟩
      · by_cases e : i = a
        · subst e; rw [upd_same]; show 1 ≤ 2; decide
        · rw [upd_other _ _ e]; exact h.states i hi
      · by_cases e1 : i = a <;> by_cases e2 : j = a
        · omega
        · subst e1; rw [upd_other _ _ e2] at sj e; rw [upd_same] at e
          exact absurd e.symm (hr j hj sj)
        · subst e2; rw [upd_other _ _ e1] at si e; rw [upd_same] at e
          exact absurd e (hr i hi si)
        · rw [upd_other _ _ e1] at si e; rw [upd_other _ _ e2] at sj e
          exact h.uniq i j hi hj si sj e
      · by_cases e1 : pos n (home n id') d' = a
        · rw [e1, upd_same]; show 1 ≠ 0; decide
        · rw [upd_other _ _ e1]
          by_cases e2 : pos n (home n id') d = a
          · rw [e2, upd_same] at s2
            have s2' : id = id' := s2
            subst s2'
            have hde : d = e := pos_inj (home_lt id hn) hd he (by rw [e2, ha])
            subst hde
            rw [h7 d' (Nat.zero_le _) hd']; decide
          · rw [upd_other _ _ e2] at s1 s2
            exact h.reach id' d hd s1 s2 d' hd'
/-- the number under an id -/
def Under (f : Nat → Slot) (n : Nat) (id v : Int) : Prop := ∃ i, i < n ∧ (f i).state = 1 ∧ (f i).id = id ∧ (f i).v = v

end Go.Proofs.YtpoijhjjbmaedaaGreatDoor.Idx
end

/- Idx3: The contracts of the index: find. -/
section
namespace Go.Proofs.YtpoijhjjbmaedaaGreatDoor.Idx
open Go.RowKit

def slotC (s : Slot) : Array Value := #[.int .u8 s.state, .int .u32 s.id, .int .i64 s.v]
def stepsAt (p : Nat) (w : World) : Nat := match w.cell? ⟨p, 4, none⟩ with
  | some (.int _ s) => s.toNat
  | _ => 0
theorem Rows.cell {w : World} {g n : Nat} {f : Nat → Slot} (h : Rows w g n f) {i : Nat} (hi : i < n) : w.cell? ⟨g, i * 3, none⟩ = some (.int .u8 (f i).state) ∧ w.cell? ⟨g, i * 3 + 1, none⟩ = some (.int .u32 (f i).id) ∧ w.cell? ⟨g, i * 3 + 2, none⟩ = some (.int .i64 (f i).v) := by
  obtain ⟨cur, h1, h2⟩ := h
  have e : ∀ j, w.cell? ⟨g, j, none⟩ = cur[j]? := fun j => by simp [World.cell?, h1]
  obtain ⟨a, b, c⟩ := h2 i hi
  exact ⟨(e _).trans a, (e _).trans b, (e _).trans c⟩
theorem Rows.same {w w' : World} {g n : Nat} {f : Nat → Slot} (h : Rows w g n f) (hk : w'.heap[g]? = w.heap[g]?) : Rows w' g n f := by
  obtain ⟨cur, h1, h2⟩ := h
  exact ⟨cur, hk.trans h1, h2⟩
theorem Rows.lt {w : World} {g n : Nat} {f : Nat → Slot} (h : Rows w g n f) : g < w.heap.size := by
  obtain ⟨cur, h1, _⟩ := h
  exact (Array.getElem?_eq_some_iff.1 h1).1

theorem IdxAt.alloc {w : World} {p g n : Nat} {m l gr s : Int} {f : Nat → Slot} (h : IdxAt w p g n m l gr s f) (o : Obj) : IdxAt (w.alloc o) p g n m l gr s f := ⟨h.own.alloc o, h.rows.same (heap_alloc_old w o h.rows.lt), h.apart⟩
theorem stepsAt_of {w : World} {p g n : Nat} {m l gr s : Int} {f : Nat → Slot} (h : IdxAt w p g n m l gr s f) : stepsAt p w = s.toNat := by
  have h4 : w.cell? ⟨p, 4, none⟩ = some (.int .i64 s) := h.own.cell 4
  simp only [stepsAt, h4]
theorem noGoto_ret {Q : Exit → Act → World → Prop} {a : Act} {w : World} (h : Q .ret a w) : Exit.noGoto Q .ret a w := h
set_option maxRecDepth 100000 in
set_option maxHeartbeats 2000000 in
theorem Find (p g n : Nat) (most len graves steps id : Int) (f : Nat → Slot) (w : World) (h : IdxAt w p g n most len graves steps f) (hn : 1 ≤ n) (hn2 : n ≤ 16384) (hid : 0 ≤ id ∧ id < 4294967296) (hst : ∀ i, i < n → (f i).state ≤ 2) :
    Calls Tryz.prog 128 #[.pointer (some ⟨p, 0, none⟩), .int .u32 id] w fun e w' => e = .returned (.tuple #[.int .i64 (probe f id n n (hsh id % (n : Int)).toNat (-1)).1, .bool (probe f id n n (hsh id % (n : Int)).toNat (-1)).2]) ∧ (∃ s, IdxAt w' p g n most len graves s f) ∧ Tch (· = p) w w' := by
  have x0 : w.cell? ⟨p, 0, none⟩ = some (.slice (some ⟨g, 0, none⟩) n n) := h.own.cell 0
  have x4 : w.cell? ⟨p, 4, none⟩ = some (.int .i64 steps) := h.own.cell 4
  have m4 := h.own.mark 4
  obtain ⟨hr0, hr1⟩ := hsh_range id
  obtain ⟨a0, ha0⟩ : ∃ a0 : Nat, hsh id % (n : Int) = (a0 : Int) := ⟨(hsh id % (n : Int)).toNat, by have := Int.emod_nonneg (hsh id) (show (n : Int) ≠ 0 by omega); omega⟩
  have ha1 : (a0 : Int) < (n : Int) := by rw [← ha0]; exact Int.emod_lt_of_pos _ (by omega)
  rw [ha0, Int.toNat_natCast]
  have HH := Lib.hid h
  have HID := Lib.hid ha0
  have hnz : ¬ (n : Int) = 0 := by omega
  have HSTT := Lib.hid hst
  clear h ha0 hst
  go_enter Tryz.func128, Tryz.ntmps128
  go_wp2_with fail
  refine wp_scope_straight ?_
  go_wp2_with fail
  refine (Hash id _).mono ?_
  rintro e w1 ⟨rfl, hw⟩
  rw [hw]
  clear hw w1
  go_wp2_with fail
  refine wp_label ?_
  go_wp2_with fail
  rw [show wrap64 (hsh id % (n : Int)) = (a0 : Int) from by rw [HID.out]; unfold wrap64; omega]
  have hI0 : IdxAt (w.setCell ⟨p, 4, none⟩ (.int .i64 0)) p g n most len graves ((n : Int) - (n : Int)) f := ⟨by rw [Int.sub_self]; exact HH.out.own.put 4 _, HH.out.rows.same (Below.heap_setCell _ _ _ g (fun e => HH.out.apart e.symm)), HH.out.apart⟩
  have ht0 : Tch (· = p) w (w.setCell ⟨p, 4, none⟩ (.int .i64 0)) := (Tch.refl (· = p) w).put (p := ⟨p, 4, none⟩) (.inl rfl) _
  go_loopw [7, 8] (fun at_ fr wr => ∃ (k a : Nat) (free : Int), k ≤ n ∧ a < n ∧ at_ = .int .i64 a ∧ fr = .int .i64 free ∧ (-1 ≤ free ∧ free < n) ∧ IdxAt wr p g n most len graves ((n : Int) - (k : Int)) f ∧ Tch (· = p) w wr ∧ probe f id n k a free = probe f id n n a0 (-1)) (fun _ _ wr => n - stepsAt p wr)
  case atStart => exact ⟨n, a0, -1, Nat.le_refl _, by omega, rfl, rfl, by omega, hI0, ht0, rfl⟩
  case round =>
    clear hI0 ht0 x0 x4 m4
    obtain ⟨k, a, free, hk, ha, rfl, rfl, hfr, hI, ht, hpr⟩ := hrel
    have x0 : wr.cell? ⟨p, 0, none⟩ = some (.slice (some ⟨g, 0, none⟩) n n) := hI.own.cell 0
    have x4 : wr.cell? ⟨p, 4, none⟩ = some (.int .i64 ((n : Int) - (k : Int))) := hI.own.cell 4
    have m4 := hI.own.mark 4
    have hpl := hI.own.lt
    have hpg : ¬ p = g := hI.apart
    have hgp : ¬ g = p := fun e => hI.apart e.symm
    have hgl := hI.rows.lt
    obtain ⟨z0, z1, z2⟩ := hI.rows.cell ha
    have HI := Lib.hid hI; have HT := Lib.hid ht; have HP := Lib.hid hpr
    clear hI ht hpr
    cases k with
    | zero =>
      go_wp2_with fail
      refine noGoto_ret ?_
      go_ret2
      exact ⟨by rw [← HP.out]; rfl, ⟨_, HI.out⟩, HT.out⟩
    | succ j =>
      have hlt : (n : Int) - ((j + 1 : Nat) : Int) < (n : Int) := by omega
      have ha1 : (a : Int) < (n : Int) := by omega
      have ha0 : (0 : Int) ≤ (a : Int) := by omega
      have hs := HSTT.out a ha
      obtain ⟨st, hst2⟩ : ∃ st, (f a).state = st := ⟨_, rfl⟩
      rw [hst2] at z0 hs
      have HST := Lib.hid hst2
      clear hst2
      obtain ⟨fi, hfi⟩ : ∃ fi, (f a).id = fi := ⟨_, rfl⟩
      obtain ⟨fv, hfv⟩ : ∃ fv, (f a).v = fv := ⟨_, rfl⟩
      rw [hfi] at z1
      rw [hfv] at z2
      have HFI := Lib.hid hfi
      clear hfi hfv
      have hj : ((j + 1 : Nat) : Int) = (j : Int) + 1 := by omega
      rw [hj] at x4 hlt
      clear hj
      obtain ⟨sn, hsn⟩ : ∃ sn : Int, (n : Int) - ((j : Int) + 1) = sn := ⟨_, rfl⟩
      rw [hsn] at x4 hlt
      have hsn0 : 0 ≤ sn ∧ sn ≤ 20000 := by omega
      have HSNN := Lib.hid hsn
      clear hsn
      obtain ⟨hsn1, hsn2⟩ := hsn0
      have hlt3 : a * 3 + 2 < n * 3 := by omega
      have hrg : (wr.setCell ⟨p, 4, none⟩ (.int .i64 (sn + 1))).rangeAt g (a * 3) [.int .u8 st, .int .u32 fi, .int .i64 fv] := fun i u hi => by
        rw [World.cell?_setCell_other _ _ _ _ (by intro e; injection e with e; exact hpg e)]
        rcases (show i = 0 ∨ i = 1 ∨ i = 2 ∨ 3 ≤ i by omega) with rfl | rfl | rfl | h3
        · rw [← hi]; exact z0
        · rw [← hi]; exact z1
        · rw [← hi]; exact z2
        · rw [List.getElem?_eq_none (by simpa using h3)] at hi; cases hi
      clear z0 z1 z2 hlt3
      have hfr0 := hfr.1
      have hfr1 := hfr.2
      have HFR := Lib.hid hfr
      clear hfr
      have hI' : IdxAt (wr.setCell ⟨p, 4, none⟩ (.int .i64 (sn + 1))) p g n most len graves (sn + 1) f := ⟨HI.out.own.put 4 _, HI.out.rows.same (Below.heap_setCell _ _ _ g hgp), HI.out.apart⟩
      have ht' : Tch (· = p) w (wr.setCell ⟨p, 4, none⟩ (.int .i64 (sn + 1))) := HT.out.put (p := ⟨p, 4, none⟩) (.inl rfl) _
      have HI' := Lib.hid hI'
      have HT' := Lib.hid ht'
      clear hI' ht'
      obtain ⟨a1, HA1⟩ : ∃ a1 : Nat, (a + 1) % n = a1 := ⟨_, rfl⟩
      have ha1n : a1 < n := by rw [← HA1]; exact Nat.mod_lt _ (by omega)
      have hrem : ((a : Int) + 1) % (n : Int) = (a1 : Int) := by rw [← HA1]; push_cast; rfl
      have hsnj : (n : Int) - (j : Int) = sn + 1 := by rw [← HSNN.out]; omega
      have HSNJ := Lib.hid hsnj
      clear hsnj
      have HA1' := Lib.hid HA1
      clear HA1
      rcases (show st = 0 ∨ st = 1 ∨ st = 2 by omega) with rfl | rfl | rfl
      · have HRG := Lib.hid hrg
        clear hrg hs
        by_cases hf : free < 0
        · go_wp2_with (refine wpList_load_mid rfl 205 _ rfl g (a * 3) rfl [.int .u8 ((0 : Nat) : Int), .int .u32 fi, .int .i64 fv] _ HRG.out Tryz.underlying205 rfl rfl ?_)
          try refine noGoto_ret ?_
          go_ret2
          exact ⟨by rw [← HP.out, probe_0 HST.out, if_pos hf]; rfl, ⟨_, HI'.out.alloc _⟩, HT'.out.alloc _⟩
        · go_wp2_with (refine wpList_load_mid rfl 205 _ rfl g (a * 3) rfl [.int .u8 ((0 : Nat) : Int), .int .u32 fi, .int .i64 fv] _ HRG.out Tryz.underlying205 rfl rfl ?_)
          try refine noGoto_ret ?_
          go_ret2
          exact ⟨by rw [← HP.out, probe_0 HST.out, if_neg (by omega)]; rfl, ⟨_, HI'.out.alloc _⟩, HT'.out.alloc _⟩
      · have HRG := Lib.hid hrg
        clear hrg hs
        by_cases hid2 : fi = id
        · have hb : (fi == id) = true := by simpa using hid2
          have HID2 := Lib.hid hid2
          clear hid2
          go_wp2_with (refine wpList_load_mid rfl 205 _ rfl g (a * 3) rfl [.int .u8 ((1 : Nat) : Int), .int .u32 fi, .int .i64 fv] _ HRG.out Tryz.underlying205 rfl rfl ?_)
          try refine noGoto_ret ?_
          go_ret2
          exact ⟨by rw [← HP.out, probe_hit HST.out (HFI.out.trans HID2.out)]; rfl, ⟨_, HI'.out.alloc _⟩, HT'.out.alloc _⟩
        · have hb : (fi == id) = false := by simpa using hid2
          have HID2 := Lib.hid hid2
          clear hid2
          go_wp2_with (refine wpList_load_mid rfl 205 _ rfl g (a * 3) rfl [.int .u8 ((1 : Nat) : Int), .int .u32 fi, .int .i64 fv] _ HRG.out Tryz.underlying205 rfl rfl ?_)
          go_roundw
          case rel => exact ⟨j, a1, free, by omega, ha1n, by rw [hrem], by first | rfl | trivial, by omega, by rw [HSNJ.out]; exact HI'.out.alloc _, HT'.out.alloc _, by rw [← HP.out, probe_on HST.out (fun e => HID2.out (HFI.out.symm.trans e)), HA1'.out]⟩
          case measure =>
            have q1 := HSNN.out
            have q2 := HSNJ.out
            rw [stepsAt_of (HI'.out.alloc _), stepsAt_of HI.out]
            omega
      · have HRG := Lib.hid hrg
        clear hrg hs
        by_cases hf : free < 0
        · go_wp2_with (refine wpList_load_mid rfl 205 _ rfl g (a * 3) rfl [.int .u8 ((2 : Nat) : Int), .int .u32 fi, .int .i64 fv] _ HRG.out Tryz.underlying205 rfl rfl ?_)
          go_roundw
          case rel => exact ⟨j, a1, a, by omega, ha1n, by rw [hrem], by first | rfl | trivial, by omega, by rw [HSNJ.out]; exact HI'.out.alloc _, HT'.out.alloc _, by rw [← HP.out, probe_2 HST.out, if_pos hf, HA1'.out]⟩
          case measure =>
            have q1 := HSNN.out
            have q2 := HSNJ.out
            rw [stepsAt_of (HI'.out.alloc _), stepsAt_of HI.out]
            omega
        · go_wp2_with (refine wpList_load_mid rfl 205 _ rfl g (a * 3) rfl [.int .u8 ((2 : Nat) : Int), .int .u32 fi, .int .i64 fv] _ HRG.out Tryz.underlying205 rfl rfl ?_)
          go_roundw
          case rel => exact ⟨j, a1, free, by omega, ha1n, by rw [hrem], by first | rfl | trivial, by omega, by rw [HSNJ.out]; exact HI'.out.alloc _, HT'.out.alloc _, by rw [← HP.out, probe_2 HST.out, if_neg (by omega), HA1'.out]⟩
          case measure =>
            have q1 := HSNN.out
            have q2 := HSNJ.out
            rw [stepsAt_of (HI'.out.alloc _), stepsAt_of HI.out]
            omega

end Go.Proofs.YtpoijhjjbmaedaaGreatDoor.Idx
end

/- Idx4: The contracts of the index: made, Put. -/
section
namespace Go.Proofs.YtpoijhjjbmaedaaGreatDoor.Idx
open Go.RowKit

theorem Rows.there {w : World} {g n : Nat} {f : Nat → Slot} (h : Rows w g n f) {i : Nat} (hi : i < n) : w.there g (i * 3) 3 := by
  obtain ⟨cur, h1, h2⟩ := h
  have c := h2 i hi
  intro j hj
  have e : ∀ k, w.cell? ⟨g, k, none⟩ = cur[k]? := fun k => by simp [World.cell?, h1]
  refine ⟨?_, by simp [World.frozen?, h1]⟩
  rw [e]
  rcases (show j = 0 ∨ j = 1 ∨ j = 2 by omega) with rfl | rfl | rfl
  · rw [Nat.add_zero, c.1]; rfl
  · rw [c.2.1]; rfl
  · rw [c.2.2]; rfl
def slotL (s : Slot) : List Value := [.int .u8 (s.state : Int), .int .u32 s.id, .int .i64 s.v]
theorem Rows.store {w : World} {g n : Nat} {f : Nat → Slot} (h : Rows w g n f) {i : Nat} (hi : i < n) (s : Slot) : Rows (w.setCells g (i * 3) (slotL s)) g n (upd f i s) := by
  obtain ⟨cur, h1, h2⟩ := h
  have hl : (n - 1) * 3 + 2 < cur.size := (Array.getElem?_eq_some_iff.1 (h2 (n - 1) (by omega)).2.2).1
  obtain ⟨cs', r1, r2, r3, r4⟩ := arr_setCells g 205 (slotL s) (i * 3) w cur h1 (by show i * 3 + 3 ≤ cur.size; omega)
  refine ⟨cs', r1, fun j hj => ?_⟩
  by_cases e : j = i
  · subst e
    rw [upd_same]
    have q0 := r3 0 (show 0 < 3 by decide)
    have q1 := r3 1 (show 1 < 3 by decide)
    have q2 := r3 2 (show 2 < 3 by decide)
    exact ⟨q0, q1, q2⟩
  · rw [upd_other f s e]
    have ho : ∀ k, k < 3 → cs'[j * 3 + k]? = cur[j * 3 + k]? := fun k hk => r4 _ (by show j * 3 + k < i * 3 ∨ i * 3 + 3 ≤ j * 3 + k; omega)
    exact ⟨(ho 0 (by omega)).trans (h2 j hj).1, (ho 1 (by omega)).trans (h2 j hj).2.1, (ho 2 (by omega)).trans (h2 j hj).2.2⟩
theorem IdxAt.store {w : World} {p g n : Nat} {m l gr s : Int} {f : Nat → Slot} (h : IdxAt w p g n m l gr s f) {i : Nat} (hi : i < n) (x : Slot) : IdxAt (w.setCells g (i * 3) (slotL x)) p g n m l gr s (upd f i x) :=
  ⟨h.own.grown (only_setCells g (slotL x) (i * 3) w).1 h.apart, h.rows.store hi x, h.apart⟩
/-- an index as the program keeps it -/
structure IdxOk (w : World) (p g n most len graves : Nat) (f : Nat → Slot) : Prop where
  lies : ∃ steps, IdxAt w p g n most len graves steps f
  tab : Tab f n
  full : cnt f 1 n = len
  grv : cnt f 2 n = graves
  room : len ≤ most ∧ 2 * most ≤ n ∧ 1 ≤ most ∧ most ≤ 4096 ∧ n ≤ 16384
theorem cnt_two (f : Nat → Slot) : ∀ n, cnt f 1 n + cnt f 2 n ≤ n
  | 0 => Nat.le_refl _
  | n + 1 => by
    have := cnt_two f n
    rw [cnt, cnt]
    split <;> split <;> omega
theorem IdxOk.same {w w' : World} {p g n most len graves : Nat} {f : Nat → Slot} (h : IdxOk w p g n most len graves f) (hp : w'.heap[p]? = w.heap[p]?) (hg : w'.heap[g]? = w.heap[g]?) : IdxOk w' p g n most len graves f := by
  obtain ⟨s, hs⟩ := h.lies
  exact ⟨⟨s, hp.trans hs.own, hs.rows.same hg, hs.apart⟩, h.tab, h.full, h.grv, h.room⟩
theorem IdxOk.lt {w : World} {p g n most len graves : Nat} {f : Nat → Slot} (h : IdxOk w p g n most len graves f) : p < w.heap.size ∧ g < w.heap.size := by
  obtain ⟨s, hs⟩ := h.lies
  exact ⟨hs.own.lt, hs.rows.lt⟩

set_option maxRecDepth 100000 in
set_option maxHeartbeats 1000000 in
theorem made_in (p g n : Nat) (w : World) (h : w.cell? ⟨p, 0, none⟩ = some (.slice (some ⟨g, 0, none⟩) n n)) : Calls Tryz.prog 123 #[.pointer (some ⟨p, 0, none⟩)] w fun e w' => e = .returned (.bool true) ∧ w' = w := by
  go_enter Tryz.func123, Tryz.ntmps123
  go_wp2_with fail
  go_ret
  exact ⟨rfl, rfl⟩

set_option maxRecDepth 100000 in
set_option maxHeartbeats 2000000 in
theorem Put_there (p g n most len graves : Nat) (id v : Int) (f : Nat → Slot) (w : World) (h : IdxOk w p g n most len graves f) (hid : 0 ≤ id ∧ id < 4294967296) (ht : ∃ i, i < n ∧ (f i).state = 1 ∧ (f i).id = id) :
    Calls Tryz.prog 81 #[.pointer (some ⟨p, 0, none⟩), .int .u32 id, .int .i64 v] w fun e w' => e = .returned (.int .i64 7) ∧ IdxOk w' p g n most len graves f ∧ Tch (· = p) w w' := by
  obtain ⟨steps, hI⟩ := h.lies
  obtain ⟨i, hi, hs, he⟩ := ht
  have hsk : seek f n id = ((i : Int), true) := by rw [← he]; exact seek_there h.tab hi hs
  have x0 : w.cell? ⟨p, 0, none⟩ = some (.slice (some ⟨g, 0, none⟩) n n) := hI.own.cell 0
  have hn := h.room
  have HF := Find p g n most len graves steps id f w hI (by omega) hn.2.2.2.2 hid h.tab.states
  have hF : Calls Tryz.prog 128 #[.pointer (some ⟨p, 0, none⟩), .int .u32 id] w fun e w' => e = .returned (.tuple #[.int .i64 (i : Int), .bool true]) ∧ (∃ s, IdxAt w' p g n most len graves s f) ∧ Tch (· = p) w w' := HF.mono fun e w' h1 => by
    have e1 : probe f id n n (hsh id % (n : Int)).toNat (-1) = ((i : Int), true) := hsk
    rw [e1] at h1
    exact h1
  have HH := Lib.hid h
  have HG := Lib.hid hF
  clear h hF HF hI hsk hs he
  go_enter Tryz.func81, Tryz.ntmps81
  go_wp2_with fail
  refine (made_in p g n w x0).mono ?_
  rintro e w1 ⟨rfl, hw⟩
  rw [hw]
  clear hw w1
  go_wp2_with fail
  refine HG.out.mono ?_
  rintro e w1 ⟨rfl, hI1, hT1⟩
  have HI1 := Lib.hid hI1
  have HT1 := Lib.hid hT1
  clear hI1 hT1
  go_wp2_with fail
  go_ret
  exact ⟨rfl, ⟨HI1.out, HH.out.tab, HH.out.full, HH.out.grv, HH.out.room⟩, HT1.out⟩

set_option maxRecDepth 100000 in
set_option maxHeartbeats 2000000 in
theorem Put_ok (p g n most len graves : Nat) (id v : Int) (f : Nat → Slot) (w : World) (h : IdxOk w p g n most len graves f) (hid : 0 ≤ id ∧ id < 4294967296) (ht : ∀ i, i < n → (f i).state = 1 → (f i).id ≠ id) (hl : len < most) (hg : graves = 0) :
    Calls Tryz.prog 81 #[.pointer (some ⟨p, 0, none⟩), .int .u32 id, .int .i64 v] w fun e w' => e = .returned (.int .i64 0) ∧ (∃ i, i < n ∧ (f i).state ≠ 1 ∧ IdxOk w' p g n most (len + 1) graves (upd f i ⟨1, id, v⟩)) ∧ Tch (fun k => k = p ∨ k = g) w w' := by
  obtain ⟨steps, hI⟩ := h.lies
  have hn := h.room
  obtain ⟨i, hi, hsk, hs1, htab⟩ := seek_free h.tab (by have := h.full; omega) ht
  have hst : (f i).state = 0 := by
    have h2 := h.tab.states i hi
    have h3 : ¬ (f i).state = 2 := fun e => by
      have := cnt_upd f 2 i ⟨0, 0, 0⟩ n hi
      rw [if_pos e, h.grv, hg] at this
      simp at this
    omega
  have x0 : w.cell? ⟨p, 0, none⟩ = some (.slice (some ⟨g, 0, none⟩) n n) := hI.own.cell 0
  have HF := Find p g n most len graves steps id f w hI (by omega) hn.2.2.2.2 hid h.tab.states
  have hF : Calls Tryz.prog 128 #[.pointer (some ⟨p, 0, none⟩), .int .u32 id] w fun e w' => e = .returned (.tuple #[.int .i64 (i : Int), .bool false]) ∧ (∃ s, IdxAt w' p g n most len graves s f) ∧ Tch (· = p) w w' := HF.mono fun e w' h1 => by
    have e1 : probe f id n n (hsh id % (n : Int)).toNat (-1) = ((i : Int), false) := hsk
    rw [e1] at h1
    exact h1
  have HH := Lib.hid h
  have HG := Lib.hid hF
  have HTAB := Lib.hid htab
  have HST := Lib.hid hst
  have hlm : ((len : Int) == (most : Int)) = false := by simp; omega
  have h34 : ¬ (3 * (n : Int) < 4 * ((len : Int) + 1 + 0)) := by omega
  have hn1 : n ≤ 16384 := hn.2.2.2.2
  have hin : (i : Int) < (n : Int) := by omega
  have hlen : len ≤ 4096 := by omega
  have hid0 := hid.1
  have hid1 := hid.2
  clear h hF HF hI hsk hs1 htab hst ht hid hn
  subst hg
  go_enter Tryz.func81, Tryz.ntmps81
  go_wp2_with fail
  refine (made_in p g n w x0).mono ?_
  rintro e w1 ⟨rfl, hw⟩
  rw [hw]
  clear hw w1
  go_wp2_with fail
  refine HG.out.mono ?_
  rintro e w1 ⟨rfl, ⟨s1, hI1⟩, hT1⟩
  have y1 : w1.cell? ⟨p, 1, none⟩ = some (.int .i64 most) := hI1.own.cell 1
  have y2 : w1.cell? ⟨p, 2, none⟩ = some (.int .i64 len) := hI1.own.cell 2
  have HI1 := Lib.hid hI1
  have HT1 := Lib.hid hT1
  clear hI1 hT1
  go_wp2_with fail
  refine wp_region_quiet_lit (by kernel_rfl) (by kernel_rfl) ?_
  repeat (first | go_big_quiet_step ((fail)) | quiet_step ((fail)))
  refine wpQuiet_nil ?_
  intro _ hw'
  obtain ⟨nq, hw''⟩ := hw'
  subst hw''
  clear y1 y2
  have hI2 : IdxAt (w1.drewN nq) p g n most len (0 : Nat) s1 f := ⟨HI1.out.own.drewN nq, HI1.out.rows.same rfl, HI1.out.apart⟩
  have hT2 : Tch (· = p) w (w1.drewN nq) := ⟨HT1.out.os, HT1.out.tape, HT1.out.output, HT1.out.size, HT1.out.block⟩
  obtain ⟨w2, hw2⟩ : ∃ w2, w1.drewN nq = w2 := ⟨_, rfl⟩
  rw [hw2] at hI2 hT2 ⊢
  clear hw2 HI1 HT1
  have y0 : w2.cell? ⟨p, 0, none⟩ = some (.slice (some ⟨g, 0, none⟩) n n) := hI2.own.cell 0
  obtain ⟨z0, _, _⟩ := hI2.rows.cell hi
  rw [HST.out] at z0
  have HTH := Lib.hid (hI2.rows.there hi)
  have HI2 := Lib.hid hI2
  have HT2 := Lib.hid hT2
  clear hI2 hT2
  go_wp2_with (refine wpList_store_mid rfl 205 _ _ rfl g (i * 3) #[.int .u8 1, .int .u32 id, .int .i64 v] rfl rfl HTH.out rfl (by simp [Value.oneCell']) ?_; have hI3 := HI2.out.store hi ⟨1, id, v⟩; have hT3 := (HT2.out.mono (T := fun k => k = p ∨ k = g) fun k _ h => .inl h).grown (only_setCells g (slotL ⟨1, id, v⟩) (i * 3) w2).1 (fun k e => .inl (.inr (by injection e with e; exact e.symm))); obtain ⟨w3, hw3⟩ : ∃ w3, w2.setCells g (i * 3) [.int .u8 1, .int .u32 id, .int .i64 v] = w3 := ⟨_, rfl⟩; change IdxAt (w2.setCells g (i * 3) [.int .u8 1, .int .u32 id, .int .i64 v]) _ _ _ _ _ _ _ _ at hI3; change Tch _ w (w2.setCells g (i * 3) [.int .u8 1, .int .u32 id, .int .i64 v]) at hT3; change wpList _ _ _ _ _ (w2.setCells g (i * 3) [.int .u8 1, .int .u32 id, .int .i64 v]); rw [hw3] at hI3 hT3 ⊢; clear hw3 y0 z0 HTH; have v0 : w3.cell? ⟨p, 0, none⟩ = some (.slice (some ⟨g, 0, none⟩) n n) := hI3.own.cell 0; have v2 : w3.cell? ⟨p, 2, none⟩ = some (.int .i64 len) := hI3.own.cell 2; have v3 : w3.cell? ⟨p, 3, none⟩ = some (.int .i64 ((0 : Nat) : Int)) := hI3.own.cell 3; have m2 := hI3.own.mark 2; have hpl := hI3.own.lt; have HI3 := Lib.hid hI3; have HT3 := Lib.hid hT3; clear hI3 hT3)
  refine wp_region_quiet_lit (by kernel_rfl) (by kernel_rfl) ?_
  repeat (first | go_big_quiet_step ((fail)) | quiet_step ((fail)))
  refine wpQuiet_nil ?_
  intro _ hw'
  obtain ⟨nq, hw''⟩ := hw'
  subst hw''
  go_wp2_with fail
  go_ret
  have hI3 := HI3.out
  have q1 := cnt_upd f 1 i ⟨1, id, v⟩ n hi
  have q2 := cnt_upd f 2 i ⟨1, id, v⟩ n hi
  rw [HST.out] at q1 q2
  have r1 := HH.out.full
  have r2 := HH.out.grv
  refine ⟨rfl, ⟨i, hi, by rw [HST.out]; decide, ⟨⟨s1, ?_, hI3.rows.same (Below.heap_setCell w3 ⟨p, 2, none⟩ _ g (fun e => hI3.apart e.symm)), hI3.apart⟩, HTAB.out v, by simp at q1; omega, by simp at q2; omega, by have := HH.out.room; omega⟩⟩, ?_⟩
  · have := (hI3.own.put 2 (.int .i64 ((len : Int) + 1))).drewN nq
    push_cast
    exact this
  · have := HT3.out.put (p := ⟨p, 2, none⟩) (.inl (.inl rfl)) (.int .i64 ((len : Int) + 1))
    exact ⟨this.os, this.tape, this.output, this.size, this.block⟩

end Go.Proofs.YtpoijhjjbmaedaaGreatDoor.Idx
end
