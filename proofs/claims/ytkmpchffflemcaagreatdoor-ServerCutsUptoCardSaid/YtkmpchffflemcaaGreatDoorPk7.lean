/- Packed: PlainB, HeapA, HeapB, IdxA. -/
import Derived.Test.YtkmpchffflemcaaGreatDoorPk1
import Derived.WalkKit
import Derived.Test.YtkmpchffflemcaaGreatDoorChecked
import Derived.StillTailTactics
import Derived.Test.YtkmpchffflemcaaGreatDoorProg
import Derived.Laws.Bits64b
import Derived.WalkSmall
import Derived.IntWalk
import Derived.Laws.OwnMore
import Derived.OwnWalk
import Derived.Scope
import Derived.Deep.MidRow
set_option linter.unusedVariables false
set_option linter.unusedSimpArgs false
/- Packed: HeapPlain GeoPlain -/
section
set_option linter.unusedVariables false
set_option linter.unusedSimpArgs false
/- HeapPlain: A binary heap in plain Lean, as the program settles it. No program in sight. -/
section
namespace Go.Proofs.YtkmpchffflemcaaGreatDoor.Hp
open Go.RowKit

structure Due where
  til : Int
  id : Int
  handle : Int
def lessD (x y : Due) : Bool := decide (x.til < y.til) || (x.til == y.til && decide (x.id < y.id))
def aheadD (f : Nat → Due) (i k : Nat) : Bool := lessD (f i) (f k) || (!lessD (f k) (f i) && decide ((f i).handle < (f k).handle))
def swapD (f : Nat → Due) (i k : Nat) : Nat → Due := fun j => if j = i then f k else if j = k then f i else f j
def up : Nat → (Nat → Due) → Nat → (Nat → Due) × Nat
  | 0, f, at_ => (f, at_)
  | k + 1, f, at_ => if 0 < at_ ∧ aheadD f at_ ((at_ - 1) / 2) = true then up k (swapD f at_ ((at_ - 1) / 2)) ((at_ - 1) / 2) else (f, at_)
/-- the least of a place and of the first r places below it -/
def pk (f : Nat → Due) (l at_ : Nat) : Nat → Nat
  | 0 => at_
  | r + 1 => if 2 * at_ + 1 + r < l ∧ aheadD f (2 * at_ + 1 + r) (pk f l at_ r) = true then 2 * at_ + 1 + r else pk f l at_ r
def pick (f : Nat → Due) (l at_ : Nat) : Nat := pk f l at_ 2
theorem pk_lt {f : Nat → Due} {l at_ : Nat} (h : at_ < l) : ∀ r, pk f l at_ r < l
  | 0 => h
  | r + 1 => by
    rw [pk]
    split
    · rename_i h1; exact h1.1
    · exact pk_lt h r
theorem pk_ge {f : Nat → Due} {l at_ : Nat} : ∀ r, pk f l at_ r = at_ ∨ at_ < pk f l at_ r
  | 0 => .inl rfl
  | r + 1 => by
    rw [pk]
    split
    · right; omega
    · exact pk_ge r
theorem pk_stop {f : Nat → Due} {l at_ r : Nat} (h : l ≤ 2 * at_ + 1 + r) : ∀ j, pk f l at_ (r + j) = pk f l at_ r
  | 0 => rfl
  | j + 1 => by
    rw [← Nat.add_assoc, pk, if_neg (by omega), pk_stop h j]
theorem pk_yes {f : Nat → Due} {l at_ r : Nat} (h : 2 * at_ + 1 + r < l) (ha : aheadD f (2 * at_ + 1 + r) (pk f l at_ r) = true) : pk f l at_ (r + 1) = 2 * at_ + 1 + r := by rw [pk, if_pos ⟨h, ha⟩]
theorem pk_no {f : Nat → Due} {l at_ r : Nat} (ha : aheadD f (2 * at_ + 1 + r) (pk f l at_ r) = false) : pk f l at_ (r + 1) = pk f l at_ r := by rw [pk, if_neg (by rw [ha]; simp)]
def down (l : Nat) : Nat → (Nat → Due) → Nat → (Nat → Due)
  | 0, f, _ => f
  | k + 1, f, at_ => if pick f l at_ = at_ then f else down l k (swapD f at_ (pick f l at_)) (pick f l at_)
theorem up_stop {k at_ : Nat} {f : Nat → Due} (h : at_ = 0 ∨ aheadD f at_ ((at_ - 1) / 2) = false) : up k f at_ = (f, at_) := by
  cases k with
  | zero => rfl
  | succ k =>
    rw [up, if_neg]
    rintro ⟨h1, h2⟩
    rcases h with h | h
    · omega
    · rw [h] at h2; cases h2
theorem up_step {k at_ : Nat} {f : Nat → Due} (h : 0 < at_) (h2 : aheadD f at_ ((at_ - 1) / 2) = true) : up (k + 1) f at_ = up k (swapD f at_ ((at_ - 1) / 2)) ((at_ - 1) / 2) := by rw [up, if_pos ⟨h, h2⟩]
theorem down_stop {l k at_ : Nat} {f : Nat → Due} (h : pick f l at_ = at_) : down l k f at_ = f := by
  cases k with
  | zero => rfl
  | succ k => rw [down, if_pos h]
theorem down_step {l k at_ : Nat} {f : Nat → Due} (h : ¬ pick f l at_ = at_) : down l (k + 1) f at_ = down l k (swapD f at_ (pick f l at_)) (pick f l at_) := by rw [down, if_neg h]
def settleD (f : Nat → Due) (l at_ : Nat) : Nat → Due := down l l (up at_ f at_).1 (up at_ f at_).2
/-- each handle's item lies where the map of places says -/
def Placed (f : Nat → Due) (l : Nat) (φ : Int → Option Int) : Prop := (∀ i, i < l → φ (f i).handle = some (i : Int)) ∧ ∀ h i, φ h = some i → ∃ j : Nat, j < l ∧ i = (j : Int) ∧ (f j).handle = h

end Go.Proofs.YtkmpchffflemcaaGreatDoor.Hp
end

/- GeoPlain: The plain arithmetic of the geometry layer: when a shape may be, when a size may be, how many pieces hold so many bytes. No program in sight. -/
section
namespace Go.Proofs.YtkmpchffflemcaaGreatDoor.Geo
open Go.RowKit

/-- may a shape be? -/
def okS (a b c : Int) : Bool := decide (1 ≤ a ∧ a ≤ 1024 ∧ 1 ≤ b ∧ b ≤ 4096 ∧ 1 ≤ c ∧ c ≤ 64)

theorem okS_yes {a b c : Int} (h : okS a b c = true) : 1 ≤ a ∧ a ≤ 1024 ∧ 1 ≤ b ∧ b ≤ 4096 ∧ 1 ≤ c ∧ c ≤ 64 := by
  simpa [okS] using h
/-- may a sector have so many bytes? -/
def okZ (n : Int) : Bool := n == 64 || n == 128 || n == 256 || n == 512 || n == 1024 || n == 2048 || n == 4096

theorem okZ_iff {n : Int} : okZ n = true ↔ (n = 64 ∨ n = 128 ∨ n = 256 ∨ n = 512 ∨ n = 1024 ∨ n = 2048 ∨ n = 4096) := by
  simp [okZ, or_assoc]

theorem okZ_no_lo {n : Int} (h : n < 64) : okZ n = false := by
  rw [Bool.eq_false_iff, Ne, okZ_iff]; omega
theorem okZ_no_hi {n : Int} (h : 4096 < n) : okZ n = false := by
  rw [Bool.eq_false_iff, Ne, okZ_iff]; omega

theorem bits_all : ∀ k : Fin 64, ∀ j : Fin 65, (bits BinOp.and IntKind.i64 (((k.val * 64 + j.val : Nat) : Int) + 64) (((k.val * 64 + j.val : Nat) : Int) + 64 - 1) == 0) = okZ (((k.val * 64 + j.val : Nat) : Int) + 64) := by
  decide +kernel

theorem bits_okZ {n : Int} (h1 : 64 ≤ n) (h2 : n ≤ 4096) : (bits BinOp.and IntKind.i64 n (n - 1) == 0) = okZ n := by
  have h := bits_all ⟨min 63 ((n - 64).toNat / 64), by omega⟩ ⟨(n - 64).toNat - min 63 ((n - 64).toNat / 64) * 64, by omega⟩
  simp only [show ((min 63 ((n - 64).toNat / 64) * 64 + ((n - 64).toNat - min 63 ((n - 64).toNat / 64) * 64) : Nat) : Int) + 64 = n from by omega] at h
  exact h

/-- how many pieces of m hold n -/
def up (n m : Int) : Int := (n + m - 1) / m

theorem lt_up {k n m : Int} (hm : 1 ≤ m) : k < up n m ↔ k * m < n := by
  unfold up
  rw [Int.lt_iff_add_one_le, Int.le_ediv_iff_mul_le (by omega), Int.add_mul]
  omega
theorem up_le {k n m : Int} (hm : 1 ≤ m) : up n m ≤ k ↔ n ≤ k * m := by
  have := @lt_up k n m hm
  omega
theorem up_pos {n m : Int} (hn : 1 ≤ n) (hm : 1 ≤ m) : 1 ≤ up n m := by
  have := (@lt_up 0 n m hm).2 (by omega)
  omega
theorem up_hi {n m : Int} (hn : 0 ≤ n) (hm : 1 ≤ m) : up n m ≤ n := by
  rw [up_le hm]
  have := Int.mul_le_mul_of_nonneg_left hm hn
  omega
/-- an image's most bytes -/
def image (a b : Int) : Int := 20 + 14 * min a b
theorem image_lo {a b : Int} (h : 1 ≤ a) (h' : 1 ≤ b) : 34 ≤ image a b := by unfold image; omega
theorem image_hi {a b : Int} (h : a ≤ 1024) : image a b ≤ 14356 := by unfold image; omega

/-- a slot's sectors -/
def slot (a b m : Int) : Int := 1 + up (image a b) m

/-- the sectors that are needed -/
def need (a b m : Int) : Int := 2 * slot a b m + up 54 m

structure Okay (a b c m : Int) : Prop where
  a1 : 1 ≤ a
  a2 : a ≤ 1024
  b1 : 1 ≤ b
  b2 : b ≤ 4096
  c1 : 1 ≤ c
  c2 : c ≤ 64
  m1 : 64 ≤ m
  m2 : m ≤ 4096
  i1 : 34 ≤ image a b
  i2 : image a b ≤ 14356
  s1 : 2 ≤ slot a b m
  s2 : slot a b m ≤ 14357
  u1 : 1 ≤ up 54 m
  u2 : up 54 m ≤ 54
theorem okay {a b c m : Int} (hs : okS a b c = true) (hz : okZ m = true) : Okay a b c m := by
  obtain ⟨h1, h2, h3, h4, h5, h6⟩ := okS_yes hs
  have hm := okZ_iff.1 hz
  have hi := image_lo h1 h3
  have hj := @image_hi a b h2
  have hu := @up_pos (image a b) m (by omega) (by omega)
  have hv := @up_hi (image a b) m (by omega) (by omega)
  have hw := @up_pos 54 m (by omega) (by omega)
  have hx := @up_hi 54 m (by omega) (by omega)
  exact ⟨h1, h2, h3, h4, h5, h6, by omega, by omega, hi, hj, by unfold slot; omega, by unfold slot; omega, hw, hx⟩

/-- may a disk have so many sectors of that size? -/
def okD (n m : Int) : Bool := decide (1 ≤ n) && (decide (n ≤ 65536) && (okZ m && decide (n * m ≤ 67108864)))

end Go.Proofs.YtkmpchffflemcaaGreatDoor.Geo
end
end

/- Packed: Heap Heap2 -/
section
set_option linter.unusedVariables false
set_option linter.unusedSimpArgs false
/- Heap: The heap of what is due: the order, ahead, swap. -/
section
namespace Go.Proofs.YtkmpchffflemcaaGreatDoor.Hp
open Go.RowKit

def lessV : Value := .func (.func 88) #[] #[]
def itemL (f : Nat → Due) (i : Nat) : List Value := [.int .i64 (f i).til, .int .u32 (f i).id, .int .i64 (f i).handle]
theorem itemL_len (f : Nat → Due) (i : Nat) : (itemL f i).length = 3 := rfl

set_option maxRecDepth 100000 in
set_option maxHeartbeats 1000000 in
theorem Less_in (a b c d : Int) (w : World) : Calls Tryz.prog 88 #[.agg #[.int .i64 a, .int .u32 b], .agg #[.int .i64 c, .int .u32 d]] w fun e w' => e = .returned (.bool (decide (a < c) || (a == c && decide (b < d)))) ∧ Below w.heap.size w w' := by
  have hb : Below w.heap.size w ((w.alloc (.cells #[.int .i64 a, .int .u32 b] 202)).alloc (.cells #[.int .i64 c, .int .u32 d] 202)) := ext_alloc (ext_alloc (Below.refl _ _) _) _
  have HB := Lib.hid hb
  clear hb
  by_cases h1 : a < c
  · have q1 : decide (a < c) = true := decide_eq_true h1
    go_enter Tryz.func88, Tryz.ntmps88
    go_wp2_with fail
    go_ret
    exact ⟨by simp [h1], HB.out⟩
  · have q1 : decide (a < c) = false := decide_eq_false h1
    by_cases h2 : a = c
    · have q2 : (a == c) = true := by simpa using h2
      by_cases h3 : b < d
      · have q3 : decide (b < d) = true := decide_eq_true h3
        have H := Lib.hid (And.intro h1 (And.intro h2 h3))
        clear h1 h2 h3
        go_enter Tryz.func88, Tryz.ntmps88
        go_wp2_with fail
        go_ret
        exact ⟨by simp [H.out.2.1, H.out.2.2], HB.out⟩
      · have q3 : decide (b < d) = false := decide_eq_false h3
        have H := Lib.hid (And.intro h1 (And.intro h2 h3))
        clear h1 h2 h3
        go_enter Tryz.func88, Tryz.ntmps88
        go_wp2_with fail
        go_ret
        exact ⟨by simp [q1, q2, q3], HB.out⟩
    · have q2 : (a == c) = false := by simpa using h2
      have H := Lib.hid (And.intro h1 h2)
      clear h1 h2
      go_enter Tryz.func88, Tryz.ntmps88
      go_wp2_with fail
      go_ret
      exact ⟨by simp [q1, q2], HB.out⟩

end Go.Proofs.YtkmpchffflemcaaGreatDoor.Hp
end

/- Heap2: The heap of what is due: ahead. -/
section
namespace Go.Proofs.YtkmpchffflemcaaGreatDoor.Hp
open Go.RowKit

set_option maxRecDepth 100000 in
set_option maxHeartbeats 2000000 in
theorem ahead_raw (p g cap l i k : Nat) (a1 a2 a3 b1 b2 b3 : Int) (w : World) (x0 : w.cell? ⟨p, 0, none⟩ = some lessV) (x1 : w.cell? ⟨p, 1, none⟩ = some (.slice (some ⟨g, 0, none⟩) l cap))
    (y1 : w.cell? ⟨g, i * 3, none⟩ = some (.int .i64 a1)) (y2 : w.cell? ⟨g, i * 3 + 1, none⟩ = some (.int .u32 a2)) (y3 : w.cell? ⟨g, i * 3 + 2, none⟩ = some (.int .i64 a3))
    (z1 : w.cell? ⟨g, k * 3, none⟩ = some (.int .i64 b1)) (z2 : w.cell? ⟨g, k * 3 + 1, none⟩ = some (.int .u32 b2)) (z3 : w.cell? ⟨g, k * 3 + 2, none⟩ = some (.int .i64 b3)) (hi : i < l) (hk : k < l) (hl : l ≤ 70000) (hcap : cap ≤ maxLen) (hpl : p < w.heap.size) (hgl : g < w.heap.size) :
    Calls Tryz.prog 282 #[.pointer (some ⟨p, 0, none⟩), .int .i64 i, .int .i64 k] w fun e w' => e = .returned (.bool (lessD ⟨a1, a2, a3⟩ ⟨b1, b2, b3⟩ || (!lessD ⟨b1, b2, b3⟩ ⟨a1, a2, a3⟩ && decide (a3 < b3)))) ∧ Below w.heap.size w w' := by
  have HCS : ∀ w', Below w.heap.size w w' → (w'.cell? ⟨p, 1, none⟩ = some (.slice (some ⟨g, 0, none⟩) l cap) ∧ w'.cell? ⟨g, i * 3, none⟩ = some (.int .i64 a1) ∧ w'.cell? ⟨g, i * 3 + 1, none⟩ = some (.int .u32 a2) ∧ w'.cell? ⟨g, i * 3 + 2, none⟩ = some (.int .i64 a3) ∧ w'.cell? ⟨g, k * 3, none⟩ = some (.int .i64 b1) ∧ w'.cell? ⟨g, k * 3 + 1, none⟩ = some (.int .u32 b2) ∧ w'.cell? ⟨g, k * 3 + 2, none⟩ = some (.int .i64 b3) ∧ Below w.heap.size w w') := fun w' hb =>
    ⟨(hb.cell (p := ⟨p, 1, none⟩) hpl).trans x1, (hb.cell (p := ⟨g, i * 3, none⟩) hgl).trans y1, (hb.cell (p := ⟨g, i * 3 + 1, none⟩) hgl).trans y2, (hb.cell (p := ⟨g, i * 3 + 2, none⟩) hgl).trans y3, (hb.cell (p := ⟨g, k * 3, none⟩) hgl).trans z1, (hb.cell (p := ⟨g, k * 3 + 1, none⟩) hgl).trans z2, (hb.cell (p := ⟨g, k * 3 + 2, none⟩) hgl).trans z3, hb⟩
  have hi1 : (i : Int) < (l : Int) := by omega
  have hk1 : (k : Int) < (l : Int) := by omega
  have hi0 : (0 : Int) ≤ (i : Int) := by omega
  have hk0 : (0 : Int) ≤ (k : Int) := by omega
  have HL1 : ∀ v, lessD ⟨a1, a2, a3⟩ ⟨b1, b2, b3⟩ = v → ∀ W, Calls Tryz.prog 88 #[.agg #[.int .i64 a1, .int .u32 a2], .agg #[.int .i64 b1, .int .u32 b2]] W fun e w' => e = .returned (.bool v) ∧ Below W.heap.size W w' := fun v hv W => hv ▸ Less_in a1 a2 b1 b2 W
  have HL2 : ∀ v, lessD ⟨b1, b2, b3⟩ ⟨a1, a2, a3⟩ = v → ∀ W, Calls Tryz.prog 88 #[.agg #[.int .i64 b1, .int .u32 b2], .agg #[.int .i64 a1, .int .u32 a2]] W fun e w' => e = .returned (.bool v) ∧ Below W.heap.size W w' := fun v hv W => hv ▸ Less_in b1 b2 a1 a2 W
  have HL1 := Lib.hid HL1
  have HL2 := Lib.hid HL2
  have HX0 := Lib.hid x0
  clear x0 y1 y2 y3 z1 z2 z3 x1 hi hk
  rw [show lessV = .func (.func 88) #[] #[] from rfl] at HX0
  go_enter Tryz.func282, Tryz.ntmps282
  go_wp2_with fail
  refine wp_region_held_drew (S := (fun w' => w'.cell? ⟨p, 1, none⟩ = some (.slice (some ⟨g, 0, none⟩) l cap) ∧ w'.cell? ⟨g, i * 3, none⟩ = some (.int .i64 a1) ∧ w'.cell? ⟨g, i * 3 + 1, none⟩ = some (.int .u32 a2) ∧ w'.cell? ⟨g, i * 3 + 2, none⟩ = some (.int .i64 a3) ∧ w'.cell? ⟨g, k * 3, none⟩ = some (.int .i64 b1) ∧ w'.cell? ⟨g, k * 3 + 1, none⟩ = some (.int .u32 b2) ∧ w'.cell? ⟨g, k * 3 + 2, none⟩ = some (.int .i64 b3) ∧ Below w.heap.size w w')) (by kernel_rfl) (by exact HCS _ (ext_drew (Below.refl _ _))) (fun hHeld => ?_)
  refine tky 0 (some 9) (by assumption) ?_
  try simp only [Act.put, List.setIfInBounds_toArray, List.set_cons_zero, List.set_cons_succ]
  refine tky 1 (some 10) (by assumption) ?_
  try simp only [Act.put, List.setIfInBounds_toArray, List.set_cons_zero, List.set_cons_succ]
  refine tky 2 (some 11) (by assumption) ?_
  try simp only [Act.put, List.setIfInBounds_toArray, List.set_cons_zero, List.set_cons_succ]
  refine tky 3 (some 12) (by assumption) ?_
  try simp only [Act.put, List.setIfInBounds_toArray, List.set_cons_zero, List.set_cons_succ]
  refine tky 4 (some 13) (by assumption) ?_
  try simp only [Act.put, List.setIfInBounds_toArray, List.set_cons_zero, List.set_cons_succ]
  refine tky 5 (some 14) (by assumption) ?_
  try simp only [Act.put, List.setIfInBounds_toArray, List.set_cons_zero, List.set_cons_succ]
  refine tky 6 (some 15) (by assumption) ?_
  try simp only [Act.put, List.setIfInBounds_toArray, List.set_cons_zero, List.set_cons_succ]
  refine tky 7 (some 16) (by assumption) ?_
  try simp only [Act.put, List.setIfInBounds_toArray, List.set_cons_zero, List.set_cons_succ]
  refine tky 8 (some 17) (by assumption) ?_
  try simp only [Act.put, List.setIfInBounds_toArray, List.set_cons_zero, List.set_cons_succ]
  refine tky 9 (some 18) (by assumption) ?_
  try simp only [Act.put, List.setIfInBounds_toArray, List.set_cons_zero, List.set_cons_succ]
  refine tky 10 (some 19) (by assumption) ?_
  try simp only [Act.put, List.setIfInBounds_toArray, List.set_cons_zero, List.set_cons_succ]
  refine tky 11 (some 20) (by assumption) ?_
  try simp only [Act.put, List.setIfInBounds_toArray, List.set_cons_zero, List.set_cons_succ]
  refine tky 12 (some 21) (by assumption) ?_
  try simp only [Act.put, List.setIfInBounds_toArray, List.set_cons_zero, List.set_cons_succ]
  refine tky 13 (some 22) (by assumption) ?_
  try simp only [Act.put, List.setIfInBounds_toArray, List.set_cons_zero, List.set_cons_succ]
  refine wpAnyH_ready (rs := [14, 15]) (by kernel_rfl) (by simp) ?_
  refine AllReadyH.cons rfl (fun K hK => ?_) (AllReadyH.cons rfl (fun K hK => ?_) AllReadyH.nil)
  · go_simp
    go_wp2_with fail
    refine hK.out _ _ (by first | exact HCS _ (ext_alloc (ext_alloc (ext_drew (Below.refl _ _)) _) _) | exact HCS _ (ext_alloc (ext_drew (Below.refl _ _)) _)) (fun hHeld14 => ?_)
    clear hK K
    try simp only [Act.put, List.setIfInBounds_toArray, List.set_cons_zero, List.set_cons_succ]
    refine wpAnyH_ready (rs := [15]) (by kernel_rfl) (by simp) ?_
    refine AllReadyH.cons rfl (fun K hK => ?_) AllReadyH.nil
    go_simp
    go_wp2_with fail
    refine hK.out _ _ (by first | exact HCS _ (ext_alloc (ext_alloc (ext_drew (Below.refl _ _)) _) _) | exact HCS _ (ext_alloc (ext_drew (Below.refl _ _)) _)) (fun hHeld15 => ?_)
    clear hK K
    try simp only [Act.put, List.setIfInBounds_toArray, List.set_cons_zero, List.set_cons_succ]
    refine wpAnyH_ready (rs := [16]) (by kernel_rfl) (by simp) ?_
    refine AllReadyH.cons rfl (fun K hK => ?_) AllReadyH.nil
    go_simp
    go_wp2_with fail
    refine hK.out _ _ (by first | exact HCS _ (ext_alloc (ext_alloc (ext_drew (Below.refl _ _)) _) _) | exact HCS _ (ext_alloc (ext_drew (Below.refl _ _)) _)) (fun hHeld16 => ?_)
    clear hK K
    try simp only [Act.put, List.setIfInBounds_toArray, List.set_cons_zero, List.set_cons_succ]
    refine wpAnyH_ready (rs := [17]) (by kernel_rfl) (by simp) ?_
    refine AllReadyH.cons rfl (fun K hK => ?_) AllReadyH.nil
    go_simp
    go_wp2_with fail
    refine hK.out _ _ (by first | exact HCS _ (ext_alloc (ext_alloc (ext_drew (Below.refl _ _)) _) _) | exact HCS _ (ext_alloc (ext_drew (Below.refl _ _)) _)) (fun hHeld17 => ?_)
    clear hK K
    try simp only [Act.put, List.setIfInBounds_toArray, List.set_cons_zero, List.set_cons_succ]
    refine wpAnyH_done (by kernel_rfl) ?_ _
    go_wp2_with fail
    have hA1 : Arr (((w.alloc (.cells #[.int .i64 a1, .int .u32 a2, .int .i64 a3] 426)).alloc (.cells #[.int .i64 b1, .int .u32 b2, .int .i64 b3] 426)).drew) w.heap.size 426 #[.int .i64 a1, .int .u32 a2, .int .i64 a3] := (Arr.alloc (Arr.fresh w _ _) _).drew
    have hA2 : Arr (((w.alloc (.cells #[.int .i64 a1, .int .u32 a2, .int .i64 a3] 426)).alloc (.cells #[.int .i64 b1, .int .u32 b2, .int .i64 b3] 426)).drew) (w.heap.size + 1) 426 #[.int .i64 b1, .int .u32 b2, .int .i64 b3] := (Arr.new (by simp)).drew
    have hB2 : Below w.heap.size w (((w.alloc (.cells #[.int .i64 a1, .int .u32 a2, .int .i64 a3] 426)).alloc (.cells #[.int .i64 b1, .int .u32 b2, .int .i64 b3] 426)).drew) := ext_drew (ext_alloc (ext_alloc (Below.refl _ _) _) _)
    obtain ⟨w2, hw2⟩ : ∃ w2, ((w.alloc (.cells #[.int .i64 a1, .int .u32 a2, .int .i64 a3] 426)).alloc (.cells #[.int .i64 b1, .int .u32 b2, .int .i64 b3] 426)).drew = w2 := ⟨_, rfl⟩
    rw [hw2] at hA1 hA2 hB2 ⊢
    clear hw2
    obtain ⟨q7, hq1⟩ : ∃ q, w.heap.size = q := ⟨_, rfl⟩
    obtain ⟨q8, hq2⟩ : ∃ q, w.heap.size + 1 = q := ⟨_, rfl⟩
    have HB2 := Lib.hid hB2
    clear hB2
    rw [hq1] at hA1
    rw [hq2] at hA2
    have hp2 := HB2.out.cell (p := ⟨p, 0, none⟩) hpl
    have HCS2 : ∀ w', Below w2.heap.size w2 w' → (w'.cell? ⟨p, 0, none⟩ = some (.func (.func 88) #[] #[]) ∧ w'.cell? ⟨q7, 0, none⟩ = some (.int .i64 a1) ∧ w'.cell? ⟨q7, 1, none⟩ = some (.int .u32 a2) ∧ w'.cell? ⟨q7, 2, none⟩ = some (.int .i64 a3) ∧ w'.cell? ⟨q8, 0, none⟩ = some (.int .i64 b1) ∧ w'.cell? ⟨q8, 1, none⟩ = some (.int .u32 b2) ∧ w'.cell? ⟨q8, 2, none⟩ = some (.int .i64 b3) ∧ Below w2.heap.size w2 w') := fun w' hb =>
      ⟨(hb.cell (p := ⟨p, 0, none⟩) (Nat.lt_of_lt_of_le hpl HB2.out.size)).trans (hp2.trans HX0.out), (hA1.keep hb).cell 0, (hA1.keep hb).cell 1, (hA1.keep hb).cell 2, (hA2.keep hb).cell 0, (hA2.keep hb).cell 1, (hA2.keep hb).cell 2, hb⟩
    have HCS2 := Lib.hid HCS2
    simp only [hq2]
    simp only [hq1]
    clear hp2 hA1 hA2 hq1 hq2
    have HW := Lib.hid HCS
    clear HCS hHeld17
    obtain ⟨k0, k1, k2, k3, k4, k5, k6, _⟩ := HCS2.out _ (Below.refl _ _)
    cases h1 : lessD ⟨a1, a2, a3⟩ ⟨b1, b2, b3⟩
    case true =>
          go_still_tail 8, (by kernel_rfl)
          change wpList _ _ _ _ _ w2.drew
          obtain ⟨w3, hw3⟩ : ∃ w3, w2.drew = w3 := ⟨_, rfl⟩
          have hb3 : Below w2.heap.size w2 w3 := by rw [← hw3]; exact ext_drew (Below.refl _ _)
          rw [hw3]
          clear hw3
          go_wp2_with fail
          refine (HL1.out true h1 _).mono ?_
          rintro e w4 ⟨rfl, hb4⟩
          have hb4' := ext_trans hb3 hb4
          obtain ⟨k0, k1, k2, k3, k4, k5, k6, _⟩ := HCS2.out _ hb4'
          go_wp2_with fail
          go_ret
          exact ⟨by rw [h1]; rfl, ext_trans HB2.out (hb4')⟩
    case false =>
      cases h2 : lessD ⟨b1, b2, b3⟩ ⟨a1, a2, a3⟩
      case true =>
          go_still_tail 8, (by kernel_rfl)
          change wpList _ _ _ _ _ w2.drew
          obtain ⟨w3, hw3⟩ : ∃ w3, w2.drew = w3 := ⟨_, rfl⟩
          have hb3 : Below w2.heap.size w2 w3 := by rw [← hw3]; exact ext_drew (Below.refl _ _)
          rw [hw3]
          clear hw3
          go_wp2_with fail
          refine (HL1.out false h1 _).mono ?_
          rintro e w4 ⟨rfl, hb4⟩
          have hb4' := ext_trans hb3 hb4
          obtain ⟨k0, k1, k2, k3, k4, k5, k6, _⟩ := HCS2.out _ hb4'
          go_wp2_with fail
          refine wp_region_held_drew (S := (fun w' => w'.cell? ⟨p, 0, none⟩ = some (.func (.func 88) #[] #[]) ∧ w'.cell? ⟨q7, 0, none⟩ = some (.int .i64 a1) ∧ w'.cell? ⟨q7, 1, none⟩ = some (.int .u32 a2) ∧ w'.cell? ⟨q7, 2, none⟩ = some (.int .i64 a3) ∧ w'.cell? ⟨q8, 0, none⟩ = some (.int .i64 b1) ∧ w'.cell? ⟨q8, 1, none⟩ = some (.int .u32 b2) ∧ w'.cell? ⟨q8, 2, none⟩ = some (.int .i64 b3) ∧ Below w2.heap.size w2 w')) (by kernel_rfl) (by exact HCS2.out _ (ext_drew hb4')) (fun hHeld => ?_)
          refine tky 0 (some 32) (by assumption) ?_
          try simp only [Act.put, List.setIfInBounds_toArray, List.set_cons_zero, List.set_cons_succ]
          refine tky 1 (some 33) (by assumption) ?_
          try simp only [Act.put, List.setIfInBounds_toArray, List.set_cons_zero, List.set_cons_succ]
          refine tky 2 (some 34) (by assumption) ?_
          try simp only [Act.put, List.setIfInBounds_toArray, List.set_cons_zero, List.set_cons_succ]
          refine tky 3 (some 35) (by assumption) ?_
          try simp only [Act.put, List.setIfInBounds_toArray, List.set_cons_zero, List.set_cons_succ]
          refine tky 4 (some 36) (by assumption) ?_
          try simp only [Act.put, List.setIfInBounds_toArray, List.set_cons_zero, List.set_cons_succ]
          refine tky 5 (some 37) (by assumption) ?_
          try simp only [Act.put, List.setIfInBounds_toArray, List.set_cons_zero, List.set_cons_succ]
          refine tky 6 (some 38) (by assumption) ?_
          try simp only [Act.put, List.setIfInBounds_toArray, List.set_cons_zero, List.set_cons_succ]
          refine tky 7 (some 39) (by assumption) ?_
          try simp only [Act.put, List.setIfInBounds_toArray, List.set_cons_zero, List.set_cons_succ]
          refine wpAnyH_ready (rs := [8]) (by kernel_rfl) (by simp) ?_
          refine AllReadyH.cons rfl (fun K hK => ?_) AllReadyH.nil
          go_simp
          refine (HL2.out true h2 _).mono ?_
          rintro e w6 ⟨rfl, hb6⟩
          have hb6' := ext_trans hHeld.2.2.2.2.2.2.2 hb6
          go_wp2_with fail
          refine hK.out _ _ (by first | exact HCS2.out _ hb6' | assumption) (fun hHeld8 => ?_)
          clear hK K
          try simp only [Act.put, List.setIfInBounds_toArray, List.set_cons_zero, List.set_cons_succ]
          refine tky 9 (some 41) (by assumption) ?_
          try simp only [Act.put, List.setIfInBounds_toArray, List.set_cons_zero, List.set_cons_succ]
          refine tky 10 (some 42) (by assumption) ?_
          try simp only [Act.put, List.setIfInBounds_toArray, List.set_cons_zero, List.set_cons_succ]
          refine tkn 11 (some 43) (by assumption) ?_
          try simp only [Act.put, List.setIfInBounds_toArray, List.set_cons_zero, List.set_cons_succ]
          refine tkn 12 (some 44) (by assumption) ?_
          try simp only [Act.put, List.setIfInBounds_toArray, List.set_cons_zero, List.set_cons_succ]
          refine tkn 13 (some 45) (by assumption) ?_
          try simp only [Act.put, List.setIfInBounds_toArray, List.set_cons_zero, List.set_cons_succ]
          refine tkn 14 (some 46) (by assumption) ?_
          try simp only [Act.put, List.setIfInBounds_toArray, List.set_cons_zero, List.set_cons_succ]
          refine tkn 15 (some 47) (by assumption) ?_
          try simp only [Act.put, List.setIfInBounds_toArray, List.set_cons_zero, List.set_cons_succ]
          refine tky 16 (some 48) (by assumption) ?_
          try simp only [Act.put, List.setIfInBounds_toArray, List.set_cons_zero, List.set_cons_succ]
          refine tky 17 (some 6) (by assumption) ?_
          try simp only [Act.put, List.setIfInBounds_toArray, List.set_cons_zero, List.set_cons_succ]
          refine wpAnyH_done (by kernel_rfl) ?_ _
          go_wp2_with fail
          go_ret
          exact ⟨by rw [h1, h2]; rfl, ext_trans HB2.out (hb6')⟩
      case false =>
          go_still_tail 8, (by kernel_rfl)
          change wpList _ _ _ _ _ w2.drew
          obtain ⟨w3, hw3⟩ : ∃ w3, w2.drew = w3 := ⟨_, rfl⟩
          have hb3 : Below w2.heap.size w2 w3 := by rw [← hw3]; exact ext_drew (Below.refl _ _)
          rw [hw3]
          clear hw3
          go_wp2_with fail
          refine (HL1.out false h1 _).mono ?_
          rintro e w4 ⟨rfl, hb4⟩
          have hb4' := ext_trans hb3 hb4
          obtain ⟨k0, k1, k2, k3, k4, k5, k6, _⟩ := HCS2.out _ hb4'
          go_wp2_with fail
          refine wp_region_held_drew (S := (fun w' => w'.cell? ⟨p, 0, none⟩ = some (.func (.func 88) #[] #[]) ∧ w'.cell? ⟨q7, 0, none⟩ = some (.int .i64 a1) ∧ w'.cell? ⟨q7, 1, none⟩ = some (.int .u32 a2) ∧ w'.cell? ⟨q7, 2, none⟩ = some (.int .i64 a3) ∧ w'.cell? ⟨q8, 0, none⟩ = some (.int .i64 b1) ∧ w'.cell? ⟨q8, 1, none⟩ = some (.int .u32 b2) ∧ w'.cell? ⟨q8, 2, none⟩ = some (.int .i64 b3) ∧ Below w2.heap.size w2 w')) (by kernel_rfl) (by exact HCS2.out _ (ext_drew hb4')) (fun hHeld => ?_)
          refine tky 0 (some 32) (by assumption) ?_
          try simp only [Act.put, List.setIfInBounds_toArray, List.set_cons_zero, List.set_cons_succ]
          refine tky 1 (some 33) (by assumption) ?_
          try simp only [Act.put, List.setIfInBounds_toArray, List.set_cons_zero, List.set_cons_succ]
          refine tky 2 (some 34) (by assumption) ?_
          try simp only [Act.put, List.setIfInBounds_toArray, List.set_cons_zero, List.set_cons_succ]
          refine tky 3 (some 35) (by assumption) ?_
          try simp only [Act.put, List.setIfInBounds_toArray, List.set_cons_zero, List.set_cons_succ]
          refine tky 4 (some 36) (by assumption) ?_
          try simp only [Act.put, List.setIfInBounds_toArray, List.set_cons_zero, List.set_cons_succ]
          refine tky 5 (some 37) (by assumption) ?_
          try simp only [Act.put, List.setIfInBounds_toArray, List.set_cons_zero, List.set_cons_succ]
          refine tky 6 (some 38) (by assumption) ?_
          try simp only [Act.put, List.setIfInBounds_toArray, List.set_cons_zero, List.set_cons_succ]
          refine tky 7 (some 39) (by assumption) ?_
          try simp only [Act.put, List.setIfInBounds_toArray, List.set_cons_zero, List.set_cons_succ]
          refine wpAnyH_ready (rs := [8]) (by kernel_rfl) (by simp) ?_
          refine AllReadyH.cons rfl (fun K hK => ?_) AllReadyH.nil
          go_simp
          refine (HL2.out false h2 _).mono ?_
          rintro e w6 ⟨rfl, hb6⟩
          have hb6' := ext_trans hHeld.2.2.2.2.2.2.2 hb6
          go_wp2_with fail
          refine hK.out _ _ (by first | exact HCS2.out _ hb6' | assumption) (fun hHeld8 => ?_)
          clear hK K
          try simp only [Act.put, List.setIfInBounds_toArray, List.set_cons_zero, List.set_cons_succ]
          refine tky 9 (some 41) (by assumption) ?_
          try simp only [Act.put, List.setIfInBounds_toArray, List.set_cons_zero, List.set_cons_succ]
          refine tky 10 (some 42) (by assumption) ?_
          try simp only [Act.put, List.setIfInBounds_toArray, List.set_cons_zero, List.set_cons_succ]
          refine tky 11 (some 43) (by assumption) ?_
          try simp only [Act.put, List.setIfInBounds_toArray, List.set_cons_zero, List.set_cons_succ]
          refine tky 12 (some 44) (by assumption) ?_
          try simp only [Act.put, List.setIfInBounds_toArray, List.set_cons_zero, List.set_cons_succ]
          refine tky 13 (some 45) (by assumption) ?_
          try simp only [Act.put, List.setIfInBounds_toArray, List.set_cons_zero, List.set_cons_succ]
          refine tky 14 (some 46) (by assumption) ?_
          try simp only [Act.put, List.setIfInBounds_toArray, List.set_cons_zero, List.set_cons_succ]
          refine tky 15 (some 47) (by assumption) ?_
          try simp only [Act.put, List.setIfInBounds_toArray, List.set_cons_zero, List.set_cons_succ]
          refine tky 16 (some 48) (by assumption) ?_
          try simp only [Act.put, List.setIfInBounds_toArray, List.set_cons_zero, List.set_cons_succ]
          refine tky 17 (some 6) (by assumption) ?_
          try simp only [Act.put, List.setIfInBounds_toArray, List.set_cons_zero, List.set_cons_succ]
          refine wpAnyH_done (by kernel_rfl) ?_ _
          go_wp2_with fail
          go_ret
          exact ⟨by rw [h1, h2]; rfl, ext_trans HB2.out (hb6')⟩
  · go_simp
    go_wp2_with fail
    refine hK.out _ _ (by first | exact HCS _ (ext_alloc (ext_alloc (ext_drew (Below.refl _ _)) _) _) | exact HCS _ (ext_alloc (ext_drew (Below.refl _ _)) _)) (fun hHeld15 => ?_)
    clear hK K
    try simp only [Act.put, List.setIfInBounds_toArray, List.set_cons_zero, List.set_cons_succ]
    refine wpAnyH_ready (rs := [14]) (by kernel_rfl) (by simp) ?_
    refine AllReadyH.cons rfl (fun K hK => ?_) AllReadyH.nil
    go_simp
    go_wp2_with fail
    refine hK.out _ _ (by first | exact HCS _ (ext_alloc (ext_alloc (ext_drew (Below.refl _ _)) _) _) | exact HCS _ (ext_alloc (ext_drew (Below.refl _ _)) _)) (fun hHeld14 => ?_)
    clear hK K
    try simp only [Act.put, List.setIfInBounds_toArray, List.set_cons_zero, List.set_cons_succ]
    refine wpAnyH_ready (rs := [16]) (by kernel_rfl) (by simp) ?_
    refine AllReadyH.cons rfl (fun K hK => ?_) AllReadyH.nil
    go_simp
    go_wp2_with fail
    refine hK.out _ _ (by first | exact HCS _ (ext_alloc (ext_alloc (ext_drew (Below.refl _ _)) _) _) | exact HCS _ (ext_alloc (ext_drew (Below.refl _ _)) _)) (fun hHeld16 => ?_)
    clear hK K
    try simp only [Act.put, List.setIfInBounds_toArray, List.set_cons_zero, List.set_cons_succ]
    refine wpAnyH_ready (rs := [17]) (by kernel_rfl) (by simp) ?_
    refine AllReadyH.cons rfl (fun K hK => ?_) AllReadyH.nil
    go_simp
    go_wp2_with fail
    refine hK.out _ _ (by first | exact HCS _ (ext_alloc (ext_alloc (ext_drew (Below.refl _ _)) _) _) | exact HCS _ (ext_alloc (ext_drew (Below.refl _ _)) _)) (fun hHeld17 => ?_)
    clear hK K
    try simp only [Act.put, List.setIfInBounds_toArray, List.set_cons_zero, List.set_cons_succ]
    refine wpAnyH_done (by kernel_rfl) ?_ _
    go_wp2_with fail
    have hA1 : Arr (((w.alloc (.cells #[.int .i64 b1, .int .u32 b2, .int .i64 b3] 426)).alloc (.cells #[.int .i64 a1, .int .u32 a2, .int .i64 a3] 426)).drew) w.heap.size 426 #[.int .i64 b1, .int .u32 b2, .int .i64 b3] := (Arr.alloc (Arr.fresh w _ _) _).drew
    have hA2 : Arr (((w.alloc (.cells #[.int .i64 b1, .int .u32 b2, .int .i64 b3] 426)).alloc (.cells #[.int .i64 a1, .int .u32 a2, .int .i64 a3] 426)).drew) (w.heap.size + 1) 426 #[.int .i64 a1, .int .u32 a2, .int .i64 a3] := (Arr.new (by simp)).drew
    have hB2 : Below w.heap.size w (((w.alloc (.cells #[.int .i64 b1, .int .u32 b2, .int .i64 b3] 426)).alloc (.cells #[.int .i64 a1, .int .u32 a2, .int .i64 a3] 426)).drew) := ext_drew (ext_alloc (ext_alloc (Below.refl _ _) _) _)
    obtain ⟨w2, hw2⟩ : ∃ w2, ((w.alloc (.cells #[.int .i64 b1, .int .u32 b2, .int .i64 b3] 426)).alloc (.cells #[.int .i64 a1, .int .u32 a2, .int .i64 a3] 426)).drew = w2 := ⟨_, rfl⟩
    rw [hw2] at hA1 hA2 hB2 ⊢
    clear hw2
    obtain ⟨q8, hq1⟩ : ∃ q, w.heap.size = q := ⟨_, rfl⟩
    obtain ⟨q7, hq2⟩ : ∃ q, w.heap.size + 1 = q := ⟨_, rfl⟩
    have HB2 := Lib.hid hB2
    clear hB2
    rw [hq1] at hA1
    rw [hq2] at hA2
    have hp2 := HB2.out.cell (p := ⟨p, 0, none⟩) hpl
    have HCS2 : ∀ w', Below w2.heap.size w2 w' → (w'.cell? ⟨p, 0, none⟩ = some (.func (.func 88) #[] #[]) ∧ w'.cell? ⟨q7, 0, none⟩ = some (.int .i64 a1) ∧ w'.cell? ⟨q7, 1, none⟩ = some (.int .u32 a2) ∧ w'.cell? ⟨q7, 2, none⟩ = some (.int .i64 a3) ∧ w'.cell? ⟨q8, 0, none⟩ = some (.int .i64 b1) ∧ w'.cell? ⟨q8, 1, none⟩ = some (.int .u32 b2) ∧ w'.cell? ⟨q8, 2, none⟩ = some (.int .i64 b3) ∧ Below w2.heap.size w2 w') := fun w' hb =>
      ⟨(hb.cell (p := ⟨p, 0, none⟩) (Nat.lt_of_lt_of_le hpl HB2.out.size)).trans (hp2.trans HX0.out), (hA2.keep hb).cell 0, (hA2.keep hb).cell 1, (hA2.keep hb).cell 2, (hA1.keep hb).cell 0, (hA1.keep hb).cell 1, (hA1.keep hb).cell 2, hb⟩
    have HCS2 := Lib.hid HCS2
    simp only [hq2]
    simp only [hq1]
    clear hp2 hA1 hA2 hq1 hq2
    have HW := Lib.hid HCS
    clear HCS hHeld17
    obtain ⟨k0, k1, k2, k3, k4, k5, k6, _⟩ := HCS2.out _ (Below.refl _ _)
    cases h1 : lessD ⟨a1, a2, a3⟩ ⟨b1, b2, b3⟩
    case true =>
          go_still_tail 8, (by kernel_rfl)
          change wpList _ _ _ _ _ w2.drew
          obtain ⟨w3, hw3⟩ : ∃ w3, w2.drew = w3 := ⟨_, rfl⟩
          have hb3 : Below w2.heap.size w2 w3 := by rw [← hw3]; exact ext_drew (Below.refl _ _)
          rw [hw3]
          clear hw3
          go_wp2_with fail
          refine (HL1.out true h1 _).mono ?_
          rintro e w4 ⟨rfl, hb4⟩
          have hb4' := ext_trans hb3 hb4
          obtain ⟨k0, k1, k2, k3, k4, k5, k6, _⟩ := HCS2.out _ hb4'
          go_wp2_with fail
          go_ret
          exact ⟨by rw [h1]; rfl, ext_trans HB2.out (hb4')⟩
    case false =>
      cases h2 : lessD ⟨b1, b2, b3⟩ ⟨a1, a2, a3⟩
      case true =>
          go_still_tail 8, (by kernel_rfl)
          change wpList _ _ _ _ _ w2.drew
          obtain ⟨w3, hw3⟩ : ∃ w3, w2.drew = w3 := ⟨_, rfl⟩
          have hb3 : Below w2.heap.size w2 w3 := by rw [← hw3]; exact ext_drew (Below.refl _ _)
          rw [hw3]
          clear hw3
          go_wp2_with fail
          refine (HL1.out false h1 _).mono ?_
          rintro e w4 ⟨rfl, hb4⟩
          have hb4' := ext_trans hb3 hb4
          obtain ⟨k0, k1, k2, k3, k4, k5, k6, _⟩ := HCS2.out _ hb4'
          go_wp2_with fail
          refine wp_region_held_drew (S := (fun w' => w'.cell? ⟨p, 0, none⟩ = some (.func (.func 88) #[] #[]) ∧ w'.cell? ⟨q7, 0, none⟩ = some (.int .i64 a1) ∧ w'.cell? ⟨q7, 1, none⟩ = some (.int .u32 a2) ∧ w'.cell? ⟨q7, 2, none⟩ = some (.int .i64 a3) ∧ w'.cell? ⟨q8, 0, none⟩ = some (.int .i64 b1) ∧ w'.cell? ⟨q8, 1, none⟩ = some (.int .u32 b2) ∧ w'.cell? ⟨q8, 2, none⟩ = some (.int .i64 b3) ∧ Below w2.heap.size w2 w')) (by kernel_rfl) (by exact HCS2.out _ (ext_drew hb4')) (fun hHeld => ?_)
          refine tky 0 (some 32) (by assumption) ?_
          try simp only [Act.put, List.setIfInBounds_toArray, List.set_cons_zero, List.set_cons_succ]
          refine tky 1 (some 33) (by assumption) ?_
          try simp only [Act.put, List.setIfInBounds_toArray, List.set_cons_zero, List.set_cons_succ]
          refine tky 2 (some 34) (by assumption) ?_
          try simp only [Act.put, List.setIfInBounds_toArray, List.set_cons_zero, List.set_cons_succ]
          refine tky 3 (some 35) (by assumption) ?_
          try simp only [Act.put, List.setIfInBounds_toArray, List.set_cons_zero, List.set_cons_succ]
          refine tky 4 (some 36) (by assumption) ?_
          try simp only [Act.put, List.setIfInBounds_toArray, List.set_cons_zero, List.set_cons_succ]
          refine tky 5 (some 37) (by assumption) ?_
          try simp only [Act.put, List.setIfInBounds_toArray, List.set_cons_zero, List.set_cons_succ]
          refine tky 6 (some 38) (by assumption) ?_
          try simp only [Act.put, List.setIfInBounds_toArray, List.set_cons_zero, List.set_cons_succ]
          refine tky 7 (some 39) (by assumption) ?_
          try simp only [Act.put, List.setIfInBounds_toArray, List.set_cons_zero, List.set_cons_succ]
          refine wpAnyH_ready (rs := [8]) (by kernel_rfl) (by simp) ?_
          refine AllReadyH.cons rfl (fun K hK => ?_) AllReadyH.nil
          go_simp
          refine (HL2.out true h2 _).mono ?_
          rintro e w6 ⟨rfl, hb6⟩
          have hb6' := ext_trans hHeld.2.2.2.2.2.2.2 hb6
          go_wp2_with fail
          refine hK.out _ _ (by first | exact HCS2.out _ hb6' | assumption) (fun hHeld8 => ?_)
          clear hK K
          try simp only [Act.put, List.setIfInBounds_toArray, List.set_cons_zero, List.set_cons_succ]
          refine tky 9 (some 41) (by assumption) ?_
          try simp only [Act.put, List.setIfInBounds_toArray, List.set_cons_zero, List.set_cons_succ]
          refine tky 10 (some 42) (by assumption) ?_
          try simp only [Act.put, List.setIfInBounds_toArray, List.set_cons_zero, List.set_cons_succ]
          refine tkn 11 (some 43) (by assumption) ?_
          try simp only [Act.put, List.setIfInBounds_toArray, List.set_cons_zero, List.set_cons_succ]
          refine tkn 12 (some 44) (by assumption) ?_
          try simp only [Act.put, List.setIfInBounds_toArray, List.set_cons_zero, List.set_cons_succ]
          refine tkn 13 (some 45) (by assumption) ?_
          try simp only [Act.put, List.setIfInBounds_toArray, List.set_cons_zero, List.set_cons_succ]
          refine tkn 14 (some 46) (by assumption) ?_
          try simp only [Act.put, List.setIfInBounds_toArray, List.set_cons_zero, List.set_cons_succ]
          refine tkn 15 (some 47) (by assumption) ?_
          try simp only [Act.put, List.setIfInBounds_toArray, List.set_cons_zero, List.set_cons_succ]
          refine tky 16 (some 48) (by assumption) ?_
          try simp only [Act.put, List.setIfInBounds_toArray, List.set_cons_zero, List.set_cons_succ]
          refine tky 17 (some 6) (by assumption) ?_
          try simp only [Act.put, List.setIfInBounds_toArray, List.set_cons_zero, List.set_cons_succ]
          refine wpAnyH_done (by kernel_rfl) ?_ _
          go_wp2_with fail
          go_ret
          exact ⟨by rw [h1, h2]; rfl, ext_trans HB2.out (hb6')⟩
      case false =>
          go_still_tail 8, (by kernel_rfl)
          change wpList _ _ _ _ _ w2.drew
          obtain ⟨w3, hw3⟩ : ∃ w3, w2.drew = w3 := ⟨_, rfl⟩
          have hb3 : Below w2.heap.size w2 w3 := by rw [← hw3]; exact ext_drew (Below.refl _ _)
          rw [hw3]
          clear hw3
          go_wp2_with fail
          refine (HL1.out false h1 _).mono ?_
          rintro e w4 ⟨rfl, hb4⟩
          have hb4' := ext_trans hb3 hb4
          obtain ⟨k0, k1, k2, k3, k4, k5, k6, _⟩ := HCS2.out _ hb4'
          go_wp2_with fail
          refine wp_region_held_drew (S := (fun w' => w'.cell? ⟨p, 0, none⟩ = some (.func (.func 88) #[] #[]) ∧ w'.cell? ⟨q7, 0, none⟩ = some (.int .i64 a1) ∧ w'.cell? ⟨q7, 1, none⟩ = some (.int .u32 a2) ∧ w'.cell? ⟨q7, 2, none⟩ = some (.int .i64 a3) ∧ w'.cell? ⟨q8, 0, none⟩ = some (.int .i64 b1) ∧ w'.cell? ⟨q8, 1, none⟩ = some (.int .u32 b2) ∧ w'.cell? ⟨q8, 2, none⟩ = some (.int .i64 b3) ∧ Below w2.heap.size w2 w')) (by kernel_rfl) (by exact HCS2.out _ (ext_drew hb4')) (fun hHeld => ?_)
          refine tky 0 (some 32) (by assumption) ?_
          try simp only [Act.put, List.setIfInBounds_toArray, List.set_cons_zero, List.set_cons_succ]
          refine tky 1 (some 33) (by assumption) ?_
          try simp only [Act.put, List.setIfInBounds_toArray, List.set_cons_zero, List.set_cons_succ]
          refine tky 2 (some 34) (by assumption) ?_
          try simp only [Act.put, List.setIfInBounds_toArray, List.set_cons_zero, List.set_cons_succ]
          refine tky 3 (some 35) (by assumption) ?_
          try simp only [Act.put, List.setIfInBounds_toArray, List.set_cons_zero, List.set_cons_succ]
          refine tky 4 (some 36) (by assumption) ?_
          try simp only [Act.put, List.setIfInBounds_toArray, List.set_cons_zero, List.set_cons_succ]
          refine tky 5 (some 37) (by assumption) ?_
          try simp only [Act.put, List.setIfInBounds_toArray, List.set_cons_zero, List.set_cons_succ]
          refine tky 6 (some 38) (by assumption) ?_
          try simp only [Act.put, List.setIfInBounds_toArray, List.set_cons_zero, List.set_cons_succ]
          refine tky 7 (some 39) (by assumption) ?_
          try simp only [Act.put, List.setIfInBounds_toArray, List.set_cons_zero, List.set_cons_succ]
          refine wpAnyH_ready (rs := [8]) (by kernel_rfl) (by simp) ?_
          refine AllReadyH.cons rfl (fun K hK => ?_) AllReadyH.nil
          go_simp
          refine (HL2.out false h2 _).mono ?_
          rintro e w6 ⟨rfl, hb6⟩
          have hb6' := ext_trans hHeld.2.2.2.2.2.2.2 hb6
          go_wp2_with fail
          refine hK.out _ _ (by first | exact HCS2.out _ hb6' | assumption) (fun hHeld8 => ?_)
          clear hK K
          try simp only [Act.put, List.setIfInBounds_toArray, List.set_cons_zero, List.set_cons_succ]
          refine tky 9 (some 41) (by assumption) ?_
          try simp only [Act.put, List.setIfInBounds_toArray, List.set_cons_zero, List.set_cons_succ]
          refine tky 10 (some 42) (by assumption) ?_
          try simp only [Act.put, List.setIfInBounds_toArray, List.set_cons_zero, List.set_cons_succ]
          refine tky 11 (some 43) (by assumption) ?_
          try simp only [Act.put, List.setIfInBounds_toArray, List.set_cons_zero, List.set_cons_succ]
          refine tky 12 (some 44) (by assumption) ?_
          try simp only [Act.put, List.setIfInBounds_toArray, List.set_cons_zero, List.set_cons_succ]
          refine tky 13 (some 45) (by assumption) ?_
          try simp only [Act.put, List.setIfInBounds_toArray, List.set_cons_zero, List.set_cons_succ]
          refine tky 14 (some 46) (by assumption) ?_
          try simp only [Act.put, List.setIfInBounds_toArray, List.set_cons_zero, List.set_cons_succ]
          refine tky 15 (some 47) (by assumption) ?_
          try simp only [Act.put, List.setIfInBounds_toArray, List.set_cons_zero, List.set_cons_succ]
          refine tky 16 (some 48) (by assumption) ?_
          try simp only [Act.put, List.setIfInBounds_toArray, List.set_cons_zero, List.set_cons_succ]
          refine tky 17 (some 6) (by assumption) ?_
          try simp only [Act.put, List.setIfInBounds_toArray, List.set_cons_zero, List.set_cons_succ]
          refine wpAnyH_done (by kernel_rfl) ?_ _
          go_wp2_with fail
          go_ret
          exact ⟨by rw [h1, h2]; rfl, ext_trans HB2.out (hb6')⟩

end Go.Proofs.YtkmpchffflemcaaGreatDoor.Hp
end
end

/- Packed: Heap3 Heap4 -/
section
set_option linter.unusedVariables false
set_option linter.unusedSimpArgs false
/- Heap3: The heap of what is due: what it is in memory; swap. -/
section
namespace Go.Proofs.YtkmpchffflemcaaGreatDoor.Hp
open Go.RowKit

theorem item_info : (Tryz.prog.info? 426).map (fun i => (i.zero, i.size, i.bytes)) = some (some (.agg #[.int .i64 0, .int .u32 0, .int .i64 0]), 3, 24) := by kernel_rfl
theorem item_size : (Tryz.prog.info? 426).map (·.size) = some 3 := by kernel_rfl
theorem item_one (f : Nat → Due) (i : Nat) : ∀ u ∈ itemL f i, u.oneCell' = true := by
  intro u hu
  simp only [itemL, List.mem_cons, List.not_mem_nil, or_false] at hu
  rcases hu with rfl | rfl | rfl <;> rfl
theorem row_ne {S : Nat → Prop} {w : World} {e t : TypeId} {sz n g cap p : Nat} {c : Nat → List Value} {cs : Array Value} (h : RowIn S w e sz (.slice (some ⟨g, 0, none⟩) n cap) n c) (ha : Arr w p t cs) (ht : t ≠ e) : p ≠ g := by
  rintro rfl
  rcases h.own.2 with ⟨hv, _⟩ | ⟨g', cap', cur, hv, _, hh, _⟩
  · cases hv
  · injection hv with e1
    injection e1 with e1
    injection e1 with e1
    subst e1
    rw [Arr] at ha
    rw [ha] at hh
    injection hh with hh
    injection hh with _ h2
    exact ht h2
theorem map_ne_arr {P : Program} {k e t : TypeId} {q : IntKind} {w : World} {b n p : Nat} {φ : Int → Option Int} {cs : Array Value} (h : MapAt P k e q w b n φ) (ha : Arr w p t cs) : p ≠ b := by
  rintro rfl
  obtain ⟨D, ⟨es, clock, hb, _⟩, _⟩ := h
  rw [Arr] at ha
  rw [ha] at hb
  injection hb with hb
  cases hb
theorem map_ne_row {P : Program} {k e t : TypeId} {q : IntKind} {S : Nat → Prop} {w : World} {b n sz m g cap : Nat} {φ : Int → Option Int} {c : Nat → List Value} (h : MapAt P k e q w b n φ) (hr : RowIn S w t sz (.slice (some ⟨g, 0, none⟩) m cap) m c) : g ≠ b := by
  rintro rfl
  obtain ⟨D, ⟨es, clock, hb, _⟩, _⟩ := h
  rcases hr.own.2 with ⟨hv, _⟩ | ⟨g', cap', cur, hv, _, hh, _⟩
  · cases hv
  · injection hv with e1
    injection e1 with e1
    injection e1 with e1
    subst e1
    rw [hh] at hb
    injection hb with hb
    cases hb
theorem _root_.Go.Proofs.YtkmpchffflemcaaGreatDoor.RowIn.own_block {S : Nat → Prop} {w w' : World} {e : TypeId} {sz n g cap b : Nat} {c : Nat → List Value} (h : RowIn S w e sz (.slice (some ⟨g, 0, none⟩) n cap) n c) (hg : w.grownBy w' (some b)) (hb : g ≠ b) : RowIn S w' e sz (.slice (some ⟨g, 0, none⟩) n cap) n c :=
  ⟨own_same h.own fun q hq => hg.block q (own_lt h.own hq).1 (fun e => by
    have e1 : g = q := by simpa [Value.ownBlock] using hq
    injection e with e; exact hb (e1.trans e)), h.block⟩
/-- the heap at p: l items, the blocks in S -/
structure HeapIn (S : Nat → Prop) (w : World) (p l : Nat) (next : Int) (f : Nat → Due) : Prop where
  lies : ∃ iv mb φ, Arr w p 307 #[lessV, iv, .map (some mb), .int .i64 next] ∧ RowIn S w 426 3 iv l (itemL f) ∧ MapAt Tryz.prog 3 3 .i64 w mb l φ ∧ Placed f l φ ∧ S p ∧ S mb
  bound : l ≤ 65536 ∧ 0 ≤ next ∧ next ≤ 1099511627776 ∧ ∀ i, i < l → 0 ≤ (f i).handle ∧ (f i).handle < next
theorem itemL_swap (f : Nat → Due) (i k : Nat) : setL (setL (itemL f) i (itemL f k)) k (itemL f i) = itemL (swapD f i k) := by
  funext j
  unfold setL
  by_cases h1 : j = k
  · subst h1
    rw [if_pos rfl]
    by_cases h2 : j = i
    · subst h2; simp [itemL, swapD]
    · simp [itemL, swapD, h2]
  · rw [if_neg h1]
    by_cases h2 : j = i
    · subst h2; simp [itemL, swapD]
    · simp [itemL, swapD, h1, h2]
theorem Placed.inj {f : Nat → Due} {l : Nat} {φ : Int → Option Int} (h : Placed f l φ) {i j : Nat} (hi : i < l) (hj : j < l) (e : (f i).handle = (f j).handle) : i = j := by
  have h1 := h.1 i hi
  have h2 := h.1 j hj
  rw [e, h2] at h1
  injection h1 with h1
  omega
theorem swap_at (f : Nat → Due) (i k : Nat) : swapD f i k i = f k ∧ swapD f i k k = f i := by
  constructor
  · simp [swapD]
  · by_cases h : k = i
    · subst h; simp [swapD]
    · simp [swapD, h]
theorem swap_else (f : Nat → Due) {i k j : Nat} (h1 : j ≠ i) (h2 : j ≠ k) : swapD f i k j = f j := by simp [swapD, h1, h2]
theorem Placed.swap {f : Nat → Due} {l : Nat} {φ : Int → Option Int} (h : Placed f l φ) {i k : Nat} (hi : i < l) (hk : k < l) : Placed (swapD f i k) l (mput (mput φ (f k).handle (some (i : Int))) (f i).handle (some (k : Int))) := by
  refine ⟨fun j hj => ?_, fun x y hx => ?_⟩
  · by_cases h1 : j = k
    · subst h1; rw [(swap_at f i j).2, mput_same]
    · by_cases h2 : j = i
      · subst h2
        rw [(swap_at f j k).1, mput_other _ _ (fun e => h1 (h.inj hj hk e.symm)), mput_same]
      · rw [swap_else f h2 h1, mput_other _ _ (fun e => h2 (h.inj hj hi e)), mput_other _ _ (fun e => h1 (h.inj hj hk e))]
        exact h.1 j hj
  · by_cases h1 : x = (f i).handle
    · subst h1
      rw [mput_same] at hx
      injection hx with hx
      exact ⟨k, hk, hx.symm, by rw [(swap_at f i k).2]⟩
    · rw [mput_other _ _ h1] at hx
      by_cases h2 : x = (f k).handle
      · subst h2
        rw [mput_same] at hx
        injection hx with hx
        exact ⟨i, hi, hx.symm, by rw [(swap_at f i k).1]⟩
      · rw [mput_other _ _ h2] at hx
        obtain ⟨j, hj, e1, e2⟩ := h.2 x y hx
        refine ⟨j, hj, e1, ?_⟩
        rw [swap_else f (fun e => h1 (by rw [← e2, e])) (fun e => h2 (by rw [← e2, e]))]
        exact e2

set_option maxRecDepth 100000 in
set_option maxHeartbeats 2000000 in
theorem swap_in (S : Nat → Prop) (p l i k : Nat) (next : Int) (f : Nat → Due) (w : World) (h : HeapIn S w p l next f) (hi : i < l) (hk : k < l) :
    Calls Tryz.prog 275 #[.pointer (some ⟨p, 0, none⟩), .int .i64 i, .int .i64 k] w fun e w' => (∃ v, e = .returned v) ∧ HeapIn S w' p l next (swapD f i k) ∧ Tch S w w' := by
  obtain ⟨iv, mb, φ, hp, hr, hm, hpl, sp, sm⟩ := h.lies
  obtain ⟨g, cap, rfl, sg, hcap, hcapm, hgl⟩ := hr.form (by omega)
  have hpg := row_ne hr hp (by decide)
  have hpm := map_ne_arr hm hp
  have hgm := map_ne_row hm hr
  have x1 : w.cell? ⟨p, 1, none⟩ = some (.slice (some ⟨g, 0, none⟩) l cap) := hp.cell 1
  have ri := hr.range (itemL_len f) hi
  have rk := hr.range (itemL_len f) hk
  have y0 : w.cell? ⟨g, i * 3, none⟩ = some (.int .i64 (f i).til) := ri 0 _ rfl
  have y1 : w.cell? ⟨g, i * 3 + 1, none⟩ = some (.int .u32 (f i).id) := ri 1 _ rfl
  have y2 : w.cell? ⟨g, i * 3 + 2, none⟩ = some (.int .i64 (f i).handle) := ri 2 _ rfl
  have z0 : w.cell? ⟨g, k * 3, none⟩ = some (.int .i64 (f k).til) := rk 0 _ rfl
  have z1 : w.cell? ⟨g, k * 3 + 1, none⟩ = some (.int .u32 (f k).id) := rk 1 _ rfl
  have z2 : w.cell? ⟨g, k * 3 + 2, none⟩ = some (.int .i64 (f k).handle) := rk 2 _ rfl
  have hi1 : (i : Int) < (l : Int) := by omega
  have hk1 : (k : Int) < (l : Int) := by omega
  have hi0 : (0 : Int) ≤ (i : Int) := by omega
  have hk0 : (0 : Int) ≤ (k : Int) := by omega
  have hl6 : l ≤ 65536 := h.bound.1
  have hr' : RowIn S w.drew 426 3 (.slice (some ⟨g, 0, none⟩) l cap) l (itemL f) := hr.same fun _ _ _ => rfl
  have HR := Lib.hid hr'
  clear hr'
  have HP := Lib.hid hp
  have HM := Lib.hid hm
  have HPL := Lib.hid hpl
  have HH := Lib.hid h
  clear h hp hr hm hpl ri rk
  go_enter Tryz.func275, Tryz.ntmps275
  go_wp2_with fail
  refine region_any_drew (by kernel_rfl) ?_
  refine AnyTill.any (S := (fun w' => w'.cell? ⟨p, 1, none⟩ = some (.slice (some ⟨g, 0, none⟩) l cap) ∧ w'.cell? ⟨g, i * 3, none⟩ = some (.int .i64 (f i).til) ∧ w'.cell? ⟨g, i * 3 + 1, none⟩ = some (.int .u32 (f i).id) ∧ w'.cell? ⟨g, i * 3 + 2, none⟩ = some (.int .i64 (f i).handle) ∧ w'.cell? ⟨g, k * 3, none⟩ = some (.int .i64 (f k).til) ∧ w'.cell? ⟨g, k * 3 + 1, none⟩ = some (.int .u32 (f k).id) ∧ w'.cell? ⟨g, k * 3 + 2, none⟩ = some (.int .i64 (f k).handle))) (t := 25) _ _ _ _ ?_
  have hHeld := (show (fun w' => w'.cell? ⟨p, 1, none⟩ = some (.slice (some ⟨g, 0, none⟩) l cap) ∧ w'.cell? ⟨g, i * 3, none⟩ = some (.int .i64 (f i).til) ∧ w'.cell? ⟨g, i * 3 + 1, none⟩ = some (.int .u32 (f i).id) ∧ w'.cell? ⟨g, i * 3 + 2, none⟩ = some (.int .i64 (f i).handle) ∧ w'.cell? ⟨g, k * 3, none⟩ = some (.int .i64 (f k).til) ∧ w'.cell? ⟨g, k * 3 + 1, none⟩ = some (.int .u32 (f k).id) ∧ w'.cell? ⟨g, k * 3 + 2, none⟩ = some (.int .i64 (f k).handle)) w.drew from ⟨x1, y0, y1, y2, z0, z1, z2⟩)
  refine till_take (i := 0) (oi := ?o1) (d := (some 6)) (v := ?v1) ?hi1 (by kernel_rfl) (by kernel_rfl) (by kernel_rfl) (by kernel_rfl) (by kernel_rfl) (fun _ _ _ h => h) ?hd1 ?hw1 ?hy1 hHeld ?_
  case hi1 => (simp only [List.getElem?_toArray, List.getElem?_cons_zero]; exact rfl)
  case hd1 => rfl
  case hw1 => rfl
  case hy1 => (intro w hSw; (try dsimp only at hSw); go_simp; try with_reducible rfl)
  try simp only [Act.put, List.setIfInBounds_toArray, List.set_cons_zero, List.set_cons_succ]
  refine till_take (i := 1) (oi := ?o2) (d := (some 7)) (v := ?v2) ?hi2 (by kernel_rfl) (by kernel_rfl) (by kernel_rfl) (by kernel_rfl) (by kernel_rfl) (fun _ _ _ h => h) ?hd2 ?hw2 ?hy2 hHeld ?_
  case hi2 => (simp only [List.getElem?_toArray, List.getElem?_cons_zero, List.getElem?_cons_succ]; exact rfl)
  case hd2 => rfl
  case hw2 => rfl
  case hy2 => (intro w hSw; (try dsimp only at hSw); go_simp; try with_reducible rfl)
  try simp only [Act.put, List.setIfInBounds_toArray, List.set_cons_zero, List.set_cons_succ]
  refine till_take (i := 2) (oi := ?o3) (d := (some 8)) (v := ?v3) ?hi3 (by kernel_rfl) (by kernel_rfl) (by kernel_rfl) (by kernel_rfl) (by kernel_rfl) (fun _ _ _ h => h) ?hd3 ?hw3 ?hy3 hHeld ?_
  case hi3 => (simp only [List.getElem?_toArray, List.getElem?_cons_zero, List.getElem?_cons_succ]; exact rfl)
  case hd3 => rfl
  case hw3 => rfl
  case hy3 => (intro w hSw; (try dsimp only at hSw); go_simp; try with_reducible rfl)
  try simp only [Act.put, List.setIfInBounds_toArray, List.set_cons_zero, List.set_cons_succ]
  refine till_take (i := 3) (oi := ?o4) (d := (some 9)) (v := ?v4) ?hi4 (by kernel_rfl) (by kernel_rfl) (by kernel_rfl) (by kernel_rfl) (by kernel_rfl) (fun _ _ _ h => h) ?hd4 ?hw4 ?hy4 hHeld ?_
  case hi4 => (simp only [List.getElem?_toArray, List.getElem?_cons_zero, List.getElem?_cons_succ]; exact rfl)
  case hd4 => rfl
  case hw4 => rfl
  case hy4 => (intro w hSw; (try dsimp only at hSw); go_simp; try with_reducible rfl)
  try simp only [Act.put, List.setIfInBounds_toArray, List.set_cons_zero, List.set_cons_succ]
  refine till_take (i := 4) (oi := ?o5) (d := (some 10)) (v := ?v5) ?hi5 (by kernel_rfl) (by kernel_rfl) (by kernel_rfl) (by kernel_rfl) (by kernel_rfl) (fun _ _ _ h => h) ?hd5 ?hw5 ?hy5 hHeld ?_
  case hi5 => (simp only [List.getElem?_toArray, List.getElem?_cons_zero, List.getElem?_cons_succ]; exact rfl)
  case hd5 => rfl
  case hw5 => rfl
  case hy5 => (intro w hSw; (try dsimp only at hSw); go_simp; try with_reducible rfl)
  try simp only [Act.put, List.setIfInBounds_toArray, List.set_cons_zero, List.set_cons_succ]
  refine till_pure (i := 5) (oi := ?o6) (d := (some 11)) (v := ?v6) ?hi6 (by kernel_rfl) (by kernel_rfl) (by kernel_rfl) (by kernel_rfl) (fun _ _ _ h => h) ?hd6 ?hw6 ?hy6 hHeld ?_
  case hi6 => (simp only [List.getElem?_toArray, List.getElem?_cons_zero, List.getElem?_cons_succ]; exact rfl)
  case hd6 => rfl
  case hw6 => rfl
  case hy6 => (intro w; go_simp; try with_reducible rfl)
  try simp only [Act.put, List.setIfInBounds_toArray, List.set_cons_zero, List.set_cons_succ]
  refine till_pure (i := 6) (oi := ?o7) (d := (some 12)) (v := ?v7) ?hi7 (by kernel_rfl) (by kernel_rfl) (by kernel_rfl) (by kernel_rfl) (fun _ _ _ h => h) ?hd7 ?hw7 ?hy7 hHeld ?_
  case hi7 => (simp only [List.getElem?_toArray, List.getElem?_cons_zero, List.getElem?_cons_succ]; exact rfl)
  case hd7 => rfl
  case hw7 => rfl
  case hy7 => (intro w; go_simp; try with_reducible rfl)
  try simp only [Act.put, List.setIfInBounds_toArray, List.set_cons_zero, List.set_cons_succ]
  refine till_pure (i := 7) (oi := ?o8) (d := (some 13)) (v := ?v8) ?hi8 (by kernel_rfl) (by kernel_rfl) (by kernel_rfl) (by kernel_rfl) (fun _ _ _ h => h) ?hd8 ?hw8 ?hy8 hHeld ?_
  case hi8 => (simp only [List.getElem?_toArray, List.getElem?_cons_zero, List.getElem?_cons_succ]; exact rfl)
  case hd8 => rfl
  case hw8 => rfl
  case hy8 => (intro w; go_simp; try with_reducible rfl)
  try simp only [Act.put, List.setIfInBounds_toArray, List.set_cons_zero, List.set_cons_succ]
  refine till_take (i := 8) (oi := ?o9) (d := (some 14)) (v := ?v9) ?hi9 (by kernel_rfl) (by kernel_rfl) (by kernel_rfl) (by kernel_rfl) (by kernel_rfl) (fun _ _ _ h => h) ?hd9 ?hw9 ?hy9 hHeld ?_
  case hi9 => (simp only [List.getElem?_toArray, List.getElem?_cons_zero, List.getElem?_cons_succ]; exact rfl)
  case hd9 => rfl
  case hw9 => rfl
  case hy9 => (intro w hSw; (try dsimp only at hSw); go_simp; try with_reducible rfl)
  try simp only [Act.put, List.setIfInBounds_toArray, List.set_cons_zero, List.set_cons_succ]
  refine till_pure (i := 9) (oi := ?o10) (d := (some 15)) (v := ?v10) ?hi10 (by kernel_rfl) (by kernel_rfl) (by kernel_rfl) (by kernel_rfl) (fun _ _ _ h => h) ?hd10 ?hw10 ?hy10 hHeld ?_
  case hi10 => (simp only [List.getElem?_toArray, List.getElem?_cons_zero, List.getElem?_cons_succ]; exact rfl)
  case hd10 => rfl
  case hw10 => rfl
  case hy10 => (intro w; go_simp; try with_reducible rfl)
  try simp only [Act.put, List.setIfInBounds_toArray, List.set_cons_zero, List.set_cons_succ]
  refine till_take (i := 10) (oi := ?o11) (d := (some 16)) (v := ?v11) ?hi11 (by kernel_rfl) (by kernel_rfl) (by kernel_rfl) (by kernel_rfl) (by kernel_rfl) (fun _ _ _ h => h) ?hd11 ?hw11 ?hy11 hHeld ?_
  case hi11 => (simp only [List.getElem?_toArray, List.getElem?_cons_zero, List.getElem?_cons_succ]; exact rfl)
  case hd11 => rfl
  case hw11 => rfl
  case hy11 => (intro w hSw; (try dsimp only at hSw); go_simp; try with_reducible rfl)
  try simp only [Act.put, List.setIfInBounds_toArray, List.set_cons_zero, List.set_cons_succ]
  refine till_take (i := 11) (oi := ?o12) (d := (some 17)) (v := ?v12) ?hi12 (by kernel_rfl) (by kernel_rfl) (by kernel_rfl) (by kernel_rfl) (by kernel_rfl) (fun _ _ _ h => h) ?hd12 ?hw12 ?hy12 hHeld ?_
  case hi12 => (simp only [List.getElem?_toArray, List.getElem?_cons_zero, List.getElem?_cons_succ]; exact rfl)
  case hd12 => rfl
  case hw12 => rfl
  case hy12 => (intro w hSw; (try dsimp only at hSw); go_simp; try with_reducible rfl)
  try simp only [Act.put, List.setIfInBounds_toArray, List.set_cons_zero, List.set_cons_succ]
  refine till_take (i := 12) (oi := ?o13) (d := (some 18)) (v := ?v13) ?hi13 (by kernel_rfl) (by kernel_rfl) (by kernel_rfl) (by kernel_rfl) (by kernel_rfl) (fun _ _ _ h => h) ?hd13 ?hw13 ?hy13 hHeld ?_
  case hi13 => (simp only [List.getElem?_toArray, List.getElem?_cons_zero, List.getElem?_cons_succ]; exact rfl)
  case hd13 => rfl
  case hw13 => rfl
  case hy13 => (intro w hSw; (try dsimp only at hSw); go_simp; try with_reducible rfl)
  try simp only [Act.put, List.setIfInBounds_toArray, List.set_cons_zero, List.set_cons_succ]
  refine till_take (i := 13) (oi := ?o14) (d := (some 19)) (v := ?v14) ?hi14 (by kernel_rfl) (by kernel_rfl) (by kernel_rfl) (by kernel_rfl) (by kernel_rfl) (fun _ _ _ h => h) ?hd14 ?hw14 ?hy14 hHeld ?_
  case hi14 => (simp only [List.getElem?_toArray, List.getElem?_cons_zero, List.getElem?_cons_succ]; exact rfl)
  case hd14 => rfl
  case hw14 => rfl
  case hy14 => (intro w hSw; (try dsimp only at hSw); go_simp; try with_reducible rfl)
  try simp only [Act.put, List.setIfInBounds_toArray, List.set_cons_zero, List.set_cons_succ]
  refine till_take (i := 14) (oi := ?o15) (d := (some 20)) (v := ?v15) ?hi15 (by kernel_rfl) (by kernel_rfl) (by kernel_rfl) (by kernel_rfl) (by kernel_rfl) (fun _ _ _ h => h) ?hd15 ?hw15 ?hy15 hHeld ?_
  case hi15 => (simp only [List.getElem?_toArray, List.getElem?_cons_zero, List.getElem?_cons_succ]; exact rfl)
  case hd15 => rfl
  case hw15 => rfl
  case hy15 => (intro w hSw; (try dsimp only at hSw); go_simp; try with_reducible rfl)
  try simp only [Act.put, List.setIfInBounds_toArray, List.set_cons_zero, List.set_cons_succ]
  refine till_take (i := 15) (oi := ?o16) (d := (some 21)) (v := ?v16) ?hi16 (by kernel_rfl) (by kernel_rfl) (by kernel_rfl) (by kernel_rfl) (by kernel_rfl) (fun _ _ _ h => h) ?hd16 ?hw16 ?hy16 hHeld ?_
  case hi16 => (simp only [List.getElem?_toArray, List.getElem?_cons_zero, List.getElem?_cons_succ]; exact rfl)
  case hd16 => rfl
  case hw16 => rfl
  case hy16 => (intro w hSw; (try dsimp only at hSw); go_simp; try with_reducible rfl)
  try simp only [Act.put, List.setIfInBounds_toArray, List.set_cons_zero, List.set_cons_succ]
  refine till_take (i := 16) (oi := ?o17) (d := (some 22)) (v := ?v17) ?hi17 (by kernel_rfl) (by kernel_rfl) (by kernel_rfl) (by kernel_rfl) (by kernel_rfl) (fun _ _ _ h => h) ?hd17 ?hw17 ?hy17 hHeld ?_
  case hi17 => (simp only [List.getElem?_toArray, List.getElem?_cons_zero, List.getElem?_cons_succ]; exact rfl)
  case hd17 => rfl
  case hw17 => rfl
  case hy17 => (intro w hSw; (try dsimp only at hSw); go_simp; try with_reducible rfl)
  try simp only [Act.put, List.setIfInBounds_toArray, List.set_cons_zero, List.set_cons_succ]
  refine till_pure (i := 17) (oi := ?o18) (d := (some 23)) (v := ?v18) ?hi18 (by kernel_rfl) (by kernel_rfl) (by kernel_rfl) (by kernel_rfl) (fun _ _ _ h => h) ?hd18 ?hw18 ?hy18 hHeld ?_
  case hi18 => (simp only [List.getElem?_toArray, List.getElem?_cons_zero, List.getElem?_cons_succ]; exact rfl)
  case hd18 => rfl
  case hw18 => rfl
  case hy18 => (intro w; go_simp; try with_reducible rfl)
  try simp only [Act.put, List.setIfInBounds_toArray, List.set_cons_zero, List.set_cons_succ]
  refine till_pure (i := 18) (oi := ?o19) (d := (some 24)) (v := ?v19) ?hi19 (by kernel_rfl) (by kernel_rfl) (by kernel_rfl) (by kernel_rfl) (fun _ _ _ h => h) ?hd19 ?hw19 ?hy19 hHeld ?_
  case hi19 => (simp only [List.getElem?_toArray, List.getElem?_cons_zero, List.getElem?_cons_succ]; exact rfl)
  case hd19 => rfl
  case hw19 => rfl
  case hy19 => (intro w; go_simp; try with_reducible rfl)
  try simp only [Act.put, List.setIfInBounds_toArray, List.set_cons_zero, List.set_cons_succ]
  refine till_pure (i := 19) (oi := ?o20) (d := (some 25)) (v := ?v20) ?hi20 (by kernel_rfl) (by kernel_rfl) (by kernel_rfl) (by kernel_rfl) (fun _ _ _ h => h) ?hd20 ?hw20 ?hy20 hHeld ?_
  case hi20 => (simp only [List.getElem?_toArray, List.getElem?_cons_zero, List.getElem?_cons_succ]; exact rfl)
  case hd20 => rfl
  case hw20 => rfl
  case hy20 => (intro w; go_simp; try with_reducible rfl)
  try simp only [Act.put, List.setIfInBounds_toArray, List.set_cons_zero, List.set_cons_succ]
  refine till_take (i := 20) (oi := ?o21) (d := (some 26)) (v := ?v21) ?hi21 (by kernel_rfl) (by kernel_rfl) (by kernel_rfl) (by kernel_rfl) (by kernel_rfl) (fun _ _ _ h => h) ?hd21 ?hw21 ?hy21 hHeld ?_
  case hi21 => (simp only [List.getElem?_toArray, List.getElem?_cons_zero, List.getElem?_cons_succ]; exact rfl)
  case hd21 => rfl
  case hw21 => rfl
  case hy21 => (intro w hSw; (try dsimp only at hSw); go_simp; try with_reducible rfl)
  try simp only [Act.put, List.setIfInBounds_toArray, List.set_cons_zero, List.set_cons_succ]
  refine till_pure (i := 21) (oi := ?o22) (d := (some 27)) (v := ?v22) ?hi22 (by kernel_rfl) (by kernel_rfl) (by kernel_rfl) (by kernel_rfl) (fun _ _ _ h => h) ?hd22 ?hw22 ?hy22 hHeld ?_
  case hi22 => (simp only [List.getElem?_toArray, List.getElem?_cons_zero, List.getElem?_cons_succ]; exact rfl)
  case hd22 => rfl
  case hw22 => rfl
  case hy22 => (intro w; go_simp; try with_reducible rfl)
  try simp only [Act.put, List.setIfInBounds_toArray, List.set_cons_zero, List.set_cons_succ]
  refine till_pure (i := 22) (oi := ?o23) (d := (some 28)) (v := ?v23) ?hi23 (by kernel_rfl) (by kernel_rfl) (by kernel_rfl) (by kernel_rfl) (fun _ _ _ h => h) ?hd23 ?hw23 ?hy23 hHeld ?_
  case hi23 => (simp only [List.getElem?_toArray, List.getElem?_cons_zero, List.getElem?_cons_succ]; exact rfl)
  case hd23 => rfl
  case hw23 => rfl
  case hy23 => (intro w; go_simp; try with_reducible rfl)
  try simp only [Act.put, List.setIfInBounds_toArray, List.set_cons_zero, List.set_cons_succ]
  refine till_take (i := 23) (oi := ?o24) (d := (some 29)) (v := ?v24) ?hi24 (by kernel_rfl) (by kernel_rfl) (by kernel_rfl) (by kernel_rfl) (by kernel_rfl) (fun _ _ _ h => h) ?hd24 ?hw24 ?hy24 hHeld ?_
  case hi24 => (simp only [List.getElem?_toArray, List.getElem?_cons_zero, List.getElem?_cons_succ]; exact rfl)
  case hd24 => rfl
  case hw24 => rfl
  case hy24 => (intro w hSw; (try dsimp only at hSw); go_simp; try with_reducible rfl)
  try simp only [Act.put, List.setIfInBounds_toArray, List.set_cons_zero, List.set_cons_succ]
  refine till_take (i := 24) (oi := ?o25) (d := (some 30)) (v := ?v25) ?hi25 (by kernel_rfl) (by kernel_rfl) (by kernel_rfl) (by kernel_rfl) (by kernel_rfl) (fun _ _ _ h => h) ?hd25 ?hw25 ?hy25 hHeld ?_
  case hi25 => (simp only [List.getElem?_toArray, List.getElem?_cons_zero, List.getElem?_cons_succ]; exact rfl)
  case hd25 => rfl
  case hw25 => rfl
  case hy25 => (intro w hSw; (try dsimp only at hSw); go_simp; try with_reducible rfl)
  try simp only [Act.put, List.setIfInBounds_toArray, List.set_cons_zero, List.set_cons_succ]
  refine AnyTill.last (by kernel_rfl) ?_
  refine any_drop 25 (by kernel_rfl) (by kernel_rfl) ?_
  simp only [List.drop_succ_cons, List.drop_zero]
  go_wp2_with (first | (refine wpList_store_elem rfl 426 _ _ rfl HR.out (itemL_len f) i hi rfl (itemL f k) rfl rfl (item_one f k) item_size ?_; intro w3 hr3 hg3 hs3; have HR3 := Lib.hid hr3; have HG3 := Lib.hid hg3; clear hr3 hg3) | (refine wpList_store_elem rfl 426 _ _ rfl HR3.out (fun j => by unfold setL; split <;> rfl) k hk rfl (itemL f i) rfl rfl (item_one f i) item_size ?_; intro w4 hr4 hg4 hs4; have HR4 := Lib.hid hr4; have HG4 := Lib.hid hg4; clear hr4 hg4))
  have hpg4 : w4.heap[p]? = w.heap[p]? := (HG4.out.block p (by have := HG3.out.size; exact Nat.lt_of_lt_of_le (show p < w.drew.heap.size from HP.out.lt) this) (by simpa using hpg)).trans (HG3.out.block p HP.out.lt (by simpa using hpg))
  have hmb4 : w4.heap[mb]? = w.heap[mb]? := (HG4.out.block mb (by have := HG3.out.size; exact Nat.lt_of_lt_of_le (show mb < w.drew.heap.size from HM.out.lt) this) (by simpa using fun e => hgm e.symm)).trans (HG3.out.block mb HM.out.lt (by simpa using fun e => hgm e.symm))
  have hp4 : Arr w4 p 307 #[lessV, .slice (some ⟨g, 0, none⟩) l cap, .map (some mb), .int .i64 next] := hpg4.trans HP.out
  have hm4 := HM.out.same hmb4
  have hr4 := HR4.out
  rw [itemL_swap] at hr4
  have hT4 : Tch S w w4 := ((Tch.refl S w).grown (show w.grownBy w3 (some g) from ⟨HG3.out.os, HG3.out.tape, HG3.out.output, HG3.out.size, HG3.out.block⟩) (fun q e => .inl (by injection e with e; subst e; exact sg))).grown HG4.out (fun q e => .inl (by injection e with e; subst e; exact sg))
  clear x1 y0 y1 y2 z0 z1 z2 HR HP HM HR3 HR4 HG3 HG4 hs3 hs4 hpg4 hmb4 w3
  have x1 : w4.cell? ⟨p, 1, none⟩ = some (.slice (some ⟨g, 0, none⟩) l cap) := hp4.cell 1
  have x2 : w4.cell? ⟨p, 2, none⟩ = some (.map (some mb)) := hp4.cell 2
  have y2 : w4.cell? ⟨g, i * 3 + 2, none⟩ = some (.int .i64 (f k).handle) := by
    have := hr4.range (itemL_len _) hi 2 _ rfl
    rwa [(swap_at f i k).1] at this
  have z2 : w4.cell? ⟨g, k * 3 + 2, none⟩ = some (.int .i64 (f i).handle) := by
    have := hr4.range (itemL_len _) hk 2 _ rfl
    rwa [(swap_at f i k).2] at this
  have HR4 := Lib.hid hr4
  have HP4 := Lib.hid hp4
  have HT4 := Lib.hid hT4
  have hm4' : MapAt Tryz.prog 3 3 .i64 w4.drew mb l φ := hm4
  have HM4 := Lib.hid hm4'
  obtain ⟨hbi, hbi'⟩ := HH.out.bound.2.2.2 i hi
  obtain ⟨hbk, hbk'⟩ := HH.out.bound.2.2.2 k hk
  have hnx := HH.out.bound.2.2.1
  clear hr4 hp4 hT4 hm4 hm4'
  go_still_tail 13, (by kernel_rfl)
  change wpList _ _ _ _ _ w4.drew
  go_wp2_with (at_mapUpdate; refine wpList_mapUpdate_at rfl _ _ _ 304 rfl 3 3 .i64 Tryz.underlying3 Tryz.underlying3 Tryz.underlying304 mb l φ rfl HM4.out (by unfold maxLen; omega) _ _ rfl rfl (WalkArith.wf_i64 (by omega)) (WalkArith.wf_i64 (by omega)) ?_; intro w5 hm5 hg5; have HM5 := Lib.hid hm5; have HG5 := Lib.hid hg5; clear hm5 hg5)
  have hm5 := HM5.out
  rw [HPL.out.1 k hk] at hm5
  have hgr5 : w4.grownBy w5 (some mb) := ⟨HG5.out.os, HG5.out.tape, HG5.out.output, HG5.out.size, HG5.out.block⟩
  have hp5 : Arr w5 p 307 #[lessV, .slice (some ⟨g, 0, none⟩) l cap, .map (some mb), .int .i64 next] := (hgr5.block p HP4.out.lt (by simpa using hpm)).trans HP4.out
  have hr5 : RowIn S w5 426 3 (.slice (some ⟨g, 0, none⟩) l cap) l (itemL (swapD f i k)) := HR4.out.own_block hgr5 hgm
  have hT5 := HT4.out.grown hgr5 (fun q e => .inl (by injection e with e; subst e; exact sm))
  clear x1 x2 y2 z2 HM4 HM5 HG5 HP4 HR4 HT4
  have x1 : w5.cell? ⟨p, 1, none⟩ = some (.slice (some ⟨g, 0, none⟩) l cap) := hp5.cell 1
  have x2 : w5.cell? ⟨p, 2, none⟩ = some (.map (some mb)) := hp5.cell 2
  have z2 : w5.cell? ⟨g, k * 3 + 2, none⟩ = some (.int .i64 (f i).handle) := by
    have := hr5.range (itemL_len _) hk 2 _ rfl
    rwa [(swap_at f i k).2] at this
  have hm5' : MapAt Tryz.prog 3 3 .i64 w5.drew mb l (mput φ (f k).handle (some (i : Int))) := hm5
  have HM5 := Lib.hid hm5'
  have HR5 := Lib.hid hr5
  have HP5 := Lib.hid hp5
  have HT5 := Lib.hid hT5
  have HGR5 := Lib.hid hgr5
  clear hm5 hm5' hr5 hp5 hT5 hgr5
  go_still_tail 13, (by kernel_rfl)
  change wpList _ _ _ _ _ w5.drew
  go_wp2_with (at_mapUpdate; refine wpList_mapUpdate_at rfl _ _ _ 304 rfl 3 3 .i64 Tryz.underlying3 Tryz.underlying3 Tryz.underlying304 mb l _ rfl HM5.out (by unfold maxLen; omega) _ _ rfl rfl (WalkArith.wf_i64 (by omega)) (WalkArith.wf_i64 (by omega)) ?_; intro w6 hm6 hg6; have HM6 := Lib.hid hm6; have HG6 := Lib.hid hg6; clear hm6 hg6)
  have hm6 := HM6.out
  have hφ : mput φ (f k).handle (some (i : Int)) (f i).handle = some (if i = k then (i : Int) else (i : Int)) := by
    by_cases e : (f i).handle = (f k).handle
    · rw [e, mput_same]; simp
    · rw [mput_other _ _ e, HPL.out.1 i hi]; simp
  rw [hφ] at hm6
  have hgr6 : w5.grownBy w6 (some mb) := ⟨HG6.out.os, HG6.out.tape, HG6.out.output, HG6.out.size, HG6.out.block⟩
  have hp6 : Arr w6 p 307 #[lessV, .slice (some ⟨g, 0, none⟩) l cap, .map (some mb), .int .i64 next] := (hgr6.block p HP5.out.lt (by simpa using hpm)).trans HP5.out
  have hr6 := HR5.out.own_block hgr6 hgm
  have hT6 := HT5.out.grown hgr6 (fun q e => .inl (by injection e with e; subst e; exact sm))
  refine bodyPost_end (results_none Tryz.results275 _ _ _) rfl ⟨⟨_, rfl⟩, ⟨⟨_, mb, _, hp6, hr6, hm6, HPL.out.swap hi hk, sp, sm⟩, HH.out.bound.1, HH.out.bound.2.1, HH.out.bound.2.2.1, fun j hj => ?_⟩, hT6⟩
  by_cases h1 : j = k
  · subst h1; rw [(swap_at f i j).2]; exact HH.out.bound.2.2.2 i hi
  · by_cases h2 : j = i
    · subst h2; rw [(swap_at f j k).1]; exact HH.out.bound.2.2.2 k hk
    · rw [swap_else f h2 h1]; exact HH.out.bound.2.2.2 j hj

end Go.Proofs.YtkmpchffflemcaaGreatDoor.Hp
end

/- Heap4: The heap of what is due: ahead and settle over the heap in memory. -/
section
namespace Go.Proofs.YtkmpchffflemcaaGreatDoor.Hp
open Go.RowKit

theorem RowIn_keepT {S : Nat → Prop} {w w' : World} (hb : Below w.heap.size w w') {p l : Nat} {next : Int} {f : Nat → Due} (h : HeapIn S w p l next f) : HeapIn S w' p l next f := by
  obtain ⟨iv, mb, φ, hp, hr, hm, hpl, sp, sm⟩ := h.lies
  exact ⟨⟨iv, mb, φ, hp.keep hb, hr.keep hb, hm.same (hb.block mb hm.lt), hpl, sp, sm⟩, h.bound⟩
theorem ahead_in (S : Nat → Prop) (p l i k : Nat) (next : Int) (f : Nat → Due) (w : World) (h : HeapIn S w p l next f) (hi : i < l) (hk : k < l) :
    Calls Tryz.prog 282 #[.pointer (some ⟨p, 0, none⟩), .int .i64 i, .int .i64 k] w fun e w' => e = .returned (.bool (aheadD f i k)) ∧ Below w.heap.size w w' := by
  obtain ⟨iv, mb, φ, hp, hr, hm, hpl, sp, sm⟩ := h.lies
  obtain ⟨g, cap, rfl, sg, hcap, hcapm, hgl⟩ := hr.form (by omega)
  have ri := hr.range (itemL_len f) hi
  have rk := hr.range (itemL_len f) hk
  exact ahead_raw p g cap l i k _ _ _ _ _ _ w (hp.cell 0) (hp.cell 1) (ri 0 _ rfl) (ri 1 _ rfl) (ri 2 _ rfl) (rk 0 _ rfl) (rk 1 _ rfl) (rk 2 _ rfl) hi hk (by have := h.bound.1; omega) hcapm hp.lt hgl

set_option maxRecDepth 100000 in
set_option maxHeartbeats 2000000 in
theorem settle_in (S : Nat → Prop) (p l a0 : Nat) (next : Int) (f : Nat → Due) (w : World) (h : HeapIn S w p l next f) (ha : a0 < l) :
    Calls Tryz.prog 274 #[.pointer (some ⟨p, 0, none⟩), .int .i64 a0] w fun e w' => (∃ v, e = .returned v) ∧ HeapIn S w' p l next (settleD f l a0) ∧ Tch S w w' := by
  have HH := Lib.hid h
  have hl6 : l ≤ 65536 := h.bound.1
  clear h
  go_enter Tryz.func274, Tryz.ntmps274
  go_wp2_with fail
  go_loopw [1] (fun at_ wr => ∃ (k a : Nat) (f' : Nat → Due), a ≤ k ∧ a < l ∧ at_ = .int .i64 a ∧ HeapIn S wr p l next f' ∧ Tch S w wr ∧ up k f' a = up a0 f a0) (fun at_ _ => (intOf at_).toNat)
  case atStart => exact ⟨a0, a0, f, Nat.le_refl _, ha, rfl, HH.out, Tch.refl S w, rfl⟩
  case round =>
    obtain ⟨k, a, f', hka, hal, rfl, hI, ht, hup⟩ := hrel
    have HI := Lib.hid hI
    have HT := Lib.hid ht
    have HU := Lib.hid hup
    clear hI ht hup HH
    have ha0 : (0 : Int) ≤ (a : Int) := by omega
    have hal1 : (a : Int) ≤ 65536 := by omega
    rcases Nat.eq_zero_or_pos a with h0 | h0
    · have hst : up k f' a = (f', a) := up_stop (.inl h0)
      have HUS := Lib.hid (HU.out.symm.trans hst)
      have hq : ¬ (0 : Int) < (a : Int) := by omega
      clear HU hst h0
      go_wp2_with fail
      go_loopw [1, 4, 5] (fun at2 le kk wr2 => ∃ (k2 a2 : Nat) (f2 : Nat → Due), a2 < l ∧ l - a2 ≤ k2 ∧ at2 = .int .i64 a2 ∧ HeapIn S wr2 p l next f2 ∧ Tch S w wr2 ∧ down l k2 f2 a2 = settleD f l a0) (fun at2 _ _ _ => (l - intOf at2).toNat)
      case atStart => exact ⟨l, a, f', hal, by omega, rfl, HI.out, HT.out, by rw [settleD, HUS.out]⟩
      case round =>
        rename World => wo
        obtain ⟨k2, a2, f2, ha2, hk2, rfl, hI, ht, hdn⟩ := hrel
        clear HI HT HUS
        have HI := Lib.hid hI
        have HT := Lib.hid ht
        have HD := Lib.hid hdn
        clear hI ht hdn
        have ha20 : (0 : Int) ≤ (a2 : Int) := by omega
        have ha21 : (a2 : Int) ≤ 65536 := by omega
        go_wp2_with fail
        go_loopw [4, 5] (fun le kk wr3 => ∃ r : Nat, r ≤ 2 ∧ le = .int .i64 (pk f2 l a2 r : Nat) ∧ kk = .int .i64 (2 * (a2 : Int) + 1 + (r : Int)) ∧ HeapIn S wr3 p l next f2 ∧ Tch S w wr3) (fun _ kk _ => (2 * (a2 : Int) + 3 - intOf kk).toNat)
        case atStart => exact ⟨0, by omega, rfl, by go_num, HI.out, HT.out⟩
        case round =>
          rename World => wi
          obtain ⟨r, hr2, rfl, rfl, hI, ht⟩ := hrel
          clear HI HT
          have HI := Lib.hid hI
          have HT := Lib.hid ht
          clear hI ht
          obtain ⟨q, hq⟩ : ∃ q, pk f2 l a2 r = q := ⟨_, rfl⟩
          have hql : q < l := by rw [← hq]; exact pk_lt ha2 r
          have hqa := pk_ge (f := f2) (l := l) (at_ := a2) r
          rw [hq] at hqa ⊢
          have HQ := Lib.hid hq
          have HQA := Lib.hid hqa
          clear hq hqa
          obtain ⟨iv, mb, φ, hpA, hrA, hmA, hplA, spA, smA⟩ := HI.out.lies
          obtain ⟨g, cap, rfl, sg, hcap, hcapm, hgl⟩ := hrA.form (by omega)
          have x1 : wi.cell? ⟨p, 1, none⟩ = some (.slice (some ⟨g, 0, none⟩) l cap) := hpA.cell 1
          clear hpA hrA hmA hplA spA smA hgl sg hcap hcapm
          by_cases hr : r < 2
          · by_cases hl : 2 * a2 + 1 + r < l
            · have hc1 : (2 * (a2 : Int) + 1 + (r : Int)) ≤ 2 * (a2 : Int) + 2 := by omega
              have hc2 : (2 * (a2 : Int) + 1 + (r : Int)) < (l : Int) := by omega
              obtain ⟨kn, hkn⟩ : ∃ kn : Nat, 2 * a2 + 1 + r = kn := ⟨_, rfl⟩
              have hki : 2 * (a2 : Int) + 1 + (r : Int) = (kn : Int) := by omega
              rw [hki] at hc1 hc2 ⊢
              have hkl : kn < l := by omega
              have hk0 : (0 : Int) ≤ (kn : Int) := by omega
              have hk6 : (kn : Int) ≤ 65536 := by omega
              have HKN := Lib.hid hkn
              have HKI := Lib.hid hki
              clear hkn hki hl
              cases hah : aheadD f2 kn q
              case true =>
                have hst : pk f2 l a2 (r + 1) = kn := by
                  have := pk_yes (f := f2) (l := l) (at_ := a2) (r := r) (by rw [HKN.out]; exact hkl) (by rw [HKN.out, HQ.out]; exact hah)
                  rw [this, HKN.out]
                have HST := Lib.hid hst
                clear hst
                go_wp2_with fail
                refine (ahead_in S p l kn q next f2 _ HI.out hkl hql).mono ?_
                rw [hah]
                rintro e w2 ⟨rfl, hb2⟩
                have HI2 := Lib.hid (RowIn_keepT hb2 HI.out)
                have HT2 := Lib.hid (HT.out.below hb2)
                clear hb2
                go_wp2_with fail
                go_roundw
                case rel => exact ⟨r + 1, by omega, by rw [HST.out], by have := HKI.out; first | (congr 1; omega) | go_num, HI2.out, HT2.out⟩
                case measure => simp [intOf]; omega
              case false =>
                have hst : pk f2 l a2 (r + 1) = q := by
                  have := pk_no (f := f2) (l := l) (at_ := a2) (r := r) (by rw [HKN.out, HQ.out]; exact hah)
                  rw [this, HQ.out]
                have HST := Lib.hid hst
                clear hst
                go_wp2_with fail
                refine (ahead_in S p l kn q next f2 _ HI.out hkl hql).mono ?_
                rw [hah]
                rintro e w2 ⟨rfl, hb2⟩
                have HI2 := Lib.hid (RowIn_keepT hb2 HI.out)
                have HT2 := Lib.hid (HT.out.below hb2)
                clear hb2
                go_wp2_with fail
                go_roundw
                case rel => exact ⟨r + 1, by omega, by rw [HST.out], by have := HKI.out; first | (congr 1; omega) | go_num, HI2.out, HT2.out⟩
                case measure => simp [intOf]; omega
            · have hc1 : (2 * (a2 : Int) + 1 + (r : Int)) ≤ 2 * (a2 : Int) + 2 := by omega
              have hc2 : ¬ (2 * (a2 : Int) + 1 + (r : Int)) < (l : Int) := by omega
              have hpick : pick f2 l a2 = q := by
                have := pk_stop (f := f2) (l := l) (at_ := a2) (r := r) (by omega) (2 - r)
                rw [show r + (2 - r) = 2 by omega, HQ.out] at this
                exact this
              have HPK := Lib.hid hpick
              clear hpick
              have hq0 : (0 : Int) ≤ (q : Int) := by omega
              by_cases hqa : q = a2
              · subst hqa
                have HDN := Lib.hid (HD.out.symm.trans (down_stop HPK.out))
                go_wp2_with fail
                refine bodyPost_ret (results_none Tryz.results274 _ _ _) rfl ⟨⟨_, rfl⟩, ?_, HT.out⟩
                rw [HDN.out]
                exact HI.out
              · have hne : ((q : Int) == (a2 : Int)) = false := by simp; omega
                have hlt : a2 < q := by rcases HQA.out with h1 | h1; exact absurd h1 hqa; exact h1
                obtain ⟨j, hj⟩ : ∃ j, k2 = j + 1 := ⟨k2 - 1, by omega⟩
                have HDN := Lib.hid (show down l j (swapD f2 a2 q) q = settleD f l a0 from by
                  have h1 := HD.out
                  rw [hj, down_step (by rw [HPK.out]; exact hqa), HPK.out] at h1
                  exact h1)
                have HJ := Lib.hid (show l - q ≤ j by omega)
                have HQE := Lib.hid hqa
                clear hqa hj
                go_wp2_with fail
                refine (swap_in S p l a2 q next f2 _ HI.out ha2 hql).mono ?_
                rintro e w3 ⟨⟨v3, rfl⟩, hI3, hT3⟩
                have HI3 := Lib.hid hI3
                have HT3 := Lib.hid (HT.out.trans hT3)
                clear hI3 hT3
                go_wp2_with fail
                go_roundw
                case rel => exact ⟨j, q, swapD f2 a2 q, hql, HJ.out, by first | rfl | go_num, HI3.out, HT3.out, HDN.out⟩
                case measure => simp [intOf]; omega
          · have hc1 : ¬ (2 * (a2 : Int) + 1 + (r : Int)) ≤ 2 * (a2 : Int) + 2 := by omega
            have hpick : pick f2 l a2 = q := by
              have e2 : r = 2 := by omega
              have := HQ.out
              rw [e2] at this
              exact this
            have HPK := Lib.hid hpick
            clear hpick
            have hq0 : (0 : Int) ≤ (q : Int) := by omega
            by_cases hqa : q = a2
            · subst hqa
              have HDN := Lib.hid (HD.out.symm.trans (down_stop HPK.out))
              go_wp2_with fail
              refine bodyPost_ret (results_none Tryz.results274 _ _ _) rfl ⟨⟨_, rfl⟩, ?_, HT.out⟩
              rw [HDN.out]
              exact HI.out
            · have hne : ((q : Int) == (a2 : Int)) = false := by simp; omega
              have hlt : a2 < q := by rcases HQA.out with h1 | h1; exact absurd h1 hqa; exact h1
              obtain ⟨j, hj⟩ : ∃ j, k2 = j + 1 := ⟨k2 - 1, by omega⟩
              have HDN := Lib.hid (show down l j (swapD f2 a2 q) q = settleD f l a0 from by
                have h1 := HD.out
                rw [hj, down_step (by rw [HPK.out]; exact hqa), HPK.out] at h1
                exact h1)
              have HJ := Lib.hid (show l - q ≤ j by omega)
              have HQE := Lib.hid hqa
              clear hqa hj
              go_wp2_with fail
              refine (swap_in S p l a2 q next f2 _ HI.out ha2 hql).mono ?_
              rintro e w3 ⟨⟨v3, rfl⟩, hI3, hT3⟩
              have HI3 := Lib.hid hI3
              have HT3 := Lib.hid (HT.out.trans hT3)
              clear hI3 hT3
              go_wp2_with fail
              go_roundw
              case rel => exact ⟨j, q, swapD f2 a2 q, hql, HJ.out, by first | rfl | go_num, HI3.out, HT3.out, HDN.out⟩
              case measure => simp [intOf]; omega
    · have hq : (0 : Int) < (a : Int) := by omega
      obtain ⟨b, hb⟩ : ∃ b, (a - 1) / 2 = b := ⟨_, rfl⟩
      have hba : b < a := by omega
      have hbi : ((a : Int) - 1) / 2 = (b : Int) := by omega
      have hbl : b < l := by omega
      have hb0 : (0 : Int) ≤ (b : Int) := by omega
      have hb1 : (b : Int) ≤ 65536 := by omega
      cases hah : aheadD f' a b
      case true =>
        have hstep : ∀ j, k = j + 1 → up k f' a = up j (swapD f' a b) b := fun j e => by
          subst e
          have := up_step (k := j) (f := f') h0 (by rw [hb]; exact hah)
          rwa [hb] at this
        have hk0 : ∃ j, k = j + 1 := ⟨k - 1, by omega⟩
        obtain ⟨j, hj⟩ := hk0
        have HUS := Lib.hid ((hstep j hj).symm.trans HU.out)
        have hbj : b ≤ j := by omega
        have HK := Lib.hid hbj
        clear HU hstep hka hj hbj h0
        have HB := Lib.hid hb
        clear hb
        go_wp2_with fail
        refine (ahead_in S p l a b next f' _ HI.out hal hbl).mono ?_
        rw [hah]
        rintro e w2 ⟨rfl, hb2⟩
        have hI2 := RowIn_keepT hb2 HI.out
        have hT2 := HT.out.below hb2
        have HI2 := Lib.hid hI2
        have HT2 := Lib.hid hT2
        clear hI2 hT2 hb2
        go_wp2_with fail
        refine (swap_in S p l a b next f' _ HI2.out hal hbl).mono ?_
        rintro e w3 ⟨⟨v3, rfl⟩, hI3, hT3⟩
        have HI3 := Lib.hid hI3
        have HT3 := Lib.hid (HT2.out.trans hT3)
        clear hI3 hT3
        go_wp2_with fail
        go_roundw
        case rel => exact ⟨j, b, swapD f' a b, HK.out, hbl, by first | rfl | go_num, HI3.out, HT3.out, HUS.out⟩
        case measure => simp [intOf]; omega
      case false =>
        have hst : up k f' a = (f', a) := up_stop (.inr (by rw [hb]; exact hah))
        have HUS := Lib.hid (HU.out.symm.trans hst)
        clear HU hst h0
        have HB := Lib.hid hb
        clear hb
        go_wp2_with fail
        refine (ahead_in S p l a b next f' _ HI.out hal hbl).mono ?_
        rw [hah]
        rintro e w2 ⟨rfl, hb2⟩
        have hI2 := RowIn_keepT hb2 HI.out
        have hT2 := HT.out.below hb2
        clear HI HT
        have HI := Lib.hid hI2
        have HT := Lib.hid hT2
        clear hI2 hT2 hb2 hq hbi hb0 hb1 hba hbl HB hah
        go_wp2_with fail
        go_loopw [1, 4, 5] (fun at2 le kk wr2 => ∃ (k2 a2 : Nat) (f2 : Nat → Due), a2 < l ∧ l - a2 ≤ k2 ∧ at2 = .int .i64 a2 ∧ HeapIn S wr2 p l next f2 ∧ Tch S w wr2 ∧ down l k2 f2 a2 = settleD f l a0) (fun at2 _ _ _ => (l - intOf at2).toNat)
        case atStart => exact ⟨l, a, f', hal, by omega, rfl, HI.out, HT.out, by rw [settleD, HUS.out]⟩
        case round =>
          rename World => wo
          obtain ⟨k2, a2, f2, ha2, hk2, rfl, hI, ht, hdn⟩ := hrel
          clear HI HT HUS
          have HI := Lib.hid hI
          have HT := Lib.hid ht
          have HD := Lib.hid hdn
          clear hI ht hdn
          have ha20 : (0 : Int) ≤ (a2 : Int) := by omega
          have ha21 : (a2 : Int) ≤ 65536 := by omega
          go_wp2_with fail
          go_loopw [4, 5] (fun le kk wr3 => ∃ r : Nat, r ≤ 2 ∧ le = .int .i64 (pk f2 l a2 r : Nat) ∧ kk = .int .i64 (2 * (a2 : Int) + 1 + (r : Int)) ∧ HeapIn S wr3 p l next f2 ∧ Tch S w wr3) (fun _ kk _ => (2 * (a2 : Int) + 3 - intOf kk).toNat)
          case atStart => exact ⟨0, by omega, rfl, by go_num, HI.out, HT.out⟩
          case round =>
            rename World => wi
            obtain ⟨r, hr2, rfl, rfl, hI, ht⟩ := hrel
            clear HI HT
            have HI := Lib.hid hI
            have HT := Lib.hid ht
            clear hI ht
            obtain ⟨q, hq⟩ : ∃ q, pk f2 l a2 r = q := ⟨_, rfl⟩
            have hql : q < l := by rw [← hq]; exact pk_lt ha2 r
            have hqa := pk_ge (f := f2) (l := l) (at_ := a2) r
            rw [hq] at hqa ⊢
            have HQ := Lib.hid hq
            have HQA := Lib.hid hqa
            clear hq hqa
            obtain ⟨iv, mb, φ, hpA, hrA, hmA, hplA, spA, smA⟩ := HI.out.lies
            obtain ⟨g, cap, rfl, sg, hcap, hcapm, hgl⟩ := hrA.form (by omega)
            have x1 : wi.cell? ⟨p, 1, none⟩ = some (.slice (some ⟨g, 0, none⟩) l cap) := hpA.cell 1
            clear hpA hrA hmA hplA spA smA hgl sg hcap hcapm
            by_cases hr : r < 2
            · by_cases hl : 2 * a2 + 1 + r < l
              · have hc1 : (2 * (a2 : Int) + 1 + (r : Int)) ≤ 2 * (a2 : Int) + 2 := by omega
                have hc2 : (2 * (a2 : Int) + 1 + (r : Int)) < (l : Int) := by omega
                obtain ⟨kn, hkn⟩ : ∃ kn : Nat, 2 * a2 + 1 + r = kn := ⟨_, rfl⟩
                have hki : 2 * (a2 : Int) + 1 + (r : Int) = (kn : Int) := by omega
                rw [hki] at hc1 hc2 ⊢
                have hkl : kn < l := by omega
                have hk0 : (0 : Int) ≤ (kn : Int) := by omega
                have hk6 : (kn : Int) ≤ 65536 := by omega
                have HKN := Lib.hid hkn
                have HKI := Lib.hid hki
                clear hkn hki hl
                cases hah : aheadD f2 kn q
                case true =>
                  have hst : pk f2 l a2 (r + 1) = kn := by
                    have := pk_yes (f := f2) (l := l) (at_ := a2) (r := r) (by rw [HKN.out]; exact hkl) (by rw [HKN.out, HQ.out]; exact hah)
                    rw [this, HKN.out]
                  have HST := Lib.hid hst
                  clear hst
                  go_wp2_with fail
                  refine (ahead_in S p l kn q next f2 _ HI.out hkl hql).mono ?_
                  rw [hah]
                  rintro e w2 ⟨rfl, hb2⟩
                  have HI2 := Lib.hid (RowIn_keepT hb2 HI.out)
                  have HT2 := Lib.hid (HT.out.below hb2)
                  clear hb2
                  go_wp2_with fail
                  go_roundw
                  case rel => exact ⟨r + 1, by omega, by rw [HST.out], by have := HKI.out; first | (congr 1; omega) | go_num, HI2.out, HT2.out⟩
                  case measure => simp [intOf]; omega
                case false =>
                  have hst : pk f2 l a2 (r + 1) = q := by
                    have := pk_no (f := f2) (l := l) (at_ := a2) (r := r) (by rw [HKN.out, HQ.out]; exact hah)
                    rw [this, HQ.out]
                  have HST := Lib.hid hst
                  clear hst
                  go_wp2_with fail
                  refine (ahead_in S p l kn q next f2 _ HI.out hkl hql).mono ?_
                  rw [hah]
                  rintro e w2 ⟨rfl, hb2⟩
                  have HI2 := Lib.hid (RowIn_keepT hb2 HI.out)
                  have HT2 := Lib.hid (HT.out.below hb2)
                  clear hb2
                  go_wp2_with fail
                  go_roundw
                  case rel => exact ⟨r + 1, by omega, by rw [HST.out], by have := HKI.out; first | (congr 1; omega) | go_num, HI2.out, HT2.out⟩
                  case measure => simp [intOf]; omega
              · have hc1 : (2 * (a2 : Int) + 1 + (r : Int)) ≤ 2 * (a2 : Int) + 2 := by omega
                have hc2 : ¬ (2 * (a2 : Int) + 1 + (r : Int)) < (l : Int) := by omega
                have hpick : pick f2 l a2 = q := by
                  have := pk_stop (f := f2) (l := l) (at_ := a2) (r := r) (by omega) (2 - r)
                  rw [show r + (2 - r) = 2 by omega, HQ.out] at this
                  exact this
                have HPK := Lib.hid hpick
                clear hpick
                have hq0 : (0 : Int) ≤ (q : Int) := by omega
                by_cases hqa : q = a2
                · subst hqa
                  have HDN := Lib.hid (HD.out.symm.trans (down_stop HPK.out))
                  go_wp2_with fail
                  refine bodyPost_ret (results_none Tryz.results274 _ _ _) rfl ⟨⟨_, rfl⟩, ?_, HT.out⟩
                  rw [HDN.out]
                  exact HI.out
                · have hne : ((q : Int) == (a2 : Int)) = false := by simp; omega
                  have hlt : a2 < q := by rcases HQA.out with h1 | h1; exact absurd h1 hqa; exact h1
                  obtain ⟨j, hj⟩ : ∃ j, k2 = j + 1 := ⟨k2 - 1, by omega⟩
                  have HDN := Lib.hid (show down l j (swapD f2 a2 q) q = settleD f l a0 from by
                    have h1 := HD.out
                    rw [hj, down_step (by rw [HPK.out]; exact hqa), HPK.out] at h1
                    exact h1)
                  have HJ := Lib.hid (show l - q ≤ j by omega)
                  have HQE := Lib.hid hqa
                  clear hqa hj
                  go_wp2_with fail
                  refine (swap_in S p l a2 q next f2 _ HI.out ha2 hql).mono ?_
                  rintro e w3 ⟨⟨v3, rfl⟩, hI3, hT3⟩
                  have HI3 := Lib.hid hI3
                  have HT3 := Lib.hid (HT.out.trans hT3)
                  clear hI3 hT3
                  go_wp2_with fail
                  go_roundw
                  case rel => exact ⟨j, q, swapD f2 a2 q, hql, HJ.out, by first | rfl | go_num, HI3.out, HT3.out, HDN.out⟩
                  case measure => simp [intOf]; omega
            · have hc1 : ¬ (2 * (a2 : Int) + 1 + (r : Int)) ≤ 2 * (a2 : Int) + 2 := by omega
              have hpick : pick f2 l a2 = q := by
                have e2 : r = 2 := by omega
                have := HQ.out
                rw [e2] at this
                exact this
              have HPK := Lib.hid hpick
              clear hpick
              have hq0 : (0 : Int) ≤ (q : Int) := by omega
              by_cases hqa : q = a2
              · subst hqa
                have HDN := Lib.hid (HD.out.symm.trans (down_stop HPK.out))
                go_wp2_with fail
                refine bodyPost_ret (results_none Tryz.results274 _ _ _) rfl ⟨⟨_, rfl⟩, ?_, HT.out⟩
                rw [HDN.out]
                exact HI.out
              · have hne : ((q : Int) == (a2 : Int)) = false := by simp; omega
                have hlt : a2 < q := by rcases HQA.out with h1 | h1; exact absurd h1 hqa; exact h1
                obtain ⟨j, hj⟩ : ∃ j, k2 = j + 1 := ⟨k2 - 1, by omega⟩
                have HDN := Lib.hid (show down l j (swapD f2 a2 q) q = settleD f l a0 from by
                  have h1 := HD.out
                  rw [hj, down_step (by rw [HPK.out]; exact hqa), HPK.out] at h1
                  exact h1)
                have HJ := Lib.hid (show l - q ≤ j by omega)
                have HQE := Lib.hid hqa
                clear hqa hj
                go_wp2_with fail
                refine (swap_in S p l a2 q next f2 _ HI.out ha2 hql).mono ?_
                rintro e w3 ⟨⟨v3, rfl⟩, hI3, hT3⟩
                have HI3 := Lib.hid hI3
                have HT3 := Lib.hid (HT.out.trans hT3)
                clear hI3 hT3
                go_wp2_with fail
                go_roundw
                case rel => exact ⟨j, q, swapD f2 a2 q, hql, HJ.out, by first | rfl | go_num, HI3.out, HT3.out, HDN.out⟩
                case measure => simp [intOf]; omega

end Go.Proofs.YtkmpchffflemcaaGreatDoor.Hp
end
end

/- Packed: Bits Bits2 Bits3 Idx Idx2 IdxPlain Idx3 Idx4 -/
section
set_option linter.unusedVariables false
set_option linter.unusedSimpArgs false
/- Bits: The contracts of bits.Set: there, Has, change (in), Put. -/
section
namespace Go.Proofs.YtkmpchffflemcaaGreatDoor.Bit
open Go.RowKit

/-- a set below n, its words: the set's own block p, the words' block g -/
structure SetAt (w : World) (p g c n : Nat) (ws : Nat → Nat) : Prop where
  own : Arr w p 300 #[.bool true, .int .i64 n, .slice (some ⟨g, 0, none⟩) ((n + 63) / 64) c]
  row : ∃ cur, w.heap[g]? = some (.cells cur 57 (0, 0)) ∧ ∀ j, j < (n + 63) / 64 → cur[j]? = some (.int .u64 (ws j))
  small : ∀ j, ws j < 18446744073709551616
  apart : p ≠ g
def hasB (ws : Nat → Nat) (i : Nat) : Bool := (ws (i / 64)).testBit (i % 64)
theorem SetAt.keep {w w' : World} {p g c n : Nat} {ws : Nat → Nat} (h : SetAt w p g c n ws) (hb : Below w.heap.size w w') : SetAt w' p g c n ws := by
  obtain ⟨cur, h1, h2⟩ := h.row
  exact ⟨h.own.keep hb, ⟨cur, (hb.block g (Array.getElem?_eq_some_iff.1 h1).1).trans h1, h2⟩, h.small, h.apart⟩
theorem SetAt.word {w : World} {p g c n : Nat} {ws : Nat → Nat} (h : SetAt w p g c n ws) {j : Nat} (hj : j < (n + 63) / 64) : w.cell? ⟨g, j, none⟩ = some (.int .u64 (ws j)) ∧ w.frozen? ⟨g, j, none⟩ = false := by
  obtain ⟨cur, h1, h2⟩ := h.row
  exact ⟨by rw [show w.cell? ⟨g, j, none⟩ = cur[j]? from by simp [World.cell?, h1]]; exact h2 j hj, by simp [World.frozen?, h1]⟩
theorem bit_test (x k : Nat) (hx : x < 18446744073709551616) : (Go.bits BinOp.and IntKind.u64 ((x : Int) / 2 ^ k) 1 == 1) = x.testBit k := by
  have e : (x : Int) / 2 ^ k = ((x / 2 ^ k : Nat) : Int) := by simp
  have hs : x / 2 ^ k ≤ x := Nat.div_le_self _ _
  rw [e, Nat.testBit_eq_decide_div_mod_eq]
  generalize x / 2 ^ k = y at hs
  rw [and_one_u64 _ (by omega) (by omega)]
  rw [Bool.eq_iff_iff, beq_iff_eq, decide_eq_true_eq]
  omega

-- (*gangway/bits.Set).there
set_option maxRecDepth 100000 in
set_option maxHeartbeats 1000000 in
theorem There (p : Nat) (w : World) (h : w.cell? ⟨p, 0, none⟩ = some (.bool true)) : Calls Tryz.prog 247 #[.pointer (some ⟨p, 0, none⟩)] w fun e w' => e = .returned (.bool true) ∧ w' = w := by
  go_enter Tryz.func247, Tryz.ntmps247
  go_wp2_with fail
  go_ret
  exact ⟨rfl, rfl⟩

-- (*gangway/bits.Set).Has
set_option maxRecDepth 100000 in
set_option maxHeartbeats 1000000 in
theorem Has_in (p g c n i : Nat) (ws : Nat → Nat) (w : World) (h : SetAt w p g c n ws) (hi : i < n) (hn : n ≤ 1000000) : Calls Tryz.prog 212 #[.pointer (some ⟨p, 0, none⟩), .int .i64 i] w fun e w' => e = .returned (.bool (hasB ws i)) ∧ w' = w := by
  have x0 : w.cell? ⟨p, 0, none⟩ = some (.bool true) := h.own.cell 0
  have x1 : w.cell? ⟨p, 1, none⟩ = some (.int .i64 n) := h.own.cell 1
  have x2 : w.cell? ⟨p, 2, none⟩ = some (.slice (some ⟨g, 0, none⟩) ((n + 63) / 64) c) := h.own.cell 2
  obtain ⟨q, hq⟩ : ∃ q, i / 64 = q := ⟨_, rfl⟩
  obtain ⟨k, hk⟩ : ∃ k, i % 64 = k := ⟨_, rfl⟩
  have hqn : q < (n + 63) / 64 := by omega
  obtain ⟨y0, _⟩ := h.word hqn
  have e1 : (i : Int) / 64 = (q : Int) := by omega
  have e2 : (i : Int) % 64 = (k : Int) := by omega
  have e3 : hasB ws i = (ws q).testBit k := by unfold hasB; rw [hq, hk]
  have hb := bit_test (ws q) k (h.small q)
  obtain ⟨nw, hnw⟩ : ∃ nw, (n + 63) / 64 = nw := ⟨_, rfl⟩
  rw [hnw] at x2 hqn
  have hqn2 : (q : Int) < (nw : Int) := by omega
  have hq0 : (0 : Int) ≤ (q : Int) := by omega
  have hk63 : k < 64 := by omega
  have hi1 : (i : Int) < (n : Int) := by omega
  have hi0 : (0 : Int) ≤ (i : Int) := by omega
  rw [e3]
  have HB := Lib.hid hb
  clear h hq hk hnw e3 hb
  go_enter Tryz.func212, Tryz.ntmps212
  go_wp2_with fail
  refine (There p _ x0).mono ?_
  rintro e w1 ⟨rfl, hw⟩
  subst hw
  go_wp2_with fail
  go_ret
  exact ⟨by rw [← HB.out]; rfl, rfl⟩

end Go.Proofs.YtkmpchffflemcaaGreatDoor.Bit
end

/- Bits2: bits.Set: Put. -/
section
namespace Go.Proofs.YtkmpchffflemcaaGreatDoor.Bit
open Go.RowKit

theorem or_set (x k : Nat) (hx : x < 18446744073709551616) (hk : k < 64) : Go.bits BinOp.or IntKind.u64 (x : Int) (IntKind.u64.wrap (2 ^ k)) = ((x ||| 2 ^ k : Nat) : Int) := by
  have h1 : (2 : Nat) ^ k < 18446744073709551616 := Nat.pow_lt_pow_right (n := 64) (by decide) hk
  have e : IntKind.u64.wrap ((2 : Int) ^ k) = ((2 ^ k : Nat) : Int) := by
    rw [show ((2 : Int) ^ k) = ((2 ^ k : Nat) : Int) from by simp, IntKind.wrap_u64]
    generalize (2 : Nat) ^ k = y at h1
    omega
  rw [e, bits_or_u64_nat x (2 ^ k) hx h1]

set_option maxRecDepth 100000 in
set_option maxHeartbeats 2000000 in
theorem Change_in (p g c n i : Nat) (ws : Nat → Nat) (w : World) (h : SetAt w p g c n ws) (hi : i < n) (hn : n ≤ 1000000) : Calls Tryz.prog 264 #[.pointer (some ⟨p, 0, none⟩), .int .i64 i, .bool true] w fun e w' => e = .returned (.int .i64 0) ∧ SetAt w' p g c n (fun j => if j = i / 64 then ws j ||| 2 ^ (i % 64) else ws j) ∧ w.grownBy w' (some g) := by
  have x0 : w.cell? ⟨p, 0, none⟩ = some (.bool true) := h.own.cell 0
  have x1 : w.cell? ⟨p, 1, none⟩ = some (.int .i64 n) := h.own.cell 1
  have x2 : w.cell? ⟨p, 2, none⟩ = some (.slice (some ⟨g, 0, none⟩) ((n + 63) / 64) c) := h.own.cell 2
  obtain ⟨q, hq⟩ : ∃ q, i / 64 = q := ⟨_, rfl⟩
  obtain ⟨k, hk⟩ : ∃ k, i % 64 = k := ⟨_, rfl⟩
  have hqn : q < (n + 63) / 64 := by omega
  obtain ⟨y0, m0⟩ := h.word hqn
  have e1 : (i : Int) / 64 = (q : Int) := by omega
  have e2 : (i : Int) % 64 = (k : Int) := by omega
  obtain ⟨nw, hnw⟩ : ∃ nw, (n + 63) / 64 = nw := ⟨_, rfl⟩
  rw [hnw] at x2 hqn
  rw [hq, hk]
  have hqn2 : (q : Int) < (nw : Int) := by omega
  have hq0 : (0 : Int) ≤ (q : Int) := by omega
  have hk63 : k < 64 := by omega
  have hi1 : (i : Int) < (n : Int) := by omega
  have hi0 : (0 : Int) ≤ (i : Int) := by omega
  have hpg : p ≠ g := h.apart
  have t1 : (i : Int).tmod 64 = (k : Int) := by rw [Int.tmod_eq_emod_of_nonneg (by omega)]; exact e2
  have hk0 : (0 : Int) ≤ (k : Int) := by omega
  have v1 : IntKind.i64.wrap (q : Int) = (q : Int) := IntWalk.i64_in _ (by omega)
  have v2 : IntKind.i64.wrap (k : Int) = (k : Int) := IntWalk.i64_in _ (by omega)
  have HS := Lib.hid h
  clear h hq hk hnw
  go_enter Tryz.func264, Tryz.ntmps264
  go_wp2_with fail
  refine (There p _ x0).mono ?_
  rintro e w1 ⟨rfl, hw⟩
  rw [hw]
  clear hw w1
  go_wp2_with fail
  have hS : w.cell? ⟨p, 2, none⟩ = some (.slice (some ⟨g, 0, none⟩) nw c) ∧ w.cell? ⟨g, q, none⟩ = some (.int .u64 (ws q)) ∧ w.frozen? ⟨g, q, none⟩ = false := ⟨x2, y0, m0⟩
  go_still_tail 13, (by kernel_rfl)
  change wpList _ _ _ _ _ w.drew
  have hS2 : w.drew.cell? ⟨p, 2, none⟩ = some (.slice (some ⟨g, 0, none⟩) nw c) ∧ w.drew.cell? ⟨g, q, none⟩ = some (.int .u64 (ws q)) ∧ w.drew.frozen? ⟨g, q, none⟩ = false := hS
  obtain ⟨z1, z2, z3⟩ := hS2
  obtain ⟨w2, hw2⟩ : ∃ w2, w.drew = w2 := ⟨_, rfl⟩
  rw [hw2] at z1 z2 z3 ⊢
  have HW2 := Lib.hid hw2
  clear hw2 hS
  go_wp2_with fail
  go_ret
  rw [or_set _ _ (HS.out.small q) hk63, ← HW2.out]
  have h0 := HS.out
  have hg1 : w.grownBy w.drew (some g) := ⟨rfl, rfl, rfl, Nat.le_refl _, fun _ _ _ => rfl⟩
  have hg2 : w.drew.grownBy (w.drew.setCell ⟨g, q, none⟩ (.int .u64 ((ws q ||| 2 ^ k : Nat) : Int))) (some g) := ⟨rfl, rfl, rfl, by simp, fun j _ hj => Below.heap_setCell _ _ _ j (fun e => hj (by rw [e]))⟩
  obtain ⟨cur, r1, r2⟩ := h0.row
  refine ⟨rfl, ⟨Arr.other (Arr.drew h0.own) hpg _, ⟨cur.setIfInBounds q (.int .u64 ((ws q ||| 2 ^ k : Nat) : Int)), ?_, fun j hj => ?_⟩, fun j => ?_, hpg⟩, hg1.trans hg2⟩
  · have r3 : w.drew.heap[g]? = some (.cells cur 57 (0, 0)) := r1
    simp [World.setCell, Array.getElem?_modify, r3]
  · rw [Array.getElem?_setIfInBounds]
    by_cases e : j = q
    · subst e
      have hc : j < cur.size := (Array.getElem?_eq_some_iff.1 (r2 j hj)).1
      rw [if_pos rfl, if_pos hc]
      simp
    · rw [if_neg (fun h => e h.symm), if_neg e]; exact r2 j hj
  · by_cases e : j = q
    · rw [if_pos e]
      exact Nat.or_lt_two_pow (n := 64) (h0.small j) (Nat.pow_lt_pow_right (by decide) hk63)
    · rw [if_neg e]; exact h0.small j

end Go.Proofs.YtkmpchffflemcaaGreatDoor.Bit
end

/- Bits3: bits.New: a set without numbers. -/
section
namespace Go.Proofs.YtkmpchffflemcaaGreatDoor.Bit
open Go.RowKit

theorem u64_info : (Tryz.prog.info? 57).map (fun i => (i.zero, i.size, i.bytes)) = some (some (.int .u64 0), 1, 8) := by kernel_rfl
def NewOut (n : Nat) (w : World) (e : Ending) (w' : World) : Prop := ∃ p g, e = .returned (.tuple #[.pointer (some ⟨p, 0, none⟩), .int .i64 0]) ∧ SetAt w' p g ((n + 63) / 64) n (fun _ => 0) ∧ w.heap.size ≤ p ∧ w.heap.size ≤ g ∧ Below w.heap.size w w'
-- bits.New
set_option maxRecDepth 100000 in
set_option maxHeartbeats 1000000 in
theorem New_in (n : Nat) (hn : n ≤ 65536) (w : World) : Calls Tryz.prog 85 #[.int .i64 n] w (NewOut n w) := by
  obtain ⟨i0, hi, hz0, hz1, hz2⟩ := info_parts u64_info
  obtain ⟨nw, hnw⟩ : ∃ nw, (n + 63) / 64 = nw := ⟨_, rfl⟩
  have e1 : ((n : Int) + 63) / 64 = (nw : Int) := by omega
  have hnl : nw ≤ 1025 := by omega
  have hn1 : ¬ (65536 : Int) < (n : Int) := by omega
  have hn0 : ¬ (n : Int) < 0 := by omega
  have HN := Lib.hid hnw
  clear hnw
  go_enter Tryz.func85, Tryz.ntmps85
  go_wp2_with (refine wpList_make_full _ rfl _ _ 231 rfl w.heap.size 57 i0 (.int .u64 0) 1 Tryz.underlying231 hi hz0 hz1 .i64 .i64 _ _ nw rfl rfl (by omega) (by omega) (by rw [hz2]; omega) (by unfold maxLen; omega) (Nat.le_refl _) ?_; intro w5 hown5 hg5; have HO5 := Lib.hid hown5; have HG5 := Lib.hid hg5; clear hown5 hg5)
  go_ret2
  have hown := HO5.out
  rw [show (Value.int IntKind.u64 0).cells = #[Value.int IntKind.u64 0] from rfl, toList_madeCells_one] at hown
  have hg := HG5.out
  have hb5 : Below w.heap.size w w5 := Below.grown (Below.refl _ _) hg (Nat.le_refl _) (by simp)
  have hlt : w.heap.size < w5.heap.size := (own_lt (g := w.heap.size) hown rfl).1
  rw [NewOut, HN.out]
  refine ⟨w5.heap.size, w.heap.size, rfl, ⟨?_, ?_, fun _ => by decide, by omega⟩, hb5.size, Nat.le_refl _, ext_alloc hb5 _⟩
  · rw [HN.out]; exact Arr.fresh w5 _ _
  · rcases hown.2 with ⟨h0, _⟩ | ⟨g', cap, cur, hv, hb, hh, hnc, hcm, hcs, ht⟩
    · cases h0
    · injection hv with e1 _ e2
      injection e1 with e1
      injection e1 with e1
      subst e1 e2
      refine ⟨cur, (heap_alloc_old w5 _ hlt).trans hh, fun j hj => ?_⟩
      rw [HN.out] at hj
      have hx : cur[j]? = (List.replicate (nw * 1) (Value.int IntKind.u64 0))[j]? := by
        rw [← ht, List.getElem?_take, if_pos (by omega), Array.getElem?_toList]
      rw [hx, List.getElem?_replicate, if_pos (by omega)]; rfl

end Go.Proofs.YtkmpchffflemcaaGreatDoor.Bit
end

/- Idx: The contracts of the index: mix.Hash, made, New. -/
section
namespace Go.Proofs.YtkmpchffflemcaaGreatDoor.Idx
open Go.RowKit

theorem xor_range (a b : Int) : 0 ≤ Go.bits BinOp.xor IntKind.u64 a b ∧ Go.bits BinOp.xor IntKind.u64 a b < 18446744073709551616 := by
  show 0 ≤ IntKind.u64.wrap _ ∧ IntKind.u64.wrap _ < _
  rw [IntKind.wrap_u64]
  omega
def mx (x d : Int) : Int := Go.bits BinOp.xor IntKind.u64 x (x / d)
/-- the number's own place, before it is brought into the table -/
def hsh (x : Int) : Int := mx (IntKind.u64.wrap (mx (IntKind.u64.wrap (mx x 1073741824 * 13787848793156543929)) 134217728 * 10723151780598845931)) 2147483648
theorem hsh_range (x : Int) : 0 ≤ hsh x ∧ hsh x < 18446744073709551616 := xor_range _ _
-- mix.Hash
set_option maxRecDepth 100000 in
set_option maxHeartbeats 1000000 in
theorem Hash (x : Int) (w : World) : Calls Tryz.prog 265 #[.int .u64 x] w fun e w' => e = .returned (.int .u64 (hsh x)) ∧ w' = w := by
  go_enter Tryz.func265, Tryz.ntmps265
  go_wp2_with fail
  go_ret
  exact ⟨rfl, rfl⟩

end Go.Proofs.YtkmpchffflemcaaGreatDoor.Idx
end

/- Idx2: The contracts of the index: New, made. -/
section
namespace Go.Proofs.YtkmpchffflemcaaGreatDoor.Idx
open Go.RowKit

theorem slot_info : (Tryz.prog.info? 412).map (fun i => (i.zero, i.size, i.bytes)) = some (some (.agg #[.int .u8 0, .int .u32 0, .int .i64 0]), 3, 16) := by kernel_rfl
/-- what a slot of the table holds: its state, an id, a number -/
structure Slot where
  state : Nat
  id : Int
  v : Int
/-- the table's block -/
def Rows (w : World) (g n : Nat) (f : Nat → Slot) : Prop := ∃ cur, w.heap[g]? = some (.cells cur 412 (0, 0)) ∧ ∀ i, i < n → cur[i * 3]? = some (.int .u8 (f i).state) ∧ cur[i * 3 + 1]? = some (.int .u32 (f i).id) ∧ cur[i * 3 + 2]? = some (.int .i64 (f i).v)
/-- an index: its own block p, its table's block g with n places -/
structure IdxAt (w : World) (p g n : Nat) (most len graves steps : Int) (f : Nat → Slot) : Prop where
  own : Arr w p 303 #[.slice (some ⟨g, 0, none⟩) n n, .int .i64 most, .int .i64 len, .int .i64 graves, .int .i64 steps]
  rows : Rows w g n f
  apart : p ≠ g
def IdxNew (m : Nat) (w : World) (e : Ending) (w' : World) : Prop := ∃ p g n, e = .returned (.tuple #[.pointer (some ⟨p, 0, none⟩), .int .i64 0]) ∧ IdxAt w' p g n m 0 0 0 (fun _ => ⟨0, 0, 0⟩) ∧ 2 * m ≤ n ∧ n ≤ 4 * m ∧ w.heap.size ≤ p ∧ w.heap.size ≤ g ∧ Below w.heap.size w w'
theorem made_cell (n j : Nat) (h : j < n) : (madeCells #[Value.int .u8 0, .int .u32 0, .int .i64 0] n)[j]? = #[Value.int .u8 0, .int .u32 0, .int .i64 0][j % 3]? := by
  have h3 : j % 3 < 3 := Nat.mod_lt _ (by decide)
  unfold madeCells
  rw [Array.getElem?_map, Array.getElem?_range, if_pos h]
  obtain h4 | h4 | h4 : j % 3 = 0 ∨ j % 3 = 1 ∨ j % 3 = 2 := by omega
  all_goals simp [h4]

set_option maxRecDepth 100000 in
set_option maxHeartbeats 1000000 in
theorem New_in (m : Nat) (h1 : 1 ≤ m) (h2 : m ≤ 4096) (w : World) : Calls Tryz.prog 86 #[.int .i64 m] w (IdxNew m w) := by
  obtain ⟨i0, hi, hz0, hz1, hz2⟩ := info_parts slot_info
  have hm1 : ¬ (m : Int) < 1 := by omega
  have hm2 : ¬ (4096 : Int) < (m : Int) := by omega
  go_enter Tryz.func86, Tryz.ntmps86
  go_wp2_with fail
  go_loopw [4] (fun k wr => ∃ n : Nat, 1 ≤ n ∧ n ≤ 4 * m ∧ k = .int .i64 n ∧ wr = w) (fun k _ => (2 * m - intOf k).toNat)
  case atStart => exact ⟨1, by omega, by omega, rfl, rfl⟩
  case round =>
    obtain ⟨n, hn1, hn2, rfl, hw⟩ := hrel
    rw [hw]
    clear hw
    by_cases h : n < 2 * m
    · have h' : (n : Int) < 2 * (m : Int) := by omega
      go_wp2_with fail
      go_roundw
      case rel => exact ⟨n * 2, by omega, by omega, by go_num, by first | rfl | trivial⟩
      case measure => simp [intOf]; omega
    · have h' : ¬ (n : Int) < 2 * (m : Int) := by omega
      go_wp2_with (refine wpList_make_full _ rfl _ _ 301 rfl w.heap.size 412 i0 (.agg #[.int .u8 0, .int .u32 0, .int .i64 0]) 3 Tryz.underlying301 hi hz0 hz1 .i64 .i64 _ _ n rfl rfl rfl rfl (by rw [hz2]; omega) (by unfold maxLen; omega) (Nat.le_refl _) ?_; intro w5 hown5 hg5; have HO5 := Lib.hid hown5; have HG5 := Lib.hid hg5; clear hown5 hg5)
      go_ret2
      have hown := HO5.out
      have hb5 : Below w.heap.size w w5 := Below.grown (Below.refl _ _) HG5.out (Nat.le_refl _) (by simp)
      have hlt : w.heap.size < w5.heap.size := (own_lt (g := w.heap.size) hown rfl).1
      refine ⟨w5.heap.size, w.heap.size, n, rfl, ⟨Arr.fresh w5 _ _, ?_, by omega⟩, by omega, hn2, hb5.size, Nat.le_refl _, ext_alloc hb5 _⟩
      rcases hown.2 with ⟨h0, _⟩ | ⟨g', cap, cur, hv, hb, hh, hnc, hcm, hcs, ht⟩
      · cases h0
      · injection hv with e1 _ e2
        injection e1 with e1
        injection e1 with e1
        subst e1 e2
        have hx : ∀ j, j < n * 3 → cur[j]? = #[Value.int .u8 0, .int .u32 0, .int .i64 0][j % 3]? := fun j hj => by
          rw [← made_cell (n * 3) j hj, ← Array.getElem?_toList (xs := madeCells _ _)]
          show cur[j]? = (madeCells (Value.agg #[Value.int .u8 0, .int .u32 0, .int .i64 0]).cells (n * 3)).toList[j]?
          rw [← ht, List.getElem?_take, if_pos hj, Array.getElem?_toList]
        refine ⟨cur, (heap_alloc_old w5 _ hlt).trans hh, fun i hi => ⟨?_, ?_, ?_⟩⟩
        · rw [hx _ (by omega), Nat.mul_mod_left]; rfl
        · rw [hx _ (by omega), show (i * 3 + 1) % 3 = 1 from by omega]; rfl
        · rw [hx _ (by omega), show (i * 3 + 2) % 3 = 2 from by omega]; rfl

end Go.Proofs.YtkmpchffflemcaaGreatDoor.Idx
end

/- IdxPlain: Open addressing in plain Lean: what a search meets, and what stays true where something is laid in. No program in sight. -/
section
namespace Go.Proofs.YtkmpchffflemcaaGreatDoor.Idx

/-- open addressing: what find answers from a place on, for k steps more -/
def probe (f : Nat → Slot) (id : Int) (n : Nat) : Nat → Nat → Int → Int × Bool
  | 0, _, free => (free, false)
  | k + 1, a, free => match (f a).state with
    | 0 => (if free < 0 then (a : Int) else free, false)
    | 1 => if (f a).id = id then ((a : Int), true) else probe f id n k ((a + 1) % n) free
    | _ => probe f id n k ((a + 1) % n) (if free < 0 then (a : Int) else free)
theorem probe_0 {f : Nat → Slot} {id : Int} {n k a : Nat} {free : Int} (s : (f a).state = 0) : probe f id n (k + 1) a free = (if free < 0 then (a : Int) else free, false) := by rw [probe, s]; rfl
theorem probe_hit {f : Nat → Slot} {id : Int} {n k a : Nat} {free : Int} (s : (f a).state = 1) (h : (f a).id = id) : probe f id n (k + 1) a free = ((a : Int), true) := by rw [probe, s]; simp [h]
theorem probe_on {f : Nat → Slot} {id : Int} {n k a : Nat} {free : Int} (s : (f a).state = 1) (h : ¬ (f a).id = id) : probe f id n (k + 1) a free = probe f id n k ((a + 1) % n) free := by rw [probe, s]; simp [h]
theorem probe_2 {f : Nat → Slot} {id : Int} {n k a : Nat} {free : Int} (s : (f a).state = 2) : probe f id n (k + 1) a free = probe f id n k ((a + 1) % n) (if free < 0 then (a : Int) else free) := by rw [probe, s]; rfl
def pos (n h d : Nat) : Nat := (h + d) % n
theorem pos_succ (n h d : Nat) : (pos n h d + 1) % n = pos n h (d + 1) := by unfold pos; rw [Nat.mod_add_mod]; rfl
theorem pos_lt {n : Nat} (h d : Nat) (hn : 0 < n) : pos n h d < n := Nat.mod_lt _ hn
theorem pos_val {n h d : Nat} (hh : h < n) (hd : d < n) : pos n h d = if h + d < n then h + d else h + d - n := by
  unfold pos
  split
  · exact Nat.mod_eq_of_lt (by assumption)
  · rw [Nat.mod_eq_sub_mod (by omega), Nat.mod_eq_of_lt (by omega)]
theorem pos_inj {n h d e : Nat} (hh : h < n) (hd : d < n) (he : e < n) (hx : pos n h d = pos n h e) : d = e := by
  rw [pos_val hh hd, pos_val hh he] at hx
  split at hx <;> split at hx <;> omega
theorem pos_all {n h i : Nat} (hh : h < n) (hi : i < n) : ∃ e, e < n ∧ pos n h e = i := by
  rcases Nat.lt_or_ge i h with h1 | h1
  · exact ⟨i + n - h, by omega, by rw [pos_val hh (by omega)]; split <;> omega⟩
  · exact ⟨i - h, by omega, by rw [pos_val hh (by omega)]; split <;> omega⟩

def Hit (f : Nat → Slot) (id : Int) (n h d : Nat) (r : Int × Bool) : Prop := ∃ e, d ≤ e ∧ e < n ∧ r = ((pos n h e : Int), true) ∧ (f (pos n h e)).state = 1 ∧ (f (pos n h e)).id = id
def Miss (f : Nat → Slot) (id : Int) (n h d : Nat) (free : Int) (r : Int × Bool) : Prop := r.2 = false ∧ (∀ e, d ≤ e → e < n → (f (pos n h e)).state = 1 → (f (pos n h e)).id = id → ∃ e', d ≤ e' ∧ e' < e ∧ (f (pos n h e')).state = 0) ∧ (0 ≤ free → r.1 = free) ∧ (free < 0 → (r.1 = free ∧ ∀ e, d ≤ e → e < n → (f (pos n h e)).state = 1) ∨ ∃ e, d ≤ e ∧ e < n ∧ r.1 = (pos n h e : Int) ∧ (f (pos n h e)).state ≠ 1 ∧ ∀ e', d ≤ e' → e' < e → (f (pos n h e')).state = 1)

theorem probe_spec (f : Nat → Slot) (id : Int) (n h : Nat) (hst : ∀ i, i < n → (f i).state ≤ 2) (hn : 0 < n) : ∀ k d free, d + k = n → Hit f id n h d (probe f id n k (pos n h d) free) ∨ Miss f id n h d free (probe f id n k (pos n h d) free)
  | 0, d, free, hd => .inr ⟨rfl, fun e h1 h2 => by omega, fun _ => rfl, fun _ => .inl ⟨rfl, fun e h1 h2 => by omega⟩⟩
  | k + 1, d, free, hd => by
    have hp : pos n h d < n := pos_lt h d hn
    have hs := hst _ hp
    rcases (show (f (pos n h d)).state = 0 ∨ (f (pos n h d)).state = 1 ∨ (f (pos n h d)).state = 2 by omega) with s | s | s
    · have e : probe f id n (k + 1) (pos n h d) free = (if free < 0 then (pos n h d : Int) else free, false) := by rw [probe, s]; rfl
      rw [e]
      refine .inr ⟨rfl, fun e h1 h2 s1 _ => ⟨d, Nat.le_refl _, ?_, s⟩, fun h => if_neg (by omega), fun h => .inr ⟨d, Nat.le_refl _, by omega, if_pos h, by rw [s]; decide, fun e' h1 h2 => by omega⟩⟩
      rcases Nat.lt_or_ge d e with h3 | h3
      · exact h3
      · obtain rfl : e = d := by omega
        rw [s] at s1; cases s1
    · by_cases hid : (f (pos n h d)).id = id
      · exact .inl ⟨d, Nat.le_refl _, by omega, by rw [probe, s]; simp [hid], s, hid⟩
      · have e : probe f id n (k + 1) (pos n h d) free = probe f id n k (pos n h (d + 1)) free := by rw [probe, s]; simp [hid, pos_succ]
        rw [e]
        rcases probe_spec f id n h hst hn k (d + 1) free (by omega) with ⟨e, h1, h2⟩ | ⟨h1, h2, h3, h4⟩
        · exact .inl ⟨e, by omega, h2⟩
        · refine .inr ⟨h1, fun e he hen hs1 hi1 => ?_, h3, fun hf => ?_⟩
          · rcases Nat.lt_or_ge d e with h5 | h5
            · obtain ⟨e', a, b⟩ := h2 e h5 hen hs1 hi1
              exact ⟨e', by omega, b⟩
            · obtain rfl : e = d := by omega
              exact absurd hi1 hid
          · rcases h4 hf with ⟨a, b⟩ | ⟨e, a, b, c, d', g⟩
            · refine .inl ⟨a, fun e he hen => ?_⟩
              rcases Nat.lt_or_ge d e with h5 | h5
              · exact b e h5 hen
              · obtain rfl : e = d := by omega
                exact s
            · refine .inr ⟨e, by omega, b, c, d', fun e' he hen => ?_⟩
              rcases Nat.lt_or_ge d e' with h5 | h5
              · exact g e' h5 hen
              · obtain rfl : e' = d := by omega
                exact s
    · have e : probe f id n (k + 1) (pos n h d) free = probe f id n k (pos n h (d + 1)) (if free < 0 then (pos n h d : Int) else free) := by rw [probe, s, pos_succ]; rfl
      rw [e]
      rcases probe_spec f id n h hst hn k (d + 1) (if free < 0 then (pos n h d : Int) else free) (by omega) with ⟨e, h1, h2⟩ | ⟨h1, h2, h3, h4⟩
      · exact .inl ⟨e, by omega, h2⟩
      · refine .inr ⟨h1, fun e he hen hs1 hi1 => ?_, fun hf => ?_, fun hf => ?_⟩
        · rcases Nat.lt_or_ge d e with h5 | h5
          · obtain ⟨e', a, b⟩ := h2 e h5 hen hs1 hi1
            exact ⟨e', by omega, b⟩
          · obtain rfl : e = d := by omega
            rw [s] at hs1; cases hs1
        · rw [if_neg (by omega)] at h3 ⊢
          exact h3 hf
        · rw [if_pos hf] at h3 ⊢
          exact .inr ⟨d, Nat.le_refl _, by omega, h3 (by omega), by rw [s]; decide, fun e' h1 h2 => by omega⟩

/-- how many of the first n places are in a state -/
def cnt (f : Nat → Slot) (s : Nat) : Nat → Nat
  | 0 => 0
  | n + 1 => cnt f s n + if (f n).state = s then 1 else 0
def upd (f : Nat → Slot) (i : Nat) (s : Slot) : Nat → Slot := fun j => if j = i then s else f j
theorem upd_same (f : Nat → Slot) (i : Nat) (s : Slot) : upd f i s i = s := if_pos rfl
theorem upd_other (f : Nat → Slot) {i j : Nat} (s : Slot) (h : j ≠ i) : upd f i s j = f j := if_neg h
theorem cnt_full {f : Nat → Slot} {s : Nat} : ∀ {n}, (∀ i, i < n → (f i).state = s) → cnt f s n = n
  | 0, _ => rfl
  | n + 1, h => by rw [cnt, cnt_full (fun i hi => h i (by omega)), if_pos (h n (by omega))]
theorem cnt_past (f : Nat → Slot) (t : Nat) (i : Nat) (s : Slot) : ∀ n, n ≤ i → cnt (upd f i s) t n = cnt f t n
  | 0, _ => rfl
  | n + 1, h => by rw [cnt, cnt, cnt_past f t i s n (by omega), upd_other f s (by omega)]
theorem cnt_upd (f : Nat → Slot) (t : Nat) (i : Nat) (s : Slot) : ∀ n, i < n → cnt (upd f i s) t n + (if (f i).state = t then 1 else 0) = cnt f t n + (if s.state = t then 1 else 0)
  | 0, h => by omega
  | n + 1, h => by
    rw [cnt, cnt]
    rcases Nat.lt_or_ge i n with h1 | h1
    · have := cnt_upd f t i s n h1
      rw [upd_other f s (by omega : n ≠ i)]
      omega
    · obtain rfl : i = n := by omega
      rw [cnt_past f t i s i (Nat.le_refl _), upd_same]
      omega

/-- the place from which an id is searched -/
def home (n : Nat) (id : Int) : Nat := (hsh id % (n : Int)).toNat
theorem home_lt {n : Nat} (id : Int) (hn : 0 < n) : home n id < n := by
  unfold home
  generalize hsh id = x
  have h1 := Int.emod_nonneg x (show (n : Int) ≠ 0 by omega)
  have h2 := Int.emod_lt_of_pos x (show (0 : Int) < n by omega)
  omega
theorem pos_home {n : Nat} (id : Int) (hn : 0 < n) : pos n (home n id) 0 = home n id := by
  have h := home_lt id hn
  generalize home n id = x at h
  unfold pos
  rw [Nat.add_zero]
  exact Nat.mod_eq_of_lt h
/-- a table as the program keeps it -/
structure Tab (f : Nat → Slot) (n : Nat) : Prop where
  states : ∀ i, i < n → (f i).state ≤ 2
  uniq : ∀ i j, i < n → j < n → (f i).state = 1 → (f j).state = 1 → (f i).id = (f j).id → i = j
  reach : ∀ id e, e < n → (f (pos n (home n id) e)).state = 1 → (f (pos n (home n id) e)).id = id → ∀ e', e' < e → (f (pos n (home n id) e')).state ≠ 0
def seek (f : Nat → Slot) (n : Nat) (id : Int) : Int × Bool := probe f id n n (home n id) (-1)
theorem seek_spec {f : Nat → Slot} {n : Nat} (h : Tab f n) (hn : 0 < n) (id : Int) : Hit f id n (home n id) 0 (seek f n id) ∨ Miss f id n (home n id) 0 (-1) (seek f n id) := by
  have := probe_spec f id n (home n id) h.states hn n 0 (-1) (by omega)
  rwa [pos_home id hn] at this
/-- who isn't there: a place is found where it may be laid -/
theorem seek_free {f : Nat → Slot} {n : Nat} (h : Tab f n) (hl : cnt f 1 n < n) {id : Int} (hr : ∀ i, i < n → (f i).state = 1 → (f i).id ≠ id) : ∃ i, i < n ∧ seek f n id = ((i : Int), false) ∧ (f i).state ≠ 1 ∧ ∀ v, Tab (upd f i ⟨1, id, v⟩) n := by
  have hn : 0 < n := by omega
  rcases seek_spec h hn id with ⟨e, _, he, h3, h1, h2⟩ | ⟨h1, _, _, h4⟩
  · exact absurd h2 (hr _ (pos_lt _ _ hn) h1)
  · have hr1 : seek f n id = ((seek f n id).1, false) := by rw [← h1]
    rcases h4 (by omega) with ⟨_, h5⟩ | ⟨e, _, he, h5, h6, h7⟩
    · have : cnt f 1 n = n := cnt_full fun i hi => by
        obtain ⟨e, he, hp⟩ := pos_all (home_lt id hn) hi
        have := h5 e (Nat.zero_le _) he
        rwa [hp] at this
      omega
    · refine ⟨_, pos_lt _ _ hn, by rw [hr1, h5], h6, fun v => ?_⟩
      obtain ⟨a, ha⟩ : ∃ a, pos n (home n id) e = a := ⟨_, rfl⟩
      rw [ha] at h6 ⊢
      have han : a < n := by rw [← ha]; exact pos_lt _ _ hn
      refine ⟨fun i hi => ?_, fun i j hi hj si sj e => ?_, fun id' d hd s1 s2 d' hd' => ?_⟩
      · by_cases e : i = a
        · subst e; rw [upd_same]; show 1 ≤ 2; decide
        · rw [upd_other _ _ e]; exact h.states i hi
      · by_cases e1 : i = a <;> by_cases e2 : j = a
        · omega
        · subst e1; rw [upd_other _ _ e2] at sj e; rw [upd_same] at e
          exact absurd e.symm (hr j hj sj)
        · subst e2; rw [upd_other _ _ e1] at si e; rw [upd_same] at e
          exact absurd e (hr i hi si)
        · rw [upd_other _ _ e1] at si e; rw [upd_other _ _ e2] at sj e
          exact h.uniq i j hi hj si sj e
      · by_cases e1 : pos n (home n id') d' = a
        · rw [e1, upd_same]; show 1 ≠ 0; decide
        · rw [upd_other _ _ e1]
          by_cases e2 : pos n (home n id') d = a
          · rw [e2, upd_same] at s2
            have s2' : id = id' := s2
            subst s2'
            have hde : d = e := pos_inj (home_lt id hn) hd he (by rw [e2, ha])
            subst hde
            rw [h7 d' (Nat.zero_le _) hd']; decide
          · rw [upd_other _ _ e2] at s1 s2
            exact h.reach id' d hd s1 s2 d' hd'
end Go.Proofs.YtkmpchffflemcaaGreatDoor.Idx
end

/- Idx3: The contracts of the index: find. -/
section
namespace Go.Proofs.YtkmpchffflemcaaGreatDoor.Idx
open Go.RowKit

def stepsAt (p : Nat) (w : World) : Nat := match w.cell? ⟨p, 4, none⟩ with
  | some (.int _ s) => s.toNat
  | _ => 0
theorem Rows.cell {w : World} {g n : Nat} {f : Nat → Slot} (h : Rows w g n f) {i : Nat} (hi : i < n) : w.cell? ⟨g, i * 3, none⟩ = some (.int .u8 (f i).state) ∧ w.cell? ⟨g, i * 3 + 1, none⟩ = some (.int .u32 (f i).id) ∧ w.cell? ⟨g, i * 3 + 2, none⟩ = some (.int .i64 (f i).v) := by
  obtain ⟨cur, h1, h2⟩ := h
  have e : ∀ j, w.cell? ⟨g, j, none⟩ = cur[j]? := fun j => by simp [World.cell?, h1]
  obtain ⟨a, b, c⟩ := h2 i hi
  exact ⟨(e _).trans a, (e _).trans b, (e _).trans c⟩
theorem Rows.same {w w' : World} {g n : Nat} {f : Nat → Slot} (h : Rows w g n f) (hk : w'.heap[g]? = w.heap[g]?) : Rows w' g n f := by
  obtain ⟨cur, h1, h2⟩ := h
  exact ⟨cur, hk.trans h1, h2⟩
theorem Rows.lt {w : World} {g n : Nat} {f : Nat → Slot} (h : Rows w g n f) : g < w.heap.size := by
  obtain ⟨cur, h1, _⟩ := h
  exact (Array.getElem?_eq_some_iff.1 h1).1

theorem IdxAt.alloc {w : World} {p g n : Nat} {m l gr s : Int} {f : Nat → Slot} (h : IdxAt w p g n m l gr s f) (o : Obj) : IdxAt (w.alloc o) p g n m l gr s f := ⟨h.own.alloc o, h.rows.same (heap_alloc_old w o h.rows.lt), h.apart⟩
theorem stepsAt_of {w : World} {p g n : Nat} {m l gr s : Int} {f : Nat → Slot} (h : IdxAt w p g n m l gr s f) : stepsAt p w = s.toNat := by
  have h4 : w.cell? ⟨p, 4, none⟩ = some (.int .i64 s) := h.own.cell 4
  simp only [stepsAt, h4]
theorem noGoto_ret {Q : Exit → Act → World → Prop} {a : Act} {w : World} (h : Q .ret a w) : Exit.noGoto Q .ret a w := h
set_option maxRecDepth 100000 in
set_option maxHeartbeats 2000000 in
theorem Find (p g n : Nat) (most len graves steps id : Int) (f : Nat → Slot) (w : World) (h : IdxAt w p g n most len graves steps f) (hn : 1 ≤ n) (hn2 : n ≤ 16384) (hid : 0 ≤ id ∧ id < 4294967296) (hst : ∀ i, i < n → (f i).state ≤ 2) :
    Calls Tryz.prog 246 #[.pointer (some ⟨p, 0, none⟩), .int .u32 id] w fun e w' => e = .returned (.tuple #[.int .i64 (probe f id n n (hsh id % (n : Int)).toNat (-1)).1, .bool (probe f id n n (hsh id % (n : Int)).toNat (-1)).2]) ∧ (∃ s, IdxAt w' p g n most len graves s f) ∧ Tch (· = p) w w' := by
  have x0 : w.cell? ⟨p, 0, none⟩ = some (.slice (some ⟨g, 0, none⟩) n n) := h.own.cell 0
  have x4 : w.cell? ⟨p, 4, none⟩ = some (.int .i64 steps) := h.own.cell 4
  have m4 := h.own.mark 4
  obtain ⟨hr0, hr1⟩ := hsh_range id
  obtain ⟨a0, ha0⟩ : ∃ a0 : Nat, hsh id % (n : Int) = (a0 : Int) := ⟨(hsh id % (n : Int)).toNat, by have := Int.emod_nonneg (hsh id) (show (n : Int) ≠ 0 by omega); omega⟩
  have ha1 : (a0 : Int) < (n : Int) := by rw [← ha0]; exact Int.emod_lt_of_pos _ (by omega)
  rw [ha0, Int.toNat_natCast]
  have HH := Lib.hid h
  have HID := Lib.hid ha0
  have hnz : ¬ (n : Int) = 0 := by omega
  have HSTT := Lib.hid hst
  clear h ha0 hst
  go_enter Tryz.func246, Tryz.ntmps246
  go_wp2_with fail
  refine wp_scope_straight ?_
  go_wp2_with fail
  refine (Hash id _).mono ?_
  rintro e w1 ⟨rfl, hw⟩
  rw [hw]
  clear hw w1
  go_wp2_with fail
  refine wp_label ?_
  go_wp2_with fail
  rw [show wrap64 (hsh id % (n : Int)) = (a0 : Int) from by rw [HID.out]; unfold wrap64; omega]
  have hI0 : IdxAt (w.setCell ⟨p, 4, none⟩ (.int .i64 0)) p g n most len graves ((n : Int) - (n : Int)) f := ⟨by rw [Int.sub_self]; exact HH.out.own.put 4 _, HH.out.rows.same (Below.heap_setCell _ _ _ g (fun e => HH.out.apart e.symm)), HH.out.apart⟩
  have ht0 : Tch (· = p) w (w.setCell ⟨p, 4, none⟩ (.int .i64 0)) := (Tch.refl (· = p) w).put (p := ⟨p, 4, none⟩) (.inl rfl) _
  go_loopw [7, 8] (fun at_ fr wr => ∃ (k a : Nat) (free : Int), k ≤ n ∧ a < n ∧ at_ = .int .i64 a ∧ fr = .int .i64 free ∧ (-1 ≤ free ∧ free < n) ∧ IdxAt wr p g n most len graves ((n : Int) - (k : Int)) f ∧ Tch (· = p) w wr ∧ probe f id n k a free = probe f id n n a0 (-1)) (fun _ _ wr => n - stepsAt p wr)
  case atStart => exact ⟨n, a0, -1, Nat.le_refl _, by omega, rfl, rfl, by omega, hI0, ht0, rfl⟩
  case round =>
    clear hI0 ht0 x0 x4 m4
    obtain ⟨k, a, free, hk, ha, rfl, rfl, hfr, hI, ht, hpr⟩ := hrel
    have x0 : wr.cell? ⟨p, 0, none⟩ = some (.slice (some ⟨g, 0, none⟩) n n) := hI.own.cell 0
    have x4 : wr.cell? ⟨p, 4, none⟩ = some (.int .i64 ((n : Int) - (k : Int))) := hI.own.cell 4
    have m4 := hI.own.mark 4
    have hpl := hI.own.lt
    have hpg : ¬ p = g := hI.apart
    have hgp : ¬ g = p := fun e => hI.apart e.symm
    have hgl := hI.rows.lt
    obtain ⟨z0, z1, z2⟩ := hI.rows.cell ha
    have HI := Lib.hid hI; have HT := Lib.hid ht; have HP := Lib.hid hpr
    clear hI ht hpr
    cases k with
    | zero =>
      go_wp2_with fail
      refine noGoto_ret ?_
      go_ret2
      exact ⟨by rw [← HP.out]; rfl, ⟨_, HI.out⟩, HT.out⟩
    | succ j =>
      have hlt : (n : Int) - ((j + 1 : Nat) : Int) < (n : Int) := by omega
      have ha1 : (a : Int) < (n : Int) := by omega
      have ha0 : (0 : Int) ≤ (a : Int) := by omega
      have hs := HSTT.out a ha
      obtain ⟨st, hst2⟩ : ∃ st, (f a).state = st := ⟨_, rfl⟩
      rw [hst2] at z0 hs
      have HST := Lib.hid hst2
      clear hst2
      obtain ⟨fi, hfi⟩ : ∃ fi, (f a).id = fi := ⟨_, rfl⟩
      obtain ⟨fv, hfv⟩ : ∃ fv, (f a).v = fv := ⟨_, rfl⟩
      rw [hfi] at z1
      rw [hfv] at z2
      have HFI := Lib.hid hfi
      clear hfi hfv
      have hj : ((j + 1 : Nat) : Int) = (j : Int) + 1 := by omega
      rw [hj] at x4 hlt
      clear hj
      obtain ⟨sn, hsn⟩ : ∃ sn : Int, (n : Int) - ((j : Int) + 1) = sn := ⟨_, rfl⟩
      rw [hsn] at x4 hlt
      have hsn0 : 0 ≤ sn ∧ sn ≤ 20000 := by omega
      have HSNN := Lib.hid hsn
      clear hsn
      obtain ⟨hsn1, hsn2⟩ := hsn0
      have hlt3 : a * 3 + 2 < n * 3 := by omega
      have hrg : (wr.setCell ⟨p, 4, none⟩ (.int .i64 (sn + 1))).rangeAt g (a * 3) [.int .u8 st, .int .u32 fi, .int .i64 fv] := fun i u hi => by
        rw [World.cell?_setCell_other _ _ _ _ (by intro e; injection e with e; exact hpg e)]
        rcases (show i = 0 ∨ i = 1 ∨ i = 2 ∨ 3 ≤ i by omega) with rfl | rfl | rfl | h3
        · rw [← hi]; exact z0
        · rw [← hi]; exact z1
        · rw [← hi]; exact z2
        · rw [List.getElem?_eq_none (by simpa using h3)] at hi; cases hi
      clear z0 z1 z2 hlt3
      have hfr0 := hfr.1
      have hfr1 := hfr.2
      have HFR := Lib.hid hfr
      clear hfr
      have hI' : IdxAt (wr.setCell ⟨p, 4, none⟩ (.int .i64 (sn + 1))) p g n most len graves (sn + 1) f := ⟨HI.out.own.put 4 _, HI.out.rows.same (Below.heap_setCell _ _ _ g hgp), HI.out.apart⟩
      have ht' : Tch (· = p) w (wr.setCell ⟨p, 4, none⟩ (.int .i64 (sn + 1))) := HT.out.put (p := ⟨p, 4, none⟩) (.inl rfl) _
      have HI' := Lib.hid hI'
      have HT' := Lib.hid ht'
      clear hI' ht'
      obtain ⟨a1, HA1⟩ : ∃ a1 : Nat, (a + 1) % n = a1 := ⟨_, rfl⟩
      have ha1n : a1 < n := by rw [← HA1]; exact Nat.mod_lt _ (by omega)
      have hrem : ((a : Int) + 1) % (n : Int) = (a1 : Int) := by rw [← HA1]; push_cast; rfl
      have hsnj : (n : Int) - (j : Int) = sn + 1 := by rw [← HSNN.out]; omega
      have HSNJ := Lib.hid hsnj
      clear hsnj
      have HA1' := Lib.hid HA1
      clear HA1
      rcases (show st = 0 ∨ st = 1 ∨ st = 2 by omega) with rfl | rfl | rfl
      · have HRG := Lib.hid hrg
        clear hrg hs
        by_cases hf : free < 0
        · go_wp2_with (refine wpList_load_mid rfl 412 _ rfl g (a * 3) rfl [.int .u8 ((0 : Nat) : Int), .int .u32 fi, .int .i64 fv] _ HRG.out Tryz.underlying412 rfl rfl ?_)
          try refine noGoto_ret ?_
          go_ret2
          exact ⟨by rw [← HP.out, probe_0 HST.out, if_pos hf]; rfl, ⟨_, HI'.out.alloc _⟩, HT'.out.alloc _⟩
        · go_wp2_with (refine wpList_load_mid rfl 412 _ rfl g (a * 3) rfl [.int .u8 ((0 : Nat) : Int), .int .u32 fi, .int .i64 fv] _ HRG.out Tryz.underlying412 rfl rfl ?_)
          try refine noGoto_ret ?_
          go_ret2
          exact ⟨by rw [← HP.out, probe_0 HST.out, if_neg (by omega)]; rfl, ⟨_, HI'.out.alloc _⟩, HT'.out.alloc _⟩
      · have HRG := Lib.hid hrg
        clear hrg hs
        by_cases hid2 : fi = id
        · have hb : (fi == id) = true := by simpa using hid2
          have HID2 := Lib.hid hid2
          clear hid2
          go_wp2_with (refine wpList_load_mid rfl 412 _ rfl g (a * 3) rfl [.int .u8 ((1 : Nat) : Int), .int .u32 fi, .int .i64 fv] _ HRG.out Tryz.underlying412 rfl rfl ?_)
          try refine noGoto_ret ?_
          go_ret2
          exact ⟨by rw [← HP.out, probe_hit HST.out (HFI.out.trans HID2.out)]; rfl, ⟨_, HI'.out.alloc _⟩, HT'.out.alloc _⟩
        · have hb : (fi == id) = false := by simpa using hid2
          have HID2 := Lib.hid hid2
          clear hid2
          go_wp2_with (refine wpList_load_mid rfl 412 _ rfl g (a * 3) rfl [.int .u8 ((1 : Nat) : Int), .int .u32 fi, .int .i64 fv] _ HRG.out Tryz.underlying412 rfl rfl ?_)
          go_roundw
          case rel => exact ⟨j, a1, free, by omega, ha1n, by rw [hrem], by first | rfl | trivial, by omega, by rw [HSNJ.out]; exact HI'.out.alloc _, HT'.out.alloc _, by rw [← HP.out, probe_on HST.out (fun e => HID2.out (HFI.out.symm.trans e)), HA1'.out]⟩
          case measure =>
            have q1 := HSNN.out
            have q2 := HSNJ.out
            rw [stepsAt_of (HI'.out.alloc _), stepsAt_of HI.out]
            omega
      · have HRG := Lib.hid hrg
        clear hrg hs
        by_cases hf : free < 0
        · go_wp2_with (refine wpList_load_mid rfl 412 _ rfl g (a * 3) rfl [.int .u8 ((2 : Nat) : Int), .int .u32 fi, .int .i64 fv] _ HRG.out Tryz.underlying412 rfl rfl ?_)
          go_roundw
          case rel => exact ⟨j, a1, a, by omega, ha1n, by rw [hrem], by first | rfl | trivial, by omega, by rw [HSNJ.out]; exact HI'.out.alloc _, HT'.out.alloc _, by rw [← HP.out, probe_2 HST.out, if_pos hf, HA1'.out]⟩
          case measure =>
            have q1 := HSNN.out
            have q2 := HSNJ.out
            rw [stepsAt_of (HI'.out.alloc _), stepsAt_of HI.out]
            omega
        · go_wp2_with (refine wpList_load_mid rfl 412 _ rfl g (a * 3) rfl [.int .u8 ((2 : Nat) : Int), .int .u32 fi, .int .i64 fv] _ HRG.out Tryz.underlying412 rfl rfl ?_)
          go_roundw
          case rel => exact ⟨j, a1, free, by omega, ha1n, by rw [hrem], by first | rfl | trivial, by omega, by rw [HSNJ.out]; exact HI'.out.alloc _, HT'.out.alloc _, by rw [← HP.out, probe_2 HST.out, if_neg (by omega), HA1'.out]⟩
          case measure =>
            have q1 := HSNN.out
            have q2 := HSNJ.out
            rw [stepsAt_of (HI'.out.alloc _), stepsAt_of HI.out]
            omega

end Go.Proofs.YtkmpchffflemcaaGreatDoor.Idx
end

/- Idx4: The contracts of the index: made, Put. -/
section
namespace Go.Proofs.YtkmpchffflemcaaGreatDoor.Idx
open Go.RowKit

theorem Rows.there {w : World} {g n : Nat} {f : Nat → Slot} (h : Rows w g n f) {i : Nat} (hi : i < n) : w.there g (i * 3) 3 := by
  obtain ⟨cur, h1, h2⟩ := h
  have c := h2 i hi
  intro j hj
  have e : ∀ k, w.cell? ⟨g, k, none⟩ = cur[k]? := fun k => by simp [World.cell?, h1]
  refine ⟨?_, by simp [World.frozen?, h1]⟩
  rw [e]
  rcases (show j = 0 ∨ j = 1 ∨ j = 2 by omega) with rfl | rfl | rfl
  · rw [Nat.add_zero, c.1]; rfl
  · rw [c.2.1]; rfl
  · rw [c.2.2]; rfl
def slotL (s : Slot) : List Value := [.int .u8 (s.state : Int), .int .u32 s.id, .int .i64 s.v]
theorem Rows.store {w : World} {g n : Nat} {f : Nat → Slot} (h : Rows w g n f) {i : Nat} (hi : i < n) (s : Slot) : Rows (w.setCells g (i * 3) (slotL s)) g n (upd f i s) := by
  obtain ⟨cur, h1, h2⟩ := h
  have hl : (n - 1) * 3 + 2 < cur.size := (Array.getElem?_eq_some_iff.1 (h2 (n - 1) (by omega)).2.2).1
  obtain ⟨cs', r1, r2, r3, r4⟩ := arr_setCells g 412 (slotL s) (i * 3) w cur h1 (by show i * 3 + 3 ≤ cur.size; omega)
  refine ⟨cs', r1, fun j hj => ?_⟩
  by_cases e : j = i
  · subst e
    rw [upd_same]
    have q0 := r3 0 (show 0 < 3 by decide)
    have q1 := r3 1 (show 1 < 3 by decide)
    have q2 := r3 2 (show 2 < 3 by decide)
    exact ⟨q0, q1, q2⟩
  · rw [upd_other f s e]
    have ho : ∀ k, k < 3 → cs'[j * 3 + k]? = cur[j * 3 + k]? := fun k hk => r4 _ (by show j * 3 + k < i * 3 ∨ i * 3 + 3 ≤ j * 3 + k; omega)
    exact ⟨(ho 0 (by omega)).trans (h2 j hj).1, (ho 1 (by omega)).trans (h2 j hj).2.1, (ho 2 (by omega)).trans (h2 j hj).2.2⟩
theorem IdxAt.store {w : World} {p g n : Nat} {m l gr s : Int} {f : Nat → Slot} (h : IdxAt w p g n m l gr s f) {i : Nat} (hi : i < n) (x : Slot) : IdxAt (w.setCells g (i * 3) (slotL x)) p g n m l gr s (upd f i x) :=
  ⟨h.own.grown (only_setCells g (slotL x) (i * 3) w).1 h.apart, h.rows.store hi x, h.apart⟩
/-- an index as the program keeps it -/
structure IdxOk (w : World) (p g n most len graves : Nat) (f : Nat → Slot) : Prop where
  lies : ∃ steps, IdxAt w p g n most len graves steps f
  tab : Tab f n
  full : cnt f 1 n = len
  grv : cnt f 2 n = graves
  room : len ≤ most ∧ 2 * most ≤ n ∧ 1 ≤ most ∧ most ≤ 4096 ∧ n ≤ 16384
theorem IdxOk.same {w w' : World} {p g n most len graves : Nat} {f : Nat → Slot} (h : IdxOk w p g n most len graves f) (hp : w'.heap[p]? = w.heap[p]?) (hg : w'.heap[g]? = w.heap[g]?) : IdxOk w' p g n most len graves f := by
  obtain ⟨s, hs⟩ := h.lies
  exact ⟨⟨s, hp.trans hs.own, hs.rows.same hg, hs.apart⟩, h.tab, h.full, h.grv, h.room⟩
theorem IdxOk.lt {w : World} {p g n most len graves : Nat} {f : Nat → Slot} (h : IdxOk w p g n most len graves f) : p < w.heap.size ∧ g < w.heap.size := by
  obtain ⟨s, hs⟩ := h.lies
  exact ⟨hs.own.lt, hs.rows.lt⟩

set_option maxRecDepth 100000 in
set_option maxHeartbeats 1000000 in
theorem made_in (p g n : Nat) (w : World) (h : w.cell? ⟨p, 0, none⟩ = some (.slice (some ⟨g, 0, none⟩) n n)) : Calls Tryz.prog 245 #[.pointer (some ⟨p, 0, none⟩)] w fun e w' => e = .returned (.bool true) ∧ w' = w := by
  go_enter Tryz.func245, Tryz.ntmps245
  go_wp2_with fail
  go_ret
  exact ⟨rfl, rfl⟩

set_option maxRecDepth 100000 in
set_option maxHeartbeats 2000000 in
theorem Put_ok (p g n most len graves : Nat) (id v : Int) (f : Nat → Slot) (w : World) (h : IdxOk w p g n most len graves f) (hid : 0 ≤ id ∧ id < 4294967296) (ht : ∀ i, i < n → (f i).state = 1 → (f i).id ≠ id) (hl : len < most) (hg : graves = 0) :
    Calls Tryz.prog 260 #[.pointer (some ⟨p, 0, none⟩), .int .u32 id, .int .i64 v] w fun e w' => e = .returned (.int .i64 0) ∧ (∃ i, i < n ∧ (f i).state ≠ 1 ∧ IdxOk w' p g n most (len + 1) graves (upd f i ⟨1, id, v⟩)) ∧ Tch (fun k => k = p ∨ k = g) w w' := by
  obtain ⟨steps, hI⟩ := h.lies
  have hn := h.room
  obtain ⟨i, hi, hsk, hs1, htab⟩ := seek_free h.tab (by have := h.full; omega) ht
  have hst : (f i).state = 0 := by
    have h2 := h.tab.states i hi
    have h3 : ¬ (f i).state = 2 := fun e => by
      have := cnt_upd f 2 i ⟨0, 0, 0⟩ n hi
      rw [if_pos e, h.grv, hg] at this
      simp at this
    omega
  have x0 : w.cell? ⟨p, 0, none⟩ = some (.slice (some ⟨g, 0, none⟩) n n) := hI.own.cell 0
  have HF := Find p g n most len graves steps id f w hI (by omega) hn.2.2.2.2 hid h.tab.states
  have hF : Calls Tryz.prog 246 #[.pointer (some ⟨p, 0, none⟩), .int .u32 id] w fun e w' => e = .returned (.tuple #[.int .i64 (i : Int), .bool false]) ∧ (∃ s, IdxAt w' p g n most len graves s f) ∧ Tch (· = p) w w' := HF.mono fun e w' h1 => by
    have e1 : probe f id n n (hsh id % (n : Int)).toNat (-1) = ((i : Int), false) := hsk
    rw [e1] at h1
    exact h1
  have HH := Lib.hid h
  have HG := Lib.hid hF
  have HTAB := Lib.hid htab
  have HST := Lib.hid hst
  have hlm : ((len : Int) == (most : Int)) = false := by simp; omega
  have h34 : ¬ (3 * (n : Int) < 4 * ((len : Int) + 1 + 0)) := by omega
  have hn1 : n ≤ 16384 := hn.2.2.2.2
  have hin : (i : Int) < (n : Int) := by omega
  have hlen : len ≤ 4096 := by omega
  have hid0 := hid.1
  have hid1 := hid.2
  clear h hF HF hI hsk hs1 htab hst ht hid hn
  subst hg
  go_enter Tryz.func260, Tryz.ntmps260
  go_wp2_with fail
  refine (made_in p g n w x0).mono ?_
  rintro e w1 ⟨rfl, hw⟩
  rw [hw]
  clear hw w1
  go_wp2_with fail
  refine HG.out.mono ?_
  rintro e w1 ⟨rfl, ⟨s1, hI1⟩, hT1⟩
  have y1 : w1.cell? ⟨p, 1, none⟩ = some (.int .i64 most) := hI1.own.cell 1
  have y2 : w1.cell? ⟨p, 2, none⟩ = some (.int .i64 len) := hI1.own.cell 2
  have HI1 := Lib.hid hI1
  have HT1 := Lib.hid hT1
  clear hI1 hT1
  go_wp2_with fail
  refine wp_region_quiet_lit (by kernel_rfl) (by kernel_rfl) ?_
  repeat (first | go_big_quiet_step ((fail)) | quiet_step ((fail)))
  refine wpQuiet_nil ?_
  intro _ hw'
  obtain ⟨nq, hw''⟩ := hw'
  subst hw''
  clear y1 y2
  have hI2 : IdxAt (w1.drewN nq) p g n most len (0 : Nat) s1 f := ⟨HI1.out.own.drewN nq, HI1.out.rows.same rfl, HI1.out.apart⟩
  have hT2 : Tch (· = p) w (w1.drewN nq) := ⟨HT1.out.os, HT1.out.tape, HT1.out.output, HT1.out.size, HT1.out.block⟩
  obtain ⟨w2, hw2⟩ : ∃ w2, w1.drewN nq = w2 := ⟨_, rfl⟩
  rw [hw2] at hI2 hT2 ⊢
  clear hw2 HI1 HT1
  have y0 : w2.cell? ⟨p, 0, none⟩ = some (.slice (some ⟨g, 0, none⟩) n n) := hI2.own.cell 0
  obtain ⟨z0, _, _⟩ := hI2.rows.cell hi
  rw [HST.out] at z0
  have HTH := Lib.hid (hI2.rows.there hi)
  have HI2 := Lib.hid hI2
  have HT2 := Lib.hid hT2
  clear hI2 hT2
  go_wp2_with (refine wpList_store_mid rfl 412 _ _ rfl g (i * 3) #[.int .u8 1, .int .u32 id, .int .i64 v] rfl rfl HTH.out rfl (by simp [Value.oneCell']) ?_; have hI3 := HI2.out.store hi ⟨1, id, v⟩; have hT3 := (HT2.out.mono (T := fun k => k = p ∨ k = g) fun k _ h => .inl h).grown (only_setCells g (slotL ⟨1, id, v⟩) (i * 3) w2).1 (fun k e => .inl (.inr (by injection e with e; exact e.symm))); obtain ⟨w3, hw3⟩ : ∃ w3, w2.setCells g (i * 3) [.int .u8 1, .int .u32 id, .int .i64 v] = w3 := ⟨_, rfl⟩; change IdxAt (w2.setCells g (i * 3) [.int .u8 1, .int .u32 id, .int .i64 v]) _ _ _ _ _ _ _ _ at hI3; change Tch _ w (w2.setCells g (i * 3) [.int .u8 1, .int .u32 id, .int .i64 v]) at hT3; change wpList _ _ _ _ _ (w2.setCells g (i * 3) [.int .u8 1, .int .u32 id, .int .i64 v]); rw [hw3] at hI3 hT3 ⊢; clear hw3 y0 z0 HTH; have v0 : w3.cell? ⟨p, 0, none⟩ = some (.slice (some ⟨g, 0, none⟩) n n) := hI3.own.cell 0; have v2 : w3.cell? ⟨p, 2, none⟩ = some (.int .i64 len) := hI3.own.cell 2; have v3 : w3.cell? ⟨p, 3, none⟩ = some (.int .i64 ((0 : Nat) : Int)) := hI3.own.cell 3; have m2 := hI3.own.mark 2; have hpl := hI3.own.lt; have HI3 := Lib.hid hI3; have HT3 := Lib.hid hT3; clear hI3 hT3)
  refine wp_region_quiet_lit (by kernel_rfl) (by kernel_rfl) ?_
  repeat (first | go_big_quiet_step ((fail)) | quiet_step ((fail)))
  refine wpQuiet_nil ?_
  intro _ hw'
  obtain ⟨nq, hw''⟩ := hw'
  subst hw''
  go_wp2_with fail
  go_ret
  have hI3 := HI3.out
  have q1 := cnt_upd f 1 i ⟨1, id, v⟩ n hi
  have q2 := cnt_upd f 2 i ⟨1, id, v⟩ n hi
  rw [HST.out] at q1 q2
  have r1 := HH.out.full
  have r2 := HH.out.grv
  refine ⟨rfl, ⟨i, hi, by rw [HST.out]; decide, ⟨⟨s1, ?_, hI3.rows.same (Below.heap_setCell w3 ⟨p, 2, none⟩ _ g (fun e => hI3.apart e.symm)), hI3.apart⟩, HTAB.out v, by simp at q1; omega, by simp at q2; omega, by have := HH.out.room; omega⟩⟩, ?_⟩
  · have := (hI3.own.put 2 (.int .i64 ((len : Int) + 1))).drewN nq
    push_cast
    exact this
  · have := HT3.out.put (p := ⟨p, 2, none⟩) (.inl (.inl rfl)) (.int .i64 ((len : Int) + 1))
    exact ⟨this.os, this.tape, this.output, this.size, this.block⟩

end Go.Proofs.YtkmpchffflemcaaGreatDoor.Idx
end
end
