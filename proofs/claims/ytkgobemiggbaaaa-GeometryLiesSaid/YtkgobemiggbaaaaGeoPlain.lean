/- The plain arithmetic of the geometry layer: when a shape may be, when a size may be, how many pieces hold so many bytes. No program in sight. -/
import Derived.WalkKit
namespace Go.Proofs.Ytkgobemiggbaaaa.Geo
open Go.RowKit

/-- may a shape be? -/
def okS (a b c : Int) : Bool := decide (1 ≤ a ∧ a ≤ 1024 ∧ 1 ≤ b ∧ b ≤ 4096 ∧ 1 ≤ c ∧ c ≤ 64)

theorem okS_yes {a b c : Int} (h : okS a b c = true) : 1 ≤ a ∧ a ≤ 1024 ∧ 1 ≤ b ∧ b ≤ 4096 ∧ 1 ≤ c ∧ c ≤ 64 := by
  simpa [okS] using h
theorem okS_no {a b c : Int} (h : okS a b c = false) : a < 1 ∨ 1024 < a ∨ b < 1 ∨ 4096 < b ∨ c < 1 ∨ 64 < c := by
  simp only [okS, decide_eq_false_iff_not] at h
  omega

/-- may a sector have so many bytes? -/
def okZ (n : Int) : Bool := n == 64 || n == 128 || n == 256 || n == 512 || n == 1024 || n == 2048 || n == 4096

theorem okZ_iff {n : Int} : okZ n = true ↔ (n = 64 ∨ n = 128 ∨ n = 256 ∨ n = 512 ∨ n = 1024 ∨ n = 2048 ∨ n = 4096) := by
  simp [okZ, or_assoc]

theorem okZ_no_lo {n : Int} (h : n < 64) : okZ n = false := by
  rw [Bool.eq_false_iff, Ne, okZ_iff]; omega
theorem okZ_no_hi {n : Int} (h : 4096 < n) : okZ n = false := by
  rw [Bool.eq_false_iff, Ne, okZ_iff]; omega

theorem bits_all : ∀ k : Fin 64, ∀ j : Fin 65, (bits BinOp.and IntKind.i64 (((k.val * 64 + j.val : Nat) : Int) + 64) (((k.val * 64 + j.val : Nat) : Int) + 64 - 1) == 0) = okZ (((k.val * 64 + j.val : Nat) : Int) + 64) := by
  decide +kernel

theorem bits_okZ {n : Int} (h1 : 64 ≤ n) (h2 : n ≤ 4096) : (bits BinOp.and IntKind.i64 n (n - 1) == 0) = okZ n := by
  have h := bits_all ⟨min 63 ((n - 64).toNat / 64), by omega⟩ ⟨(n - 64).toNat - min 63 ((n - 64).toNat / 64) * 64, by omega⟩
  simp only [show ((min 63 ((n - 64).toNat / 64) * 64 + ((n - 64).toNat - min 63 ((n - 64).toNat / 64) * 64) : Nat) : Int) + 64 = n from by omega] at h
  exact h

/-- how many pieces of m hold n -/
def up (n m : Int) : Int := (n + m - 1) / m

theorem lt_up {k n m : Int} (hm : 1 ≤ m) : k < up n m ↔ k * m < n := by
  unfold up
  rw [Int.lt_iff_add_one_le, Int.le_ediv_iff_mul_le (by omega), Int.add_mul]
  omega
theorem up_le {k n m : Int} (hm : 1 ≤ m) : up n m ≤ k ↔ n ≤ k * m := by
  have := @lt_up k n m hm
  omega
theorem up_pos {n m : Int} (hn : 1 ≤ n) (hm : 1 ≤ m) : 1 ≤ up n m := by
  have := (@lt_up 0 n m hm).2 (by omega)
  omega
theorem up_hi {n m : Int} (hn : 0 ≤ n) (hm : 1 ≤ m) : up n m ≤ n := by
  rw [up_le hm]
  have := Int.mul_le_mul_of_nonneg_left hm hn
  omega
theorem up_mono {n n' m : Int} (h : n ≤ n') (hm : 1 ≤ m) : up n m ≤ up n' m := by
  rw [up_le hm]
  have := (@up_le (up n' m) n' m hm).1 (Int.le_refl _)
  omega

/-- an image's most bytes -/
def image (a b : Int) : Int := 20 + 14 * min a b
theorem image_lo {a b : Int} (h : 1 ≤ a) (h' : 1 ≤ b) : 34 ≤ image a b := by unfold image; omega
theorem image_hi {a b : Int} (h : a ≤ 1024) : image a b ≤ 14356 := by unfold image; omega

/-- a slot's sectors -/
def slot (a b m : Int) : Int := 1 + up (image a b) m

/-- the sectors that are needed -/
def need (a b m : Int) : Int := 2 * slot a b m + up 54 m

structure Okay (a b c m : Int) : Prop where
  a1 : 1 ≤ a
  a2 : a ≤ 1024
  b1 : 1 ≤ b
  b2 : b ≤ 4096
  c1 : 1 ≤ c
  c2 : c ≤ 64
  m1 : 64 ≤ m
  m2 : m ≤ 4096
  i1 : 34 ≤ image a b
  i2 : image a b ≤ 14356
  s1 : 2 ≤ slot a b m
  s2 : slot a b m ≤ 14357
  u1 : 1 ≤ up 54 m
  u2 : up 54 m ≤ 54
theorem okay {a b c m : Int} (hs : okS a b c = true) (hz : okZ m = true) : Okay a b c m := by
  obtain ⟨h1, h2, h3, h4, h5, h6⟩ := okS_yes hs
  have hm := okZ_iff.1 hz
  have hi := image_lo h1 h3
  have hj := @image_hi a b h2
  have hu := @up_pos (image a b) m (by omega) (by omega)
  have hv := @up_hi (image a b) m (by omega) (by omega)
  have hw := @up_pos 54 m (by omega) (by omega)
  have hx := @up_hi 54 m (by omega) (by omega)
  exact ⟨h1, h2, h3, h4, h5, h6, by omega, by omega, hi, hj, by unfold slot; omega, by unfold slot; omega, hw, hx⟩

/-- may a disk have so many sectors of that size? -/
def okD (n m : Int) : Bool := decide (1 ≤ n) && (decide (n ≤ 65536) && (okZ m && decide (n * m ≤ 67108864)))

end Go.Proofs.Ytkgobemiggbaaaa.Geo
