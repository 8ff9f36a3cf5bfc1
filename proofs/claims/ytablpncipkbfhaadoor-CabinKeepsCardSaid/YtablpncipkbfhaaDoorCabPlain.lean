/- The plain law of the cabin: which cabins may be, where aisles lie. No program in sight. -/
import Derived.Test.YtablpncipkbfhaaDoorKit2
namespace Go.Proofs.YtablpncipkbfhaaDoor.Cab
open Go.RowKit

/-- aisles rise, from behind 'last' on, below the width -/
def okZs (wide : Int) : Int → List Int → Bool
  | _, [] => true
  | last, a :: r => decide (last < a) && (decide (a < wide) && okZs wide a r)
def okRW (r wd : Int) : Bool := decide (1 ≤ r ∧ r ≤ 64 ∧ 1 ≤ wd ∧ wd ≤ 16)
/-- may a cabin be? -/
def okC (r wd : Int) (zs : List Int) : Bool := okRW r wd && okZs wd 0 zs
theorem okRW_yes {r wd : Int} (h : okRW r wd = true) : 1 ≤ r ∧ r ≤ 64 ∧ 1 ≤ wd ∧ wd ≤ 16 := by simpa [okRW] using h
theorem okRW_no {r wd : Int} (h : okRW r wd = false) : r < 1 ∨ 64 < r ∨ wd < 1 ∨ 16 < wd := by
  simp only [okRW, decide_eq_false_iff_not] at h; omega
theorem okC_yes {r wd : Int} {zs : List Int} (h : okC r wd zs = true) : (1 ≤ r ∧ r ≤ 64 ∧ 1 ≤ wd ∧ wd ≤ 16) ∧ okZs wd 0 zs = true := by
  simp only [okC, Bool.and_eq_true] at h
  exact ⟨okRW_yes h.1, h.2⟩

/-- the value that stands last of the first k; 0 at the start -/
def lastOf (zs : List Int) : Nat → Int
  | 0 => 0
  | k + 1 => zs.getD k 0
/-- do the first k aisles rise? -/
def okTo (wd : Int) (zs : List Int) (k : Nat) : Prop := ∀ j, j < k → lastOf zs j < zs.getD j 0 ∧ zs.getD j 0 < wd
theorem okZs_iff (wd : Int) : ∀ (zs : List Int) (last : Int), okZs wd last zs = true ↔ ∀ j, j < zs.length → (if j = 0 then last else zs.getD (j - 1) 0) < zs.getD j 0 ∧ zs.getD j 0 < wd
  | [], last => by simp [okZs]
  | a :: r, last => by
    simp only [okZs, Bool.and_eq_true, decide_eq_true_eq, okZs_iff wd r a]
    constructor
    · rintro ⟨h1, h2, h3⟩ j hj
      match j with
      | 0 => exact ⟨h1, h2⟩
      | j + 1 =>
        have h4 := h3 j (by simpa using hj)
        simp only [List.getD_cons_succ, Nat.add_sub_cancel, Nat.succ_ne_zero, if_false] at h4 ⊢
        refine ⟨?_, h4.2⟩
        match j with
        | 0 => exact h4.1
        | j + 1 => exact h4.1
    · intro h
      refine ⟨(h 0 (by simp)).1, (h 0 (by simp)).2, fun j hj => ?_⟩
      have h4 := h (j + 1) (by simpa using hj)
      simp only [List.getD_cons_succ, Nat.add_sub_cancel, Nat.succ_ne_zero, if_false] at h4
      refine ⟨?_, h4.2⟩
      match j with
      | 0 => exact h4.1
      | j + 1 => exact h4.1
theorem okZs_to {wd : Int} {zs : List Int} : okZs wd 0 zs = true ↔ okTo wd zs zs.length := by
  rw [okZs_iff]
  constructor
  · intro h j hj
    have h1 := h j hj
    match j with
    | 0 => exact h1
    | j + 1 => exact h1
  · intro h j hj
    have h1 := h j hj
    match j with
    | 0 => exact h1
    | j + 1 => exact h1
theorem okTo_lo {wd : Int} {zs : List Int} {k : Nat} (h : okTo wd zs k) : ∀ j, j < k → (j : Int) < zs.getD j 0
  | 0, hj => (h 0 hj).1
  | j + 1, hj => by
    have h1 := okTo_lo h j (by omega)
    have h2 := (h (j + 1) hj).1
    simp only [lastOf] at h2
    omega
theorem okTo_last {wd : Int} {zs : List Int} {k : Nat} (h : okTo wd zs k) : 0 ≤ lastOf zs k := by
  match k with
  | 0 => simp [lastOf]
  | k + 1 =>
    have := okTo_lo h k (by omega)
    simp only [lastOf]; omega
theorem okTo_next {wd : Int} {zs : List Int} {k : Nat} (h : okTo wd zs k) (h1 : lastOf zs k < zs.getD k 0) (h2 : zs.getD k 0 < wd) : okTo wd zs (k + 1) := by
  intro j hj
  rcases Nat.lt_or_ge j k with h3 | h3
  · exact h j h3
  · obtain rfl : j = k := by omega
    exact ⟨h1, h2⟩
theorem okTo_not {wd : Int} {zs : List Int} {k : Nat} (hk : k < zs.length) (h : ¬ (lastOf zs k < zs.getD k 0 ∧ zs.getD k 0 < wd)) : okZs wd 0 zs = false := by
  rw [Bool.eq_false_iff, Ne, okZs_to]
  exact fun h1 => h (h1 k hk)
theorem okTo_len {wd : Int} {zs : List Int} {k : Nat} (h : okTo wd zs k) (hw : wd ≤ 16) : k ≤ 15 := by
  match k with
  | 0 => omega
  | k + 1 =>
    have h1 := okTo_lo h k (by omega)
    have h2 := (h k (by omega)).2
    omega

/-- where aisles lie, of the first k -/
def lies (zs : List Int) (k : Nat) (j : Nat) : Bool := (zs.take k).contains (j : Int)
def arr17 (f : Nat → Bool) : Array Value := #[.bool (f 0), .bool (f 1), .bool (f 2), .bool (f 3), .bool (f 4), .bool (f 5), .bool (f 6), .bool (f 7), .bool (f 8), .bool (f 9), .bool (f 10), .bool (f 11), .bool (f 12), .bool (f 13), .bool (f 14), .bool (f 15), .bool (f 16)]
theorem arr17_at (f : Nat → Bool) {j : Nat} (h : j < 17) : (arr17 f)[j]? = some (.bool (f j)) := by
  obtain rfl | rfl | rfl | rfl | rfl | rfl | rfl | rfl | rfl | rfl | rfl | rfl | rfl | rfl | rfl | rfl | rfl : j = 0 ∨ j = 1 ∨ j = 2 ∨ j = 3 ∨ j = 4 ∨ j = 5 ∨ j = 6 ∨ j = 7 ∨ j = 8 ∨ j = 9 ∨ j = 10 ∨ j = 11 ∨ j = 12 ∨ j = 13 ∨ j = 14 ∨ j = 15 ∨ j = 16 := by omega
  all_goals rfl
theorem arr17_size (f : Nat → Bool) : (arr17 f).size = 17 := rfl
theorem arr17_set (f : Nat → Bool) {i : Nat} (_h : i < 17) : (arr17 f).setIfInBounds i (.bool true) = arr17 (fun j => if j = i then true else f j) := by
  apply Array.ext_getElem?
  intro j
  rw [Array.getElem?_setIfInBounds]
  rcases Nat.lt_or_ge j 17 with hj | hj
  · rw [arr17_at _ hj, arr17_at _ hj, arr17_size]
    by_cases e : i = j
    · subst e; simp [hj]
    · rw [if_neg e]; simp [show ¬ j = i from fun h => e h.symm]
  · have h1 : ∀ f, (arr17 f)[j]? = none := fun f => Array.getElem?_eq_none (by rw [arr17_size]; exact hj)
    rw [h1, h1]
    by_cases e : i = j
    · rw [if_pos e, arr17_size, if_neg (by omega)]
    · rw [if_neg e]
theorem arr17_congr {f g : Nat → Bool} (h : ∀ j, j < 17 → f j = g j) : arr17 f = arr17 g := by
  apply Array.ext_getElem?
  intro j
  rcases Nat.lt_or_ge j 17 with hj | hj
  · rw [arr17_at _ hj, arr17_at _ hj, h j hj]
  · rw [Array.getElem?_eq_none (by rw [arr17_size]; exact hj), Array.getElem?_eq_none (by rw [arr17_size]; exact hj)]
theorem lies_next {zs : List Int} {k i : Nat} (hk : k < zs.length) (hi : zs.getD k 0 = (i : Int)) (j : Nat) : lies zs (k + 1) j = if j = i then true else lies zs k j := by
  have hk' : zs[k] = (i : Int) := by rw [← hi, List.getD_eq_getElem?_getD, List.getElem?_eq_getElem hk]; rfl
  unfold lies
  rw [List.take_succ_eq_append_getElem hk, hk']
  by_cases e : j = i
  · subst e; simp
  · rw [if_neg e]
    have : ¬ (j : Int) = (i : Int) := by omega
    simp [this]

end Go.Proofs.YtablpncipkbfhaaDoor.Cab
