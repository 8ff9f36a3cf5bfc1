/- The plain law of CabinBlocks: who stands within a block, who at its ends. No program in sight. -/
import Derived.Test.YtablpncipkbfhaaDoorCabPlain4
import Derived.Test.YtablpncipkbfhaaDoorCab10
namespace Go.Proofs.YtablpncipkbfhaaDoor.Cab

theorem stB_no {wd : Nat} {zs : List Int} {k : Nat} (h : stB wd zs k = false) : ¬ k % wd = 0 ∧ lieAt zs ((k % wd : Nat) : Int) = false := by
  unfold stB at h
  rw [Bool.or_eq_false_iff, beq_eq_false_iff_ne] at h
  exact h
theorem stB_yes {wd : Nat} {zs : List Int} {k : Nat} (h : stB wd zs k = true) : k % wd = 0 ∨ lieAt zs ((k % wd : Nat) : Int) = true := by
  unfold stB at h
  rw [Bool.or_eq_true, beq_iff_eq] at h
  exact h
theorem mod_next {wd k : Nat} (hw : 0 < wd) (h : ¬ (k + 1) % wd = 0) : (k + 1) % wd = k % wd + 1 ∧ (k + 1) / wd = k / wd := by
  have h1 := Nat.mod_lt k hw
  have h2 := Nat.div_add_mod k wd
  rcases Nat.lt_or_ge (k % wd + 1) wd with h3 | h3
  · have e : k + 1 = (k % wd + 1) + wd * (k / wd) := by omega
    constructor
    · rw [e, Nat.add_mul_mod_self_left, Nat.mod_eq_of_lt h3]
    · rw [e, Nat.add_mul_div_left _ _ hw, Nat.div_eq_of_lt h3, Nat.zero_add]
  · exfalso
    have e : k + 1 = wd * (k / wd + 1) := by rw [Nat.mul_add, Nat.mul_one]; omega
    rw [e, Nat.mul_mod_right] at h
    exact h rfl
theorem mod_last {wd k : Nat} (hw : 0 < wd) (h : (k + 1) % wd = 0) : k % wd = wd - 1 ∧ (k + 1) / wd = k / wd + 1 := by
  have h1 := Nat.mod_lt k hw
  have h2 := Nat.div_add_mod k wd
  have h3 := Nat.div_add_mod (k + 1) wd
  rcases Nat.lt_or_ge (k % wd + 1) wd with h4 | h4
  · have e : (k + 1) % wd = k % wd + 1 := by
      rw [show k + 1 = (k % wd + 1) + wd * (k / wd) from by omega, Nat.add_mul_mod_self_left, Nat.mod_eq_of_lt h4]
    omega
  · refine ⟨by omega, ?_⟩
    have e : k + 1 = wd * (k / wd + 1) := by rw [Nat.mul_add, Nat.mul_one]; omega
    rw [e, Nat.mul_div_right _ hw]
/-- a block lies in one row -/
theorem one_row {wd : Nat} (hw : 0 < wd) {f : Nat} : ∀ j, (∀ i, 0 < i → i ≤ j → ¬ (f + i) % wd = 0) → (f + j) / wd = f / wd
  | 0, _ => rfl
  | j + 1, h => by
    have := (mod_next (k := f + j) hw (h (j + 1) (by omega) (by omega))).2
    rw [← Nat.add_assoc, this]
    exact one_row hw j fun i h1 h2 => h i h1 (by omega)

def winB (wd : Nat) (s : Nat) : Bool := (s : Int) % (wd : Int) == 0 || (s : Int) % (wd : Int) == (wd : Int) - 1
def aisB (wd : Nat) (zs : List Int) (s : Nat) : Bool := lieAt zs ((s : Int) % (wd : Int)) || lieAt zs ((s : Int) % (wd : Int) + 1)
theorem mid_none {wd : Nat} {zs : List Int} {s : Nat} (hw : 0 < wd) (h1 : stB wd zs s = false) (h2 : stB wd zs (s + 1) = false) : winB wd s = false ∧ aisB wd zs s = false := by
  obtain ⟨a1, a2⟩ := stB_no h1
  obtain ⟨b1, b2⟩ := stB_no h2
  obtain ⟨c1, _⟩ := mod_next hw b1
  have hm := Nat.mod_lt (s + 1) hw
  rw [c1] at b2 hm
  unfold winB aisB
  rw [← Int.natCast_emod]
  refine ⟨?_, ?_⟩
  · rw [Bool.or_eq_false_iff, beq_eq_false_iff_ne, beq_eq_false_iff_ne]
    omega
  · rw [Bool.or_eq_false_iff]
    exact ⟨a2, b2⟩
theorem first_some {wd : Nat} {zs : List Int} {s : Nat} (h1 : stB wd zs s = true) : (winB wd s || aisB wd zs s) = true := by
  unfold winB aisB
  rw [← Int.natCast_emod]
  rcases stB_yes h1 with h | h
  · rw [h]; rfl
  · rw [h]; simp
theorem last_some {wd : Nat} {zs : List Int} {s : Nat} (hw : 0 < wd) (h1 : (s + 1) % wd = 0 ∨ stB wd zs (s + 1) = true) : (winB wd s || aisB wd zs s) = true := by
  unfold winB aisB
  rw [← Int.natCast_emod]
  by_cases h0 : (s + 1) % wd = 0
  · obtain ⟨h2, _⟩ := mod_last hw h0
    have : (((s % wd : Nat) : Int) == (wd : Int) - 1) = true := by rw [beq_iff_eq]; omega
    rw [this]; simp
  · obtain ⟨c1, _⟩ := mod_next hw h0
    rcases h1 with h1 | h1
    · exact absurd h1 h0
    · rcases stB_yes h1 with h | h
      · exact absurd h h0
      · rw [c1] at h
        have h' : lieAt zs (((s % wd : Nat) : Int) + 1) = true := h
        rw [h']; simp
theorem bes_in {wd : Nat} {zs : List Int} {s : Nat} (hw : 0 < wd) (h1 : stB wd zs (s + 1) = false) : besB wd zs (s : Int) ((s : Int) + 1) = true := by
  obtain ⟨b1, b2⟩ := stB_no h1
  obtain ⟨_, c2⟩ := mod_next hw b1
  rw [bes_next zs (by rw [← Int.natCast_ediv, show ((s : Int) + 1) = ((s + 1 : Nat) : Int) from rfl, ← Int.natCast_ediv, c2]), show ((s : Int) + 1) = ((s + 1 : Nat) : Int) from rfl, ← Int.natCast_emod, b2]; rfl
theorem bes_out {wd : Nat} {zs : List Int} {s : Nat} (hw : 0 < wd) (h1 : stB wd zs (s + 1) = true) : besB wd zs (s : Int) ((s : Int) + 1) = false := by
  by_cases h0 : (s + 1) % wd = 0
  · obtain ⟨_, c2⟩ := mod_last hw h0
    refine bes_row zs ?_
    rw [← Int.natCast_ediv, show ((s : Int) + 1) = ((s + 1 : Nat) : Int) from rfl, ← Int.natCast_ediv, c2]
    omega
  · obtain ⟨_, c2⟩ := mod_next hw h0
    rcases stB_yes h1 with h | h
    · exact absurd h h0
    · rw [bes_next zs (by rw [← Int.natCast_ediv, show ((s : Int) + 1) = ((s + 1 : Nat) : Int) from rfl, ← Int.natCast_ediv, c2]), show ((s : Int) + 1) = ((s + 1 : Nat) : Int) from rfl, ← Int.natCast_emod, h]; rfl

/-- how many blocks -/
theorem block_count {r wd : Nat} (t : Nat → Bool) (hr : 0 < r) (hw : 0 < wd) : (full (stB wd (som t (wd - 1))) (r * wd)).length = r * ((som t (wd - 1)).length + 1) := by
  rw [full_count (stB_zero _ _) (Nat.mul_pos hr hw), stB_count]
  congr 1
  have := som_len0 t (wd - 1)
  rwa [show wd - 1 + 1 = wd from by omega] at this

end Go.Proofs.YtablpncipkbfhaaDoor.Cab
