/- The plain law of the cabin's blocks, as the two programs build them: row by row. No program in sight. -/
import Derived.Test.YtablpncipkbfhaaDoorCabPlain3
namespace Go.Proofs.YtablpncipkbfhaaDoor.Cab

/-- the cells of blocks -/
def spans (l : List (Nat × Nat)) : List Value := l.flatMap fun x => [.int .i64 x.1, .int .i64 x.2]
theorem spans_snoc (l : List (Nat × Nat)) (f c : Nat) : spans (l ++ [(f, c)]) = spans l ++ [.int .i64 f, .int .i64 c] := by
  unfold spans; rw [List.flatMap_append]; rfl
theorem spans_len (l : List (Nat × Nat)) : (spans l).length = l.length * 2 := by
  induction l with
  | nil => rfl
  | cons x r ih => unfold spans at *; rw [List.flatMap_cons, List.length_append, ih]; simp; omega
theorem spans_one {l : List (Nat × Nat)} : ∀ u ∈ spans l, u.oneCell' = true := by
  intro u hu
  unfold spans at hu
  obtain ⟨x, _, hx⟩ := List.mem_flatMap.1 hu
  simp at hx
  rcases hx with rfl | rfl <;> rfl
theorem spans_at {l : List (Nat × Nat)} : ∀ {i : Nat} (h : i < l.length), (spans l)[i * 2]? = some (.int .i64 (l[i]).1) ∧ (spans l)[i * 2 + 1]? = some (.int .i64 (l[i]).2) := by
  induction l with
  | nil => intro i h; simp at h
  | cons x r ih =>
    intro i h
    match i with
    | 0 => exact ⟨rfl, rfl⟩
    | i + 1 =>
      have := ih (i := i) (by simpa using h)
      rw [show (i + 1) * 2 = i * 2 + 2 from by omega, show i * 2 + 2 + 1 = i * 2 + 1 + 2 from by omega]
      exact this

/-- a row begins -/
theorem row_begin (st : Nat → Bool) {k : Nat} (h : st k = true) : clo st (k + 1) = full st k ∧ frm st (k + 1) = k := by
  refine ⟨?_, frm_yes h⟩
  rcases Nat.eq_zero_or_pos k with rfl | hk
  · rw [clo_one]; rfl
  · exact clo_full h hk
theorem stB_in {wd : Nat} {zs : List Int} {row col : Nat} (h0 : 0 < col) (h : col < wd) : stB wd zs (row * wd + col) = lieAt zs (col : Int) := by
  rw [stB_at h, show (col == 0) = false from beq_eq_false_iff_ne.2 (by omega), Bool.false_or]
/-- within a row, no start: on -/
theorem row_on {wd : Nat} {zs : List Int} {row col : Nat} (h0 : 0 < col) (h : col < wd) (hl : lieAt zs (col : Int) = false) :
    clo (stB wd zs) (row * wd + col + 1) = clo (stB wd zs) (row * wd + col) ∧ frm (stB wd zs) (row * wd + col + 1) = frm (stB wd zs) (row * wd + col) := by
  have e := (stB_in (zs := zs) (row := row) h0 h).trans hl
  exact ⟨clo_no e, frm_no e⟩
/-- within a row, a start: one block is closed -/
theorem row_cut {wd : Nat} {zs : List Int} {row col fr : Nat} (h0 : 0 < col) (h : col < wd) (hl : lieAt zs (col : Int) = true) (hf : frm (stB wd zs) (row * wd + col) = row * wd + fr) :
    clo (stB wd zs) (row * wd + col + 1) = clo (stB wd zs) (row * wd + col) ++ [(row * wd + fr, col - fr)] ∧ frm (stB wd zs) (row * wd + col + 1) = row * wd + col := by
  have e := (stB_in (zs := zs) (row := row) h0 h).trans hl
  refine ⟨?_, frm_yes e⟩
  rw [clo_yes e (by omega), hf, show row * wd + col - (row * wd + fr) = col - fr from by omega]
/-- a row ends -/
theorem row_end {wd : Nat} {zs : List Int} {row fr : Nat} (h0 : 0 < wd) (hf : frm (stB wd zs) (row * wd + wd) = row * wd + fr) :
    full (stB wd zs) ((row + 1) * wd) = clo (stB wd zs) (row * wd + wd) ++ [(row * wd + fr, wd - fr)] := by
  rw [Nat.add_mul, Nat.one_mul, full_pos (by omega), hf, show row * wd + wd - (row * wd + fr) = wd - fr from by omega]

end Go.Proofs.YtablpncipkbfhaaDoor.Cab
