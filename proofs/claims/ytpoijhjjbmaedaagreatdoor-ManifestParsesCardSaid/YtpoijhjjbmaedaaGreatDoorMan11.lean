/- Plain laws: where the lines of a text lie; what is read is told as the text. -/
import Derived.Test.YtpoijhjjbmaedaaGreatDoorManB
set_option linter.unusedVariables false
set_option linter.unusedSimpArgs false
namespace Go.Proofs.YtpoijhjjbmaedaaGreatDoor.Man
open Go.RowKit

def Term (y : List UInt8) : Prop := ∃ t, y = t ++ [10] ∧ (10 : UInt8) ∉ t
theorem linesL_split : ∀ (P : List (List UInt8)) (l x : List UInt8) (R : List (List UInt8)), linesL l = P ++ x :: R → Term x ∨ (R = [] ∧ (10 : UInt8) ∉ x ∧ x ≠ []) := by
  intro P
  induction P with
  | nil =>
    intro l x R h
    cases hu : upto 10 l with
    | some p =>
      obtain ⟨t, r⟩ := p
      rw [linesL_some hu] at h
      simp only [List.nil_append, List.cons.injEq] at h
      exact .inl ⟨t, h.1.symm, (upto_some.1 hu).2⟩
    | none =>
      have hno := upto_none.1 hu
      by_cases hl : l = []
      · subst hl; simp [linesL] at h
      · rw [linesL_none hno hl] at h
        simp only [List.nil_append, List.cons.injEq] at h
        obtain ⟨h1, h2⟩ := h
        subst h1
        exact .inr ⟨h2.symm, hno, hl⟩
  | cons y P ih =>
    intro l x R h
    cases hu : upto 10 l with
    | some p =>
      obtain ⟨t, r⟩ := p
      rw [linesL_some hu] at h
      simp only [List.cons_append, List.cons.injEq] at h
      exact ih r x R h.2
    | none =>
      have hno := upto_none.1 hu
      by_cases hl : l = []
      · subst hl; simp [linesL] at h
      · rw [linesL_none hno hl] at h
        simp at h
theorem linesL_ahead {P : List (List UInt8)} {l x : List UInt8} {R : List (List UInt8)} (h : linesL l = P ++ x :: R) : ∀ y ∈ P, Term y := by
  intro y hy
  obtain ⟨A, B, rfl⟩ := List.append_of_mem hy
  have h2 : linesL l = A ++ y :: (B ++ x :: R) := by rw [h]; simp
  rcases linesL_split A l y _ h2 with h3 | ⟨h3, _⟩
  · exact h3
  · simp at h3
theorem linesL_term : ∀ {P : List (List UInt8)} {b : List UInt8}, (∀ y ∈ P, Term y) → linesL (P.flatten ++ b) = P ++ linesL b
  | [], _, _ => rfl
  | y :: P, b, h => by
    obtain ⟨t, rfl, ht⟩ := h _ List.mem_cons_self
    have e : ((t ++ [10]) :: P).flatten ++ b = t ++ 10 :: (P.flatten ++ b) := by simp
    rw [e, linesL_some (upto_some.2 ⟨rfl, ht⟩), linesL_term (fun z hz => h z (List.mem_cons_of_mem _ hz))]
    rfl
def off (L : List (List UInt8)) (j : Nat) : Nat := ((L.take j).flatten).length
theorem off_zero (L : List (List UInt8)) : off L 0 = 0 := by simp [off]
theorem off_succ {L : List (List UInt8)} {k : Nat} {x : List UInt8} (h : L[k]? = some x) : off L (k + 1) = off L k + x.length := by
  have hk : k < L.length := by
    rcases Nat.lt_or_ge k L.length with h1 | h1
    · exact h1
    · rw [List.getElem?_eq_none h1] at h; cases h
  have hx : L[k] = x := by rw [List.getElem?_eq_getElem hk] at h; exact Option.some.inj h
  unfold off
  rw [List.take_succ_eq_append_getElem hk, List.flatten_append, List.length_append, hx]
  simp
theorem get_mid {L A X B : List UInt8} {o i : Nat} (h : L = A ++ (X ++ B)) (ho : o = A.length) (hi : i < X.length) : L[o + i]? = X[i]? := by
  subst h ho
  rw [List.getElem?_append_right (by omega), List.getElem?_append_left (by omega)]
  congr 1; omega
/-- where a text's line lies -/
theorem line_lies (l : List UInt8) (k : Nat) (hk : k < (linesL l).length) : ∃ m, 1 ≤ m ∧ off (linesL l) (k + 1) = off (linesL l) k + m ∧ off (linesL l) (k + 1) ≤ l.length ∧
    (∀ j, 0 < j → j < m → ∃ b : UInt8, b ≠ 10 ∧ l[off (linesL l) k + j - 1]? = some b) ∧ (l[off (linesL l) (k + 1) - 1]? = some 10 ∨ (off (linesL l) (k + 1) = l.length ∧ ∃ b : UInt8, l[off (linesL l) (k + 1) - 1]? = some b)) := by
  obtain ⟨x, hx⟩ : ∃ x, (linesL l)[k] = x := ⟨_, rfl⟩
  have hx? : (linesL l)[k]? = some x := by rw [List.getElem?_eq_getElem hk, hx]
  have hsp : linesL l = (linesL l).take k ++ x :: (linesL l).drop (k + 1) := by
    rw [← hx]; simp
  have hfl : l = ((linesL l).take k).flatten ++ (x ++ ((linesL l).drop (k + 1)).flatten) := by
    have h1 := linesL_flat l
    rw [hsp] at h1
    simp at h1
    exact h1.symm
  have hoff : off (linesL l) k = (((linesL l).take k).flatten).length := rfl
  have hs := off_succ hx?
  have hget : ∀ i, i < x.length → l[off (linesL l) k + i]? = x[i]? := fun i hi => get_mid hfl hoff hi
  have hle : off (linesL l) (k + 1) ≤ l.length := by
    rw [hs]
    have := congrArg List.length hfl
    rw [List.length_append, List.length_append, ← hoff] at this
    omega
  rcases linesL_split _ _ _ _ hsp with ⟨t, ht, hno⟩ | ⟨hR, hno, hne⟩
  · have hxl : x.length = t.length + 1 := by rw [ht]; simp
    refine ⟨x.length, by omega, hs, hle, fun j h0 hj => ?_, .inl ?_⟩
    · have h1 := hget (j - 1) (by omega)
      have h2 : x[j - 1]? = t[j - 1]? := by rw [ht, List.getElem?_append_left (by omega)]
      refine ⟨t[j - 1]'(by omega), fun e => hno (e ▸ List.getElem_mem _), ?_⟩
      rw [show off (linesL l) k + j - 1 = off (linesL l) k + (j - 1) by omega, h1, h2, List.getElem?_eq_getElem (by omega)]
    · rw [hs, show off (linesL l) k + x.length - 1 = off (linesL l) k + (x.length - 1) by omega, hget _ (by omega), ht]
      simp
  · have hpos : 0 < x.length := List.length_pos_iff.2 hne
    have hend : off (linesL l) (k + 1) = l.length := by
      rw [hs]
      have := congrArg List.length hfl
      rw [List.length_append, List.length_append, ← hoff, hR] at this
      simp at this; omega
    refine ⟨x.length, by omega, hs, hle, fun j h0 hj => ?_, .inr ⟨hend, ?_⟩⟩
    · have h1 := hget (j - 1) (by omega)
      refine ⟨x[j - 1]'(by omega), fun e => hno (e ▸ List.getElem_mem _), ?_⟩
      rw [show off (linesL l) k + j - 1 = off (linesL l) k + (j - 1) by omega, h1, List.getElem?_eq_getElem (by omega)]
    · refine ⟨x[x.length - 1]'(by omega), ?_⟩
      rw [hs, show off (linesL l) k + x.length - 1 = off (linesL l) k + (x.length - 1) by omega, hget _ (by omega), List.getElem?_eq_getElem (by omega)]

/-- the last byte of a line -/
theorem end_byte {l : List UInt8} {P : List (List UInt8)} {x : List UInt8} {R : List (List UInt8)} (h : linesL l = P ++ x :: R) :
    off (linesL l) P.length = P.flatten.length ∧ off (linesL l) (P.length + 1) = P.flatten.length + x.length ∧ l = P.flatten ++ (x ++ R.flatten) ∧
    ((Term x ∧ l[off (linesL l) (P.length + 1) - 1]? = some 10) ∨ ∃ b : UInt8, b ≠ 10 ∧ l[off (linesL l) (P.length + 1) - 1]? = some b) := by
  have h0 : off (linesL l) P.length = P.flatten.length := by unfold off; rw [h]; simp
  have h1 : off (linesL l) (P.length + 1) = P.flatten.length + x.length := by unfold off; rw [h, show P ++ x :: R = (P ++ [x]) ++ R by simp, show P.length + 1 = (P ++ [x]).length by simp, List.take_left]; simp
  have hfl : l = P.flatten ++ (x ++ R.flatten) := by
    have h2 := linesL_flat l
    rw [h] at h2
    simp at h2
    exact h2.symm
  have hget : ∀ i, i < x.length → l[P.flatten.length + i]? = x[i]? := fun i hi => get_mid hfl rfl hi
  refine ⟨h0, h1, hfl, ?_⟩
  rw [h1]
  rcases linesL_split _ _ _ _ h with ⟨t, ht, hno⟩ | ⟨_, hno, hne⟩
  · refine .inl ⟨⟨t, ht, hno⟩, ?_⟩
    have hxl : x.length = t.length + 1 := by rw [ht]; simp
    rw [show P.flatten.length + x.length - 1 = P.flatten.length + (x.length - 1) by omega, hget _ (by omega), ht]
    simp
  · have hpos : 0 < x.length := List.length_pos_iff.2 hne
    refine .inr ⟨x[x.length - 1]'(by omega), fun e => hno (e ▸ List.getElem_mem _), ?_⟩
    rw [show P.flatten.length + x.length - 1 = P.flatten.length + (x.length - 1) by omega, hget _ (by omega), List.getElem?_eq_getElem (by omega)]
theorem held_how {h : List UInt8} (hh : how h = true) : h = (howB (h == heldW)).data.toList := by
  unfold how at hh
  rw [Bool.or_eq_true, beq_iff_eq, beq_iff_eq] at hh
  rcases hh with rfl | rfl <;> decide
theorem readL_eq {l : List UInt8} {y : Ln} (h : readL l = some (trip y)) : l = lineT y := by
  unfold readL at h
  split at h
  · rename_i hs
    obtain ⟨t, rfl⟩ := (suffix_iff _).1 hs
    rw [trim_snoc] at h
    split at h
    · rename_i a b hw hwords
      split at h
      · rename_i ok
        rw [Bool.and_eq_true, Bool.and_eq_true] at ok
        injection h with h
        simp only [trip, Prod.mk.injEq] at h
        obtain ⟨h1, h2, h3⟩ := h
        rw [(words_three.1 hwords).1, lineT_stem, stemT, ← h1, ← h2, ← h3, ← held_how ok.2.2]
      · cases h
    · cases h
  · cases h
theorem map_lines {xs : List (List UInt8)} {ls : List Ln} (h : xs.map readL = (ls.map trip).map some) : xs = ls.map lineT := by
  induction xs generalizing ls with
  | nil => cases ls with
    | nil => rfl
    | cons y ls => simp at h
  | cons x xs ih => cases ls with
    | nil => simp at h
    | cons y ls =>
      simp only [List.map_cons, List.cons.injEq] at h
      rw [readL_eq h.1, ih h.2]; rfl
theorem map_readL {xs : List ByteArray} {ls : List Ln} (h : xs.map readV = ls.map some) : (xs.map (·.data.toList)).map readL = (ls.map trip).map some := by
  have := congrArg (List.map (Option.map trip)) h
  rw [List.map_map, List.map_map] at this
  rw [List.map_map, show readL ∘ (fun x : ByteArray => x.data.toList) = Option.map trip ∘ readV from funext fun x => (readV_readL x).symm, this, List.map_map]
  rfl
theorem good_text {s : ByteArray} {ls : List Ln} (h : (linesB s).map readV = ls.map some) : txtL ls = s.data.toList := by
  have h1 := map_lines (map_readL h)
  rw [linesB_L s.size s (Nat.le_refl _)] at h1
  have h2 := linesL_flat s.data.toList
  rw [h1] at h2
  exact h2
theorem lineT_ge (x : Ln) : x.seat.size + x.code.size + 7 ≤ (lineT x).length := by
  have h1 : 4 ≤ (howB x.held).data.toList.length := by unfold howB; split <;> decide
  have h2 : x.seat.data.toList.length = x.seat.size := by rw [Array.length_toList]; rfl
  have h3 : x.code.data.toList.length = x.code.size := by rw [Array.length_toList]; rfl
  unfold lineT
  rw [List.length_append, List.length_cons, List.length_append, List.length_cons, List.length_append, h2, h3]
  simp only [List.length_cons, List.length_nil]
  omega
theorem bulk_le : ∀ ls : List Ln, bulk ls ≤ (txtL ls).length * 2 ∧ ls.length ≤ (txtL ls).length
  | [] => by simp [bulk, txtL]
  | x :: ls => by
    have ih := bulk_le ls
    have hx := lineT_ge x
    simp only [bulk, txtL, List.map_cons, List.flatten_cons, List.length_append, List.sum_cons, List.length_cons] at ih ⊢
    omega

/-- a byte of a text, read -/
theorem idx_str (s : ByteArray) (k : Nat) (b : UInt8) (h : s.data.toList[k]? = some b) (W : World) : (Instr.index 9 (.string s) (.int .i64 (k : Int))).run Tryz.prog W = .ok (.int .u8 (b.toNat : Nat)) W := by
  have hk : k < s.size := by
    rw [Lib.size_eq]
    rcases Nat.lt_or_ge k s.data.toList.length with h1 | h1
    · exact h1
    · rw [List.getElem?_eq_none h1] at h; cases h
  rw [run_index_string W 9 s .i64 _ Tryz.underlying9, dif_pos ⟨by omega, by omega⟩]
  congr 2
  have h2 : k < s.data.toList.length := by rw [← Lib.size_eq]; exact hk
  rw [List.getElem?_eq_getElem h2] at h
  have h3 := Option.some.inj h
  have h4 : s[((k : Int)).toNat]'(by omega) = b := by
    rw [← h3]; rfl
  rw [h4]
theorem cut_str (s : ByteArray) (k : Nat) (hk : k ≤ s.size) (W : World) : (Instr.slice 9 (.string s) none (some (.int .i64 (k : Int))) none).run Tryz.prog W = .ok (.string ⟨(s.data.toList.take k).toArray⟩) W := by
  rw [run_slice_string_h (P := Tryz.prog) W 9 s Tryz.underlying9 .i64 _ (by omega) (by omega)]
  congr 2
  apply ByteArray.ext
  rw [ByteArray.data_extract]
  apply Array.toList_inj.1
  simp

end Go.Proofs.YtpoijhjjbmaedaaGreatDoor.Man
