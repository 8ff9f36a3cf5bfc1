/- The plain law of the cabin's blocks: starts, closed blocks, the open one. No program in sight. -/
import Derived.Test.YtablpncipkbfhaaDoorCabPlain
namespace Go.Proofs.YtablpncipkbfhaaDoor.Cab

/-- an aisle ahead of column k? -/
def lieAt (zs : List Int) (k : Int) : Bool := zs.contains k
theorem lies_lieAt (zs : List Int) (k : Nat) : lies zs zs.length k = lieAt zs (k : Int) := by simp [lies, lieAt]

/-- the last start below k -/
def frm (st : Nat → Bool) : Nat → Nat
  | 0 => 0
  | k + 1 => if st k then k else frm st k
/-- the blocks that are closed below k -/
def clo (st : Nat → Bool) : Nat → List (Nat × Nat)
  | 0 => []
  | k + 1 => if st k && decide (0 < k) then clo st k ++ [(frm st k, k - frm st k)] else clo st k
/-- all blocks of the first k seats -/
def full (st : Nat → Bool) (k : Nat) : List (Nat × Nat) := if k = 0 then [] else clo st k ++ [(frm st k, k - frm st k)]
theorem frm_yes {st : Nat → Bool} {k : Nat} (h : st k = true) : frm st (k + 1) = k := by rw [frm, h]; rfl
theorem frm_no {st : Nat → Bool} {k : Nat} (h : st k = false) : frm st (k + 1) = frm st k := by rw [frm, h]; rfl
theorem clo_yes {st : Nat → Bool} {k : Nat} (h : st k = true) (hk : 0 < k) : clo st (k + 1) = clo st k ++ [(frm st k, k - frm st k)] := by rw [clo, h, decide_eq_true hk]; rfl
theorem clo_no {st : Nat → Bool} {k : Nat} (h : st k = false) : clo st (k + 1) = clo st k := by rw [clo, h]; rfl
theorem clo_one {st : Nat → Bool} : clo st 1 = [] := by simp [clo]
theorem full_pos {st : Nat → Bool} {k : Nat} (h : 0 < k) : full st k = clo st k ++ [(frm st k, k - frm st k)] := by rw [full, if_neg (by omega)]
theorem frm_lt {st : Nat → Bool} : ∀ {k : Nat}, 0 < k → frm st k < k
  | k + 1, _ => by
    cases h : st k with
    | true => rw [frm_yes h]; omega
    | false =>
      rw [frm_no h]
      rcases Nat.eq_zero_or_pos k with rfl | hk
      · simp [frm]
      · have := frm_lt (st := st) hk; omega
theorem full_yes {st : Nat → Bool} {k : Nat} (h : st k = true) : full st (k + 1) = full st k ++ [(k, 1)] := by
  rw [full_pos (by omega), frm_yes h, show k + 1 - k = 1 from by omega]
  rcases Nat.eq_zero_or_pos k with rfl | hk
  · rw [clo_one]; rfl
  · rw [clo_yes h hk, full_pos hk]
theorem full_no {st : Nat → Bool} {k : Nat} (h : st k = false) (hk : 0 < k) : full st (k + 1) = clo st k ++ [(frm st k, k + 1 - frm st k)] := by
  rw [full_pos (by omega), clo_no h, frm_no h]
theorem clo_full {st : Nat → Bool} {k : Nat} (h : st k = true) (hk : 0 < k) : clo st (k + 1) = full st k := by
  rw [clo_yes h hk, full_pos hk]
theorem clo_len {st : Nat → Bool} : ∀ k, (clo st k).length ≤ k
  | 0 => by simp [clo]
  | k + 1 => by
    have := clo_len (st := st) k
    rw [clo]; split
    · simp; omega
    · omega
theorem full_len {st : Nat → Bool} (k : Nat) : (full st k).length ≤ k + 1 := by
  have := clo_len (st := st) k
  rw [full]; split
  · simp
  · simp; omega

/-- blocks that follow one another, each from a start, none with a start within -/
def chain (st : Nat → Bool) : Nat → List (Nat × Nat) → Nat → Prop
  | a, [], e => a = e
  | a, (f, c) :: r, e => f = a ∧ 1 ≤ c ∧ st a = true ∧ (∀ j, 0 < j → j < c → st (a + j) = false) ∧ chain st (a + c) r e
theorem chain_snoc {st : Nat → Bool} : ∀ {a : Nat} {l : List (Nat × Nat)} {f c : Nat}, chain st a l f → 1 ≤ c → st f = true → (∀ j, 0 < j → j < c → st (f + j) = false) → chain st a (l ++ [(f, c)]) (f + c)
  | a, [], f, c, h, h1, h2, h3 => by
    have h : a = f := h
    subst h; exact ⟨rfl, h1, h2, h3, rfl⟩
  | a, (f', c') :: r, f, c, h, h1, h2, h3 => by
    obtain ⟨q1, q2, q3, q4, q5⟩ := h
    exact ⟨q1, q2, q3, q4, chain_snoc q5 h1 h2 h3⟩
theorem frm_start {st : Nat → Bool} (h0 : st 0 = true) : ∀ {k : Nat}, 0 < k → st (frm st k) = true ∧ ∀ j, frm st k < j → j < k → st j = false
  | k + 1, _ => by
    cases h : st k with
    | true => rw [frm_yes h]; exact ⟨h, fun j h1 h2 => by omega⟩
    | false =>
      rw [frm_no h]
      rcases Nat.eq_zero_or_pos k with rfl | hk
      · rw [h0] at h; cases h
      · obtain ⟨q1, q2⟩ := frm_start h0 hk
        refine ⟨q1, fun j h1 h2 => ?_⟩
        rcases Nat.lt_or_ge j k with h3 | h3
        · exact q2 j h1 h3
        · obtain rfl : j = k := by omega
          exact h
theorem clo_chain {st : Nat → Bool} (h0 : st 0 = true) : ∀ {k : Nat}, 0 < k → chain st 0 (clo st k) (frm st k)
  | k + 1, _ => by
    rcases Nat.eq_zero_or_pos k with rfl | hk
    · rw [clo_one, frm_yes h0]; exact rfl
    · have ih := clo_chain h0 hk
      cases h : st k with
      | true =>
        rw [clo_yes h hk, frm_yes h]
        obtain ⟨q1, q2⟩ := frm_start h0 hk
        have hl := frm_lt (st := st) hk
        have := chain_snoc (c := k - frm st k) ih (by omega) q1 (fun j h1 h2 => q2 _ (by omega) (by omega))
        rw [show frm st k + (k - frm st k) = k from by omega] at this
        exact this
      | false => rw [clo_no h, frm_no h]; exact ih
theorem full_chain {st : Nat → Bool} (h0 : st 0 = true) {k : Nat} (hk : 0 < k) : chain st 0 (full st k) k := by
  rw [full_pos hk]
  obtain ⟨q1, q2⟩ := frm_start h0 hk
  have hl := frm_lt (st := st) hk
  have := chain_snoc (c := k - frm st k) (clo_chain h0 hk) (by omega) q1 (fun j h1 h2 => q2 _ (by omega) (by omega))
  rw [show frm st k + (k - frm st k) = k from by omega] at this
  exact this

/-- where the i-th block begins -/
def begins (l : List (Nat × Nat)) (i : Nat) : Nat := ((l.take i).map (·.2)).sum
theorem begins_next {l : List (Nat × Nat)} {i : Nat} (h : i < l.length) : begins l (i + 1) = begins l i + (l[i]).2 := by
  unfold begins
  rw [List.take_succ_eq_append_getElem h, List.map_append, List.sum_append]
  simp
theorem chain_at {st : Nat → Bool} : ∀ {a : Nat} {l : List (Nat × Nat)} {e : Nat}, chain st a l e → ∀ {i : Nat} (h : i < l.length),
    (l[i]).1 = a + begins l i ∧ 1 ≤ (l[i]).2 ∧ st (a + begins l i) = true ∧ (∀ j, 0 < j → j < (l[i]).2 → st (a + begins l i + j) = false) ∧ (a + begins l i + (l[i]).2 = e ∨ st (a + begins l i + (l[i]).2) = true) ∧ a + begins l i + (l[i]).2 ≤ e
  | a, [], e, _, i, h => by simp at h
  | a, (f, c) :: r, e, h, 0, _ => by
    obtain ⟨q1, q2, q3, q4, q5⟩ := h
    have hle : ∀ {a : Nat} {l : List (Nat × Nat)} {e : Nat}, chain st a l e → a ≤ e := by
      intro a l
      induction l generalizing a with
      | nil => intro e h; exact Nat.le_of_eq h
      | cons x r ih => intro e h; obtain ⟨_, _, _, _, q⟩ := h; have := ih q; omega
    refine ⟨by simpa [begins] using q1, q2, by simpa [begins] using q3, by simpa [begins] using q4, ?_, by have := hle q5; simpa [begins] using this⟩
    match r, q5 with
    | [], q5 => left; have q5 : a + c = e := q5; simpa [begins] using q5
    | (f', c') :: r', q5 => right; simpa [begins] using q5.2.2.1
  | a, (f, c) :: r, e, h, i + 1, hi => by
    obtain ⟨q1, q2, q3, q4, q5⟩ := h
    have hi' : i < r.length := by simpa using hi
    have ih := chain_at q5 hi'
    have e1 : begins ((f, c) :: r) (i + 1) = c + begins r i := by simp [begins]
    rw [e1, ← Nat.add_assoc]
    simpa using ih
theorem chain_all {st : Nat → Bool} : ∀ {a : Nat} {l : List (Nat × Nat)} {e : Nat}, chain st a l e → a + begins l l.length = e
  | a, [], e, h => by have h : a = e := h; simpa [begins] using h
  | a, (f, c) :: r, e, h => by
    obtain ⟨q1, q2, q3, q4, q5⟩ := h
    have ih := chain_all q5
    have e1 : begins ((f, c) :: r) (r.length + 1) = c + begins r r.length := by simp [begins]
    rw [List.length_cons, e1, ← Nat.add_assoc]; exact ih

/-- how many starts -/
theorem clo_count {st : Nat → Bool} (h0 : st 0 = true) : ∀ k, (clo st (k + 1)).length + 1 = ((List.range (k + 1)).filter st).length
  | 0 => by simp [clo_one, h0]
  | k + 1 => by
    have ih := clo_count h0 k
    rw [List.range_succ, List.filter_append]
    cases h : st (k + 1) with
    | true => rw [clo_yes h (by omega)]; simp [h]; omega
    | false => rw [clo_no h]; simp [h]; omega
theorem full_count {st : Nat → Bool} (h0 : st 0 = true) {n : Nat} (hn : 0 < n) : (full st n).length = ((List.range n).filter st).length := by
  obtain ⟨k, rfl⟩ : ∃ k, n = k + 1 := ⟨n - 1, by omega⟩
  rw [full_pos (by omega), ← clo_count h0]; simp

/-- does a block start at seat k? -/
def stB (wd : Nat) (zs : List Int) (k : Nat) : Bool := k % wd == 0 || lieAt zs ((k % wd : Nat) : Int)
theorem stB_zero (wd : Nat) (zs : List Int) : stB wd zs 0 = true := by simp [stB]
theorem stB_row (wd : Nat) (zs : List Int) (r : Nat) : stB wd zs (r * wd) = true := by simp [stB]
theorem stB_at {wd : Nat} {zs : List Int} {row col : Nat} (h : col < wd) : stB wd zs (row * wd + col) = (col == 0 || lieAt zs (col : Int)) := by
  unfold stB
  rw [Nat.mul_comm, Nat.mul_add_mod, Nat.mod_eq_of_lt h]
theorem range_rows (wd : Nat) : ∀ r, List.range ((r + 1) * wd) = List.range (r * wd) ++ (List.range wd).map (r * wd + ·)
  | r => by rw [Nat.add_mul, Nat.one_mul, List.range_add]
theorem stB_count (wd : Nat) (zs : List Int) : ∀ r, ((List.range (r * wd)).filter (stB wd zs)).length = r * ((List.range wd).filter (fun c : Nat => c == 0 || lieAt zs (c : Int))).length
  | 0 => by simp
  | r + 1 => by
    rw [range_rows, List.filter_append, List.length_append, stB_count wd zs r, Nat.add_mul, Nat.one_mul]
    congr 1
    rw [List.filter_map, List.length_map]
    congr 1
    apply List.filter_congr
    intro c hc
    exact stB_at (List.mem_range.1 hc)

end Go.Proofs.YtablpncipkbfhaaDoor.Cab
