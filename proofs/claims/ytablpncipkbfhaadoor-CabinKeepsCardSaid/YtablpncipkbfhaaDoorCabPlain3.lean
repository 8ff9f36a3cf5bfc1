/- The plain law of cabins made by bits: which columns have an aisle ahead. No program in sight. -/
import Derived.Test.YtablpncipkbfhaaDoorCabPlain2
namespace Go.Proofs.YtablpncipkbfhaaDoor.Cab

theorem okZs_of (wd : Int) : ∀ (l : List Int) (last : Int), (∀ x ∈ l, last < x ∧ x < wd) → l.Pairwise (· < ·) → okZs wd last l = true
  | [], _, _, _ => rfl
  | a :: r, last, h, hp => by
    obtain ⟨h1, h2⟩ := h a (by simp)
    obtain ⟨h3, h4⟩ := List.pairwise_cons.1 hp
    simp only [okZs, Bool.and_eq_true, decide_eq_true_eq]
    exact ⟨h1, h2, okZs_of wd r a (fun x hx => ⟨h3 x hx, (h x (by simp [hx])).2⟩) h4⟩

/-- the columns 1 to k that have an aisle ahead -/
def som (t : Nat → Bool) : Nat → List Int
  | 0 => []
  | k + 1 => match t (k + 1) with
    | true => som t k ++ [((k + 1 : Nat) : Int)]
    | false => som t k
theorem som_yes {t : Nat → Bool} {k : Nat} (h : t (k + 1) = true) : som t (k + 1) = som t k ++ [((k + 1 : Nat) : Int)] := by rw [som, h]
theorem som_no {t : Nat → Bool} {k : Nat} (h : t (k + 1) = false) : som t (k + 1) = som t k := by rw [som, h]
theorem som_mem {t : Nat → Bool} {x : Int} : ∀ {k : Nat}, x ∈ som t k → 0 < x ∧ x ≤ k
  | 0, h => by simp [som] at h
  | k + 1, h => by
    cases e : t (k + 1) with
    | true =>
      rw [som_yes e, List.mem_append] at h
      rcases h with h | h
      · have := som_mem h; omega
      · have : x = ((k + 1 : Nat) : Int) := by simpa using h
        omega
    | false => rw [som_no e] at h; have := som_mem h; omega
theorem som_rise {t : Nat → Bool} : ∀ k : Nat, (som t k).Pairwise (· < ·)
  | 0 => List.Pairwise.nil
  | k + 1 => by
    cases e : t (k + 1) with
    | true =>
      rw [som_yes e, List.pairwise_append]
      refine ⟨som_rise k, by simp, fun a ha b hb => ?_⟩
      have h1 := som_mem ha
      have : b = ((k + 1 : Nat) : Int) := by simpa using hb
      omega
    | false => rw [som_no e]; exact som_rise k
theorem som_len {t : Nat → Bool} : ∀ k : Nat, (som t k).length ≤ k
  | 0 => by simp [som]
  | k + 1 => by
    have := som_len (t := t) k
    cases e : t (k + 1) with
    | true => rw [som_yes e]; simp; omega
    | false => rw [som_no e]; omega
theorem som_ok {t : Nat → Bool} {r wd : Int} (h1 : 1 ≤ r) (h2 : r ≤ 64) (h3 : 1 ≤ wd) (h4 : wd ≤ 16) : okC r wd (som t (wd.toNat - 1)) = true := by
  unfold okC okRW
  rw [decide_eq_true ⟨h1, h2, h3, h4⟩, Bool.true_and]
  refine okZs_of _ _ _ (fun x hx => ?_) (som_rise _)
  have := som_mem hx
  omega
theorem som_len0 (t : Nat → Bool) : ∀ k, ((List.range (k + 1)).filter (fun c : Nat => c == 0 || lieAt (som t k) (c : Int))).length = (som t k).length + 1 := by
  have hmem : ∀ k m : Nat, k ≤ m → ∀ c : Nat, c ≤ k → (lieAt (som t m) (c : Int) = lieAt (som t k) (c : Int)) := by
    intro k m hkm c hc
    induction m with
    | zero => obtain rfl : k = 0 := by omega
              rfl
    | succ m ih =>
      rcases Nat.lt_or_ge m k with h | h
      · obtain rfl : k = m + 1 := by omega
        rfl
      · rw [← ih h]
        cases e : t (m + 1) with
        | true =>
          rw [som_yes e]
          have : ¬ (c : Int) = (m : Int) + 1 := by omega
          simp [lieAt, this]
        | false => rw [som_no e]
  intro k
  induction k with
  | zero => simp [som]
  | succ k ih =>
    rw [List.range_succ, List.filter_append, List.length_append]
    have h1 : (List.range (k + 1)).filter (fun c : Nat => c == 0 || lieAt (som t (k + 1)) (c : Int)) = (List.range (k + 1)).filter (fun c : Nat => c == 0 || lieAt (som t k) (c : Int)) := by
      apply List.filter_congr
      intro c hc
      rw [hmem k (k + 1) (by omega) c (by have := List.mem_range.1 hc; omega)]
    rw [h1, ih]
    cases e : t (k + 1) with
    | true =>
      have h2 : lieAt (som t (k + 1)) ((k + 1 : Nat) : Int) = true := by rw [som_yes e]; simp [lieAt]
      have h3 : [k + 1].filter (fun c : Nat => c == 0 || lieAt (som t (k + 1)) (c : Int)) = [k + 1] := by
        rw [List.filter_cons_of_pos (by simp only [Bool.or_eq_true]; exact .inr h2)]; rfl
      rw [h3, som_yes e]; simp
    | false =>
      have h2 : lieAt (som t (k + 1)) ((k + 1 : Nat) : Int) = false := by
        rw [Bool.eq_false_iff]
        intro h
        unfold lieAt at h
        rw [List.contains_iff_mem, som_no e] at h
        have := som_mem h
        omega
      have h3 : [k + 1].filter (fun c : Nat => c == 0 || lieAt (som t (k + 1)) (c : Int)) = [] := by
        rw [List.filter_cons_of_neg (by simp only [h2, Bool.or_false]; simp)]; rfl
      rw [h3, som_no e]; simp

end Go.Proofs.YtablpncipkbfhaaDoor.Cab
