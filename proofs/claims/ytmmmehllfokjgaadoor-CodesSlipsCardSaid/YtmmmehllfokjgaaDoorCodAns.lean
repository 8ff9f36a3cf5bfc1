/- What a parse answers, and what follows of it: there and back; a slip of one letter, an exchange of two. No program in sight. -/
import Derived.Test.YtmmmehllfokjgaaDoorCodLin
namespace Go.Proofs.YtmmmehllfokjgaaDoor.Cod
open Go.RowKit

/-- what a parse answers -/
def ans (s : ByteArray) (K : Nat) : Nat × Nat × Nat := if K < 8 then (0, K, 150) else fin s
theorem ans_bad {s : ByteArray} {K : Nat} (h : K < 8) : ans s K = (0, K, 150) := if_pos h

instance (s : ByteArray) (k : Nat) : Decidable (Good s k) := by unfold Good; infer_instance
/-- how many letters a text begins with, eight at most -/
def lead (s : ByteArray) : Nat → Nat
  | 0 => 0
  | k + 1 => if lead s k = k ∧ Good s k then k + 1 else lead s k
theorem lead_le (s : ByteArray) : ∀ k, lead s k ≤ k
  | 0 => Nat.le_refl _
  | k + 1 => by have := lead_le s k; unfold lead; split <;> omega
theorem lead_good (s : ByteArray) : ∀ k j, j < lead s k → Good s j
  | 0, j, h => absurd h (by simp [lead])
  | k + 1, j, h => by
    unfold lead at h
    split at h
    · rename_i hh
      rcases Nat.lt_or_ge j k with h1 | h1
      · exact lead_good s k j (by rw [hh.1]; exact h1)
      · obtain rfl : j = k := by omega
        exact hh.2
    · exact lead_good s k j h
theorem lead_bad (s : ByteArray) : ∀ k, lead s k < k → ¬ Good s (lead s k)
  | 0, h => absurd h (by omega)
  | k + 1, h => by
    unfold lead at h ⊢
    split at h
    · omega
    · rename_i hh
      rw [if_neg hh]
      have := lead_le s k
      rcases Nat.lt_or_ge (lead s k) k with h1 | h1
      · exact lead_bad s k h1
      · have h2 : lead s k = k := by omega
        rw [h2]
        intro hg
        exact hh ⟨h2, hg⟩

def answer (s : ByteArray) : Nat × Nat × Nat := ans s (lead s 8)


theorem lead_full {s : ByteArray} (h : ∀ j, j < 8 → Good s j) : lead s 8 = 8 := by
  have h1 := lead_le s 8
  rcases Nat.lt_or_ge (lead s 8) 8 with h2 | h2
  · exact absurd (h _ h2) (lead_bad s 8 h2)
  · omega
theorem answer_let8 (f : Nat → Nat) (hf : ∀ i, f i < 32) : answer ⟨(let8 f).toArray⟩ = if 4294967296 ≤ num f 7 then (0, 0, 150) else if syn f ≠ 0 then (0, 7, 150) else (num f 7, 0, 0) := by
  unfold answer
  rw [lead_full (fun j hj => let8_good f hf hj), ans, if_neg (by omega), fin_let8 f hf]
/-- what is written is read -/
theorem answer_txt {n : Nat} (h : n < 4294967296) : answer ⟨(txt n).toArray⟩ = (n, 0, 0) := by
  have hn : num (wor n) 7 = n := by rw [num_congr 7 (fun j hj => wor_dig hj), num_dig h]
  rw [txt_let8, answer_let8 _ (wor_lt n), hn, if_neg (by omega), if_neg (by simp [syn_wor])]
/-- eight letters that are no code are answered so -/
theorem answer_bad (f : Nat → Nat) (hf : ∀ i, f i < 32) (h : syn f ≠ 0) : ∃ p, answer ⟨(let8 f).toArray⟩ = (0, p, 150) ∧ p ≤ 7 := by
  rw [answer_let8 f hf]
  by_cases h1 : 4294967296 ≤ num f 7
  · exact ⟨0, by rw [if_pos h1], by omega⟩
  · exact ⟨7, by rw [if_neg h1, if_pos h], by omega⟩
/-- what is answered at all -/
theorem answer_ways (s : ByteArray) : (∃ p, answer s = (0, p, 150) ∧ p ≤ s.size ∧ p ≤ 8) ∨ (∃ n, answer s = (n, 0, 0) ∧ n < 4294967296 ∧ s = ⟨(txt n).toArray⟩) := by
  unfold answer ans
  have hl := lead_le s 8
  have hsz : lead s 8 ≤ s.size := by
    rcases Nat.eq_zero_or_pos (lead s 8) with h | h
    · omega
    · have := (lead_good s 8 (lead s 8 - 1) (by omega)).1; omega
  by_cases h : lead s 8 < 8
  · exact .inl ⟨lead s 8, by rw [if_pos h], hsz, hl⟩
  · have h8 : lead s 8 = 8 := by omega
    rw [if_neg h]
    unfold fin
    by_cases h1 : 8 < s.size
    · exact .inl ⟨8, by rw [if_pos h1], by omega, by omega⟩
    · rw [if_neg h1]
      by_cases h2 : 4294967296 ≤ num (wr s) 7
      · exact .inl ⟨0, by rw [if_pos h2], by omega, by omega⟩
      · rw [if_neg h2]
        by_cases h3 : chk (wr s) 7 ^^^ wr s 7 ≠ 0
        · exact .inl ⟨7, by rw [if_pos h3], by omega, by omega⟩
        · rw [if_neg h3]
          refine .inr ⟨num (wr s) 7, rfl, by omega, ?_⟩
          have hg := lead_good s 8
          rw [h8] at hg
          have hw : ∀ j, j < 8 → wor (num (wr s) 7) j = wr s j := by
            intro j hj
            have hd := dig_num (wr_lt s)
            rcases Nat.lt_or_ge j 7 with h5 | h5
            · rw [wor_dig h5, hd j h5]
            · obtain rfl : j = 7 := by omega
              rw [wor_chk, chk_congr 7 hd]
              have h6 : chk (wr s) 7 ^^^ wr s 7 = 0 := by simpa using h3
              exact xor_left_inj (c := wr s 7) (by rw [h6, Nat.xor_self])
          rw [txt_let8, let8_congr hw]
          apply ByteArray.ext
          apply Array.ext'
          show s.data.toList = (let8 (wr s)).toArray.toList
          apply List.ext_getElem?
          intro j
          rcases Nat.lt_or_ge j 8 with hj | hj
          · have hlen : j < s.data.toList.length := by have := (hg j hj).1; simpa using this
            have e2 : (let8 (wr s)).toArray.toList[j]? = some (ltB (wr s j)) := let8_at (wr s) hj
            rw [e2, List.getElem?_eq_getElem hlen]
            have e1 : (s.data.toList[j]).toNat = byt s j := by
              unfold byt; rw [List.getD_eq_getElem?_getD, List.getElem?_eq_getElem hlen]; rfl
            have e3 : (ltB (wr s j)).toNat = byt s j := by
              rw [ltB_toNat (wr_lt s j)]
              exact lt_wI (byt_lt s j) (hg j hj).2
            exact congrArg some (UInt8.toNat_inj.1 (e1.trans e3.symm))
          · have e1 : s.data.toList[j]? = none := List.getElem?_eq_none (by
              have : s.data.toList.length = s.size := by simp
              omega)
            have e2 : (let8 (wr s)).toArray.toList[j]? = none := List.getElem?_eq_none (by show 8 ≤ j; omega)
            rw [e1, e2]

/-- one letter in the place of another -/
def putAt (f : Nat → Nat) (i v j : Nat) : Nat := if j = i then v else f j
theorem putAt_lt {f : Nat → Nat} (hf : ∀ i, f i < 32) {i v : Nat} (hv : v < 32) : ∀ j, putAt f i v j < 32 := by
  intro j; unfold putAt; split
  · exact hv
  · exact hf j
/-- two letters change places -/
def swapAt (f : Nat → Nat) (i k j : Nat) : Nat := if j = k then f i else if j = i then f k else f j
theorem swapAt_lt {f : Nat → Nat} (hf : ∀ i, f i < 32) {i k : Nat} : ∀ j, swapAt f i k j < 32 := by
  intro j; unfold swapAt; split
  · exact hf _
  · split <;> exact hf _
theorem slip {n i v : Nat} (hn : n < 4294967296) (hi : i < 8) (hv : v < 32) :
    (let8 (putAt (wor n) i v) = txt n ∧ answer ⟨(let8 (putAt (wor n) i v)).toArray⟩ = (n, 0, 0)) ∨ (let8 (putAt (wor n) i v) ≠ txt n ∧ ∃ p, answer ⟨(let8 (putAt (wor n) i v)).toArray⟩ = (0, p, 150)) := by
  by_cases h : v = wor n i
  · have e : let8 (putAt (wor n) i v) = txt n := by
      rw [txt_let8]
      exact let8_congr (fun j _ => by unfold putAt; split <;> simp_all)
    exact .inl ⟨e, by rw [e]; exact answer_txt hn⟩
  · have hs : syn (putAt (wor n) i v) ≠ syn (wor n) := syn_one (putAt_lt (wor_lt n) hv) (wor_lt n) hi (fun j _ hj => by unfold putAt; rw [if_neg hj]) (by unfold putAt; rw [if_pos rfl]; exact h)
    rw [syn_wor] at hs
    obtain ⟨p, hp, _⟩ := answer_bad _ (putAt_lt (wor_lt n) hv) hs
    refine .inr ⟨fun e => ?_, p, hp⟩
    rw [txt_let8] at e
    have := let8_inj (putAt_lt (wor_lt n) hv) (wor_lt n) e i hi
    unfold putAt at this
    rw [if_pos rfl] at this
    exact h this
theorem exchange {n i k : Nat} (hn : n < 4294967296) (hi : i < 8) (hk : k < 8) :
    (let8 (swapAt (wor n) i k) = txt n ∧ answer ⟨(let8 (swapAt (wor n) i k)).toArray⟩ = (n, 0, 0)) ∨ (let8 (swapAt (wor n) i k) ≠ txt n ∧ ∃ p, answer ⟨(let8 (swapAt (wor n) i k)).toArray⟩ = (0, p, 150)) := by
  by_cases h : wor n i = wor n k
  · have e : let8 (swapAt (wor n) i k) = txt n := by
      rw [txt_let8]
      refine let8_congr (fun j _ => ?_)
      unfold swapAt
      by_cases h1 : j = k
      · rw [if_pos h1, h1, h]
      · rw [if_neg h1]
        by_cases h2 : j = i
        · rw [if_pos h2, h2, h]
        · rw [if_neg h2]
    exact .inl ⟨e, by rw [e]; exact answer_txt hn⟩
  · have hne : i ≠ k := fun e => h (by rw [e])
    have hs : syn (swapAt (wor n) i k) ≠ 0 := by
      rcases Nat.lt_or_ge i k with hl | hl
      · exact syn_swap (wor_lt n) (swapAt_lt (wor_lt n)) hl hk (by unfold swapAt; rw [if_neg hne, if_pos rfl]) (by unfold swapAt; rw [if_pos rfl]) (fun j _ h1 h2 => by unfold swapAt; rw [if_neg h2, if_neg h1]) h (syn_wor n)
      · exact syn_swap (wor_lt n) (swapAt_lt (wor_lt n)) (show k < i by omega) hi (by unfold swapAt; rw [if_pos rfl]) (by unfold swapAt; rw [if_neg hne, if_pos rfl]) (fun j _ h1 h2 => by unfold swapAt; rw [if_neg h1, if_neg h2]) (fun e => h e.symm) (syn_wor n)
    obtain ⟨p, hp, _⟩ := answer_bad _ (swapAt_lt (wor_lt n)) hs
    refine .inr ⟨fun e => ?_, p, hp⟩
    rw [txt_let8] at e
    have := let8_inj (swapAt_lt (wor_lt n)) (wor_lt n) e k hk
    unfold swapAt at this
    rw [if_pos rfl] at this
    exact h this

end Go.Proofs.YtmmmehllfokjgaaDoor.Cod
