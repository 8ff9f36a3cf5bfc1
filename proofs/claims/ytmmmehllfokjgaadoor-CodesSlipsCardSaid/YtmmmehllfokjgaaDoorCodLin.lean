/- The plain laws of the codes: there and back; two codes lie two places apart at least; a slip of one letter, an exchange of two, is no code. No program in sight. -/
import Derived.Test.YtmmmehllfokjgaaDoorCodPlain
namespace Go.Proofs.YtmmmehllfokjgaaDoor.Cod
open Go.RowKit

theorem num_congr {f g : Nat → Nat} : ∀ k, (∀ j, j < k → f j = g j) → num f k = num g k
  | 0, _ => rfl
  | k + 1, h => by rw [num, num, num_congr k (fun j hj => h j (by omega)), h k (by omega)]
theorem chk_congr {f g : Nat → Nat} : ∀ k, (∀ j, j < k → f j = g j) → chk f k = chk g k
  | 0, _ => rfl
  | k + 1, h => by rw [chk, chk, chk_congr k (fun j hj => h j (by omega)), h k (by omega)]
theorem num_dig {n : Nat} (h : n < 4294967296) : num (dig n) 7 = n := by
  simp only [num, dig, Nat.reduceSub, Nat.reduceMul, Nat.reducePow]
  omega
theorem dig_num {f : Nat → Nat} (hf : ∀ i, f i < 32) : ∀ j, j < 7 → dig (num f 7) j = f j := by
  intro j hj
  have h0 := hf 0; have h1 := hf 1; have h2 := hf 2; have h3 := hf 3; have h4 := hf 4; have h5 := hf 5; have h6 := hf 6
  obtain rfl | rfl | rfl | rfl | rfl | rfl | rfl : j = 0 ∨ j = 1 ∨ j = 2 ∨ j = 3 ∨ j = 4 ∨ j = 5 ∨ j = 6 := by omega
  all_goals
    simp only [num, dig, Nat.reduceSub, Nat.reduceMul, Nat.reducePow]
    omega

/-! ### letters and worths -/
theorem lt_inj_all : ∀ a b : Fin 32, lt a.val = lt b.val → a = b := by decide +kernel
theorem lt_inj {a b : Nat} (ha : a < 32) (hb : b < 32) (h : lt a = lt b) : a = b := by
  simpa using lt_inj_all ⟨a, ha⟩ ⟨b, hb⟩ h
theorem dbl_inj_all : ∀ a b : Fin 32, dbl a.val = dbl b.val → a = b := by decide +kernel
theorem dbl_inj {a b : Nat} (ha : a < 32) (hb : b < 32) (h : dbl a = dbl b) : a = b := by
  simpa using dbl_inj_all ⟨a, ha⟩ ⟨b, hb⟩ h
theorem dbl_xor_all : ∀ a b : Fin 32, dbl (a.val ^^^ b.val) = dbl a.val ^^^ dbl b.val := by decide +kernel
theorem dbl_xor {a b : Nat} (ha : a < 32) (hb : b < 32) : dbl (a ^^^ b) = dbl a ^^^ dbl b := dbl_xor_all ⟨a, ha⟩ ⟨b, hb⟩
theorem xor_left_inj {a b c : Nat} (h : a ^^^ c = b ^^^ c) : a = b := by
  have := congrArg (· ^^^ c) h
  simpa [Nat.xor_assoc] using this
theorem xor_right_inj {a b c : Nat} (h : c ^^^ a = c ^^^ b) : a = b := by
  rw [Nat.xor_comm c a, Nat.xor_comm c b] at h; exact xor_left_inj h

/-- the syndrome of eight worths: zero just for a code -/
def syn (f : Nat → Nat) : Nat := chk f 7 ^^^ f 7

theorem chk_parts {f g : Nat → Nat} (hf : ∀ i, f i < 32) (hg : ∀ i, g i < 32) {i : Nat} (hlo : ∀ j, j < i → f j = g j) (hne : f i ≠ g i) :
    ∀ k, i < k → (∀ j, i < j → j < k → f j = g j) → chk f k ≠ chk g k
  | 0, h, _ => absurd h (by omega)
  | k + 1, h, hh => by
    intro he
    rw [chk, chk] at he
    have he := dbl_inj (xor_lt (chk_lt hf k) (hf k)) (xor_lt (chk_lt hg k) (hg k)) he
    rcases Nat.lt_or_ge i k with h1 | h1
    · rw [hh k h1 (by omega)] at he
      exact chk_parts hf hg hlo hne k h1 (fun j h2 h3 => hh j h2 (by omega)) (xor_left_inj he)
    · obtain rfl : i = k := by omega
      rw [chk_congr i hlo] at he
      exact hne (xor_right_inj he)

/-- one letter that differs turns the syndrome -/
theorem syn_one {f g : Nat → Nat} (hf : ∀ i, f i < 32) (hg : ∀ i, g i < 32) {i : Nat} (hi : i < 8) (he : ∀ j, j < 8 → j ≠ i → f j = g j) (hne : f i ≠ g i) : syn f ≠ syn g := by
  unfold syn
  intro h
  rcases Nat.lt_or_ge i 7 with h1 | h1
  · rw [he 7 (by omega) (by omega)] at h
    exact chk_parts hf hg (fun j hj => he j (by omega) (by omega)) hne 7 h1 (fun j h2 h3 => he j (by omega) (by omega)) (xor_left_inj h)
  · obtain rfl : i = 7 := by omega
    rw [chk_congr 7 (fun j hj => he j (by omega) (by omega))] at h
    exact hne (xor_right_inj h)

/-! ### an exchange of two letters -/
theorem chk_xor {f g : Nat → Nat} (hf : ∀ i, f i < 32) (hg : ∀ i, g i < 32) : ∀ k, chk (fun j => f j ^^^ g j) k = chk f k ^^^ chk g k
  | 0 => by simp [chk]
  | k + 1 => by
    rw [chk, chk, chk, chk_xor hf hg k, ← dbl_xor (xor_lt (chk_lt hf k) (hf k)) (xor_lt (chk_lt hg k) (hg k))]
    congr 1
    rw [Nat.xor_assoc, Nat.xor_assoc]
    congr 1
    rw [← Nat.xor_assoc, ← Nat.xor_assoc, Nat.xor_comm (chk g k)]
theorem syn_xor {f g : Nat → Nat} (hf : ∀ i, f i < 32) (hg : ∀ i, g i < 32) : syn (fun j => f j ^^^ g j) = syn f ^^^ syn g := by
  unfold syn
  rw [chk_xor hf hg, Nat.xor_assoc, Nat.xor_assoc]
  congr 1
  rw [← Nat.xor_assoc, ← Nat.xor_assoc, Nat.xor_comm (chk g 7)]

def two (i k d j : Nat) : Nat := if j = i ∨ j = k then d else 0
theorem two_all : ∀ i : Fin 8, ∀ k : Fin 8, ∀ d : Fin 32, i.val < k.val → d.val ≠ 0 → syn (two i.val k.val d.val) ≠ 0 := by decide +kernel
theorem syn_swap {f g : Nat → Nat} (hf : ∀ i, f i < 32) (hg : ∀ i, g i < 32) {i k : Nat} (hik : i < k) (hk : k < 8) (hi' : g i = f k) (hk' : g k = f i) (he : ∀ j, j < 8 → j ≠ i → j ≠ k → g j = f j) (hne : f i ≠ f k) (h0 : syn f = 0) : syn g ≠ 0 := by
  intro hg0
  have hx := syn_xor hf hg
  rw [h0, hg0] at hx
  have hd : f i ^^^ f k < 32 := xor_lt (hf i) (hf k)
  have hc : syn (fun j => f j ^^^ g j) = syn (two i k (f i ^^^ f k)) := by
    have hj : ∀ j, j < 8 → f j ^^^ g j = two i k (f i ^^^ f k) j := by
      intro j hj
      unfold two
      by_cases h1 : j = i
      · subst h1; rw [if_pos (.inl rfl), hi']
      · by_cases h2 : j = k
        · subst h2; rw [if_pos (.inr rfl), hk', Nat.xor_comm]
        · rw [if_neg (by omega), he j hj h1 h2, Nat.xor_self]
    unfold syn
    rw [chk_congr 7 (fun j h => hj j (by omega))]
    exact congrArg (chk (two i k (f i ^^^ f k)) 7 ^^^ ·) (hj 7 (by omega))
  rw [hc] at hx
  refine two_all ⟨i, by omega⟩ ⟨k, hk⟩ ⟨f i ^^^ f k, hd⟩ hik ?_ (by simpa using hx)
  intro hz
  have hz : f i ^^^ f k = 0 := hz
  exact hne (xor_left_inj (c := f k) (by rw [hz, Nat.xor_self]))

/-! ### how far codes lie apart -/
theorem wor_dig {n j : Nat} (h : j < 7) : wor n j = dig n j := if_pos h
theorem wor_chk (n : Nat) : wor n 7 = chk (dig n) 7 := rfl
theorem syn_wor (n : Nat) : syn (wor n) = 0 := by
  unfold syn
  rw [chk_congr 7 (fun j hj => wor_dig hj), wor_chk, Nat.xor_self]
theorem wor_inj {a b : Nat} (ha : a < 4294967296) (hb : b < 4294967296) (h : ∀ j, j < 7 → wor a j = wor b j) : a = b := by
  rw [← num_dig ha, ← num_dig hb]
  exact num_congr 7 (fun j hj => by rw [← wor_dig hj, ← wor_dig hj]; exact h j hj)

theorem cnt_comm (f g : Nat → Nat) : ∀ k, cnt f g k = cnt g f k
  | 0 => rfl
  | k + 1 => by
    rw [cnt, cnt, cnt_comm f g k]
    by_cases h : lt (f k) = lt (g k)
    · rw [if_pos h, if_pos h.symm]
    · rw [if_neg h, if_neg (fun e => h e.symm)]
theorem cnt_self (f : Nat → Nat) : ∀ k, cnt f f k = 0
  | 0 => rfl
  | k + 1 => by rw [cnt, cnt_self f k, if_pos rfl]
theorem cnt_zero {f g : Nat → Nat} (hf : ∀ i, f i < 32) (hg : ∀ i, g i < 32) : ∀ k, cnt f g k = 0 → ∀ j, j < k → f j = g j
  | 0, _, j, hj => absurd hj (by omega)
  | k + 1, h, j, hj => by
    rw [cnt] at h
    by_cases he : lt (f k) = lt (g k)
    · rw [if_pos he] at h
      rcases Nat.lt_or_ge j k with h1 | h1
      · exact cnt_zero hf hg k (by omega) j h1
      · obtain rfl : j = k := by omega
        exact lt_inj (hf _) (hg _) he
    · rw [if_neg he] at h; omega
theorem cnt_one {f g : Nat → Nat} (hf : ∀ i, f i < 32) (hg : ∀ i, g i < 32) : ∀ k, cnt f g k = 1 → ∃ i, i < k ∧ f i ≠ g i ∧ ∀ j, j < k → j ≠ i → f j = g j
  | 0, h => absurd h (by simp [cnt])
  | k + 1, h => by
    rw [cnt] at h
    by_cases he : lt (f k) = lt (g k)
    · rw [if_pos he] at h
      obtain ⟨i, h1, h2, h3⟩ := cnt_one hf hg k (by omega)
      refine ⟨i, by omega, h2, fun j hj hne => ?_⟩
      rcases Nat.lt_or_ge j k with h4 | h4
      · exact h3 j h4 hne
      · obtain rfl : j = k := by omega
        exact lt_inj (hf _) (hg _) he
    · rw [if_neg he] at h
      refine ⟨k, by omega, fun e => he (by rw [e]), fun j hj hne => ?_⟩
      exact cnt_zero hf hg k (by omega) j (by omega)
theorem cnt_tri (f g h : Nat → Nat) : ∀ k, cnt f h k ≤ cnt f g k + cnt g h k
  | 0 => by simp [cnt]
  | k + 1 => by
    have := cnt_tri f g h k
    rw [cnt, cnt, cnt]
    by_cases h1 : lt (f k) = lt (g k) <;> by_cases h2 : lt (g k) = lt (h k) <;> by_cases h3 : lt (f k) = lt (h k)
    all_goals first
      | (simp only [h1, h2, h3, if_true, if_false]; omega)
      | (exfalso; exact h3 (h1.trans h2))

def apart (a b : Nat) : Nat := cnt (wor a) (wor b) 8
theorem apart_zero {a b : Nat} (ha : a < 4294967296) (hb : b < 4294967296) : apart a b = 0 ↔ a = b :=
  ⟨fun h => wor_inj ha hb (fun j hj => cnt_zero (wor_lt a) (wor_lt b) 8 h j (by omega)), fun h => by subst h; exact cnt_self _ 8⟩
theorem apart_one (a b : Nat) : apart a b ≠ 1 := by
  intro h
  obtain ⟨i, h1, h2, h3⟩ := cnt_one (wor_lt a) (wor_lt b) 8 h
  exact syn_one (wor_lt a) (wor_lt b) h1 h3 h2 ((syn_wor a).trans (syn_wor b).symm)

/-! ### texts -/
theorem byt_list (l : List UInt8) (k : Nat) : byt ⟨l.toArray⟩ k = (l.getD k 0).toNat := by simp [byt]
/-- eight letters, as bytes -/
def let8 (f : Nat → Nat) : List UInt8 := [ltB (f 0), ltB (f 1), ltB (f 2), ltB (f 3), ltB (f 4), ltB (f 5), ltB (f 6), ltB (f 7)]
theorem let8_len (f : Nat → Nat) : (let8 f).length = 8 := rfl
theorem let8_at (f : Nat → Nat) {k : Nat} (h : k < 8) : (let8 f)[k]? = some (ltB (f k)) := by
  obtain rfl | rfl | rfl | rfl | rfl | rfl | rfl | rfl : k = 0 ∨ k = 1 ∨ k = 2 ∨ k = 3 ∨ k = 4 ∨ k = 5 ∨ k = 6 ∨ k = 7 := by omega
  all_goals rfl
theorem let8_byt (f : Nat → Nat) (hf : ∀ i, f i < 32) {k : Nat} (h : k < 8) : byt ⟨(let8 f).toArray⟩ k = lt (f k) := by
  rw [byt_list, List.getD_eq_getElem?_getD, let8_at f h]
  exact ltB_toNat (hf k)
theorem let8_wr (f : Nat → Nat) (hf : ∀ i, f i < 32) {k : Nat} (h : k < 8) : wr ⟨(let8 f).toArray⟩ k = f k := by
  unfold wr; rw [let8_byt f hf h, wI_lt (hf k)]; rfl
theorem let8_good (f : Nat → Nat) (hf : ∀ i, f i < 32) {k : Nat} (h : k < 8) : Good ⟨(let8 f).toArray⟩ k :=
  ⟨h, by rw [let8_byt f hf h, wI_lt (hf k)]; omega⟩
theorem txt_let8 (n : Nat) : txt n = let8 (wor n) := rfl
theorem let8_inj {f g : Nat → Nat} (hf : ∀ i, f i < 32) (hg : ∀ i, g i < 32) (h : let8 f = let8 g) : ∀ j, j < 8 → f j = g j := by
  intro j hj
  have h1 := let8_at f hj
  rw [h, let8_at g hj] at h1
  exact (ltB_inj (hg j) (hf j) (Option.some.inj h1)).symm
theorem let8_congr {f g : Nat → Nat} (h : ∀ j, j < 8 → f j = g j) : let8 f = let8 g := by
  unfold let8; rw [h 0 (by omega), h 1 (by omega), h 2 (by omega), h 3 (by omega), h 4 (by omega), h 5 (by omega), h 6 (by omega), h 7 (by omega)]
theorem fin_let8 (f : Nat → Nat) (hf : ∀ i, f i < 32) : fin ⟨(let8 f).toArray⟩ = if 4294967296 ≤ num f 7 then (0, 0, 150) else if syn f ≠ 0 then (0, 7, 150) else (num f 7, 0, 0) := by
  unfold fin syn
  rw [if_neg (by show ¬ 8 < 8; omega), num_congr 7 (fun j hj => let8_wr f hf (by omega)), chk_congr 7 (fun j hj => let8_wr f hf (by omega)), let8_wr f hf (by omega)]

end Go.Proofs.YtmmmehllfokjgaaDoor.Cod
