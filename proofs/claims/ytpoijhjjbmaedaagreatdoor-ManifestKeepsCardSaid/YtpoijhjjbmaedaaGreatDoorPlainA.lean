/- Packed: HeapPlain ManPlain Man4 CabPlain CabPlain2 CabPlain3 GeoPlain CodPlain CodLin CodAns -/
import Derived.Test.YtpoijhjjbmaedaaGreatDoorKitA
import Derived.Lib.Split
import Derived.Lib.SplitLaws
import Derived.Lib.Strings
import Derived.WalkKit
import Derived.Laws.BitsAllLaws
import Derived.Laws.BitsLemmas
import Derived.Lib.Bytealg
set_option linter.unusedVariables false
set_option linter.unusedSimpArgs false
/- HeapPlain: A binary heap in plain Lean, as the program settles it. No program in sight. -/
section
namespace Go.Proofs.YtpoijhjjbmaedaaGreatDoor.Hp
open Go.RowKit

structure Due where
  til : Int
  id : Int
  handle : Int
def lessD (x y : Due) : Bool := decide (x.til < y.til) || (x.til == y.til && decide (x.id < y.id))
def aheadD (f : Nat → Due) (i k : Nat) : Bool := lessD (f i) (f k) || (!lessD (f k) (f i) && decide ((f i).handle < (f k).handle))
def swapD (f : Nat → Due) (i k : Nat) : Nat → Due := fun j => if j = i then f k else if j = k then f i else f j
def up : Nat → (Nat → Due) → Nat → (Nat → Due) × Nat
  | 0, f, at_ => (f, at_)
  | k + 1, f, at_ => if 0 < at_ ∧ aheadD f at_ ((at_ - 1) / 2) = true then up k (swapD f at_ ((at_ - 1) / 2)) ((at_ - 1) / 2) else (f, at_)
/-- the least of a place and of the first r places below it -/
def pk (f : Nat → Due) (l at_ : Nat) : Nat → Nat
  | 0 => at_
  | r + 1 => if 2 * at_ + 1 + r < l ∧ aheadD f (2 * at_ + 1 + r) (pk f l at_ r) = true then 2 * at_ + 1 + r else pk f l at_ r
def pick (f : Nat → Due) (l at_ : Nat) : Nat := pk f l at_ 2
theorem pk_lt {f : Nat → Due} {l at_ : Nat} (h : at_ < l) : ∀ r, pk f l at_ r < l
  | 0 => h
  | r + 1 => by
    rw [pk]
    split
    · rename_i h1; exact h1.1
    · exact pk_lt h r
theorem pk_ge {f : Nat → Due} {l at_ : Nat} : ∀ r, pk f l at_ r = at_ ∨ at_ < pk f l at_ r
  | 0 => .inl rfl
  | r + 1 => by
    rw [pk]
    split
    · right; omega
    · exact pk_ge r
theorem pk_stop {f : Nat → Due} {l at_ r : Nat} (h : l ≤ 2 * at_ + 1 + r) : ∀ j, pk f l at_ (r + j) = pk f l at_ r
  | 0 => rfl
  | j + 1 => by
    rw [← Nat.add_assoc, pk, if_neg (by omega), pk_stop h j]
theorem pk_yes {f : Nat → Due} {l at_ r : Nat} (h : 2 * at_ + 1 + r < l) (ha : aheadD f (2 * at_ + 1 + r) (pk f l at_ r) = true) : pk f l at_ (r + 1) = 2 * at_ + 1 + r := by rw [pk, if_pos ⟨h, ha⟩]
theorem pk_no {f : Nat → Due} {l at_ r : Nat} (ha : aheadD f (2 * at_ + 1 + r) (pk f l at_ r) = false) : pk f l at_ (r + 1) = pk f l at_ r := by rw [pk, if_neg (by rw [ha]; simp)]
def down (l : Nat) : Nat → (Nat → Due) → Nat → (Nat → Due)
  | 0, f, _ => f
  | k + 1, f, at_ => if pick f l at_ = at_ then f else down l k (swapD f at_ (pick f l at_)) (pick f l at_)
theorem up_stop {k at_ : Nat} {f : Nat → Due} (h : at_ = 0 ∨ aheadD f at_ ((at_ - 1) / 2) = false) : up k f at_ = (f, at_) := by
  cases k with
  | zero => rfl
  | succ k =>
    rw [up, if_neg]
    rintro ⟨h1, h2⟩
    rcases h with h | h
    · omega
    · rw [h] at h2; cases h2
theorem up_step {k at_ : Nat} {f : Nat → Due} (h : 0 < at_) (h2 : aheadD f at_ ((at_ - 1) / 2) = true) : up (k + 1) f at_ = up k (swapD f at_ ((at_ - 1) / 2)) ((at_ - 1) / 2) := by rw [up, if_pos ⟨h, h2⟩]
theorem down_stop {l k at_ : Nat} {f : Nat → Due} (h : pick f l at_ = at_) : down l k f at_ = f := by
  cases k with
  | zero => rfl
  | succ k => rw [down, if_pos h]
theorem down_step {l k at_ : Nat} {f : Nat → Due} (h : ¬ pick f l at_ = at_) : down l (k + 1) f at_ = down l k (swapD f at_ (pick f l at_)) (pick f l at_) := by rw [down, if_neg h]
theorem up_lt (l : Nat) : ∀ (k at_ : Nat) (f : Nat → Due), at_ < l → (up k f at_).2 < l
  | 0, _, _, h => h
  | k + 1, at_, f, h => by
    rw [up]
    split
    · exact up_lt l k _ _ (by omega)
    · exact h
def settleD (f : Nat → Due) (l at_ : Nat) : Nat → Due := down l l (up at_ f at_).1 (up at_ f at_).2
/-- each handle's item lies where the map of places says -/
def Placed (f : Nat → Due) (l : Nat) (φ : Int → Option Int) : Prop := (∀ i, i < l → φ (f i).handle = some (i : Int)) ∧ ∀ h i, φ h = some i → ∃ j : Nat, j < l ∧ i = (j : Int) ∧ (f j).handle = h

end Go.Proofs.YtpoijhjjbmaedaaGreatDoor.Hp
end

/- ManPlain: The plain law of the manifest's text: a line of the program is what the reference reads at a place. No program in sight. -/
section
namespace Go.Proofs.YtpoijhjjbmaedaaGreatDoor.Man

/-- what stands ahead of the first c, and behind it -/
def upto (c : UInt8) : List UInt8 → Option (List UInt8 × List UInt8)
  | [] => none
  | x :: r => if x = c then some ([], r) else (upto c r).map fun p => (x :: p.1, p.2)
theorem upto_some {c : UInt8} : ∀ {l a r : List UInt8}, upto c l = some (a, r) ↔ l = a ++ c :: r ∧ c ∉ a
  | [], a, r => by simp [upto]
  | x :: l, a, r => by
    unfold upto
    by_cases h : x = c
    · subst h
      rw [if_pos rfl]
      constructor
      · intro e
        injection e with e
        injection e with e1 e2
        subst e1 e2
        exact ⟨rfl, by simp⟩
      · rintro ⟨e, hn⟩
        cases a with
        | nil => simp at e; rw [e]
        | cons y a => simp at e; exact absurd (by rw [e.1]; simp) hn
    · rw [if_neg h]
      constructor
      · intro e
        cases hu : upto c l with
        | none => rw [hu] at e; simp at e
        | some p =>
          obtain ⟨a', r'⟩ := p
          rw [hu] at e
          simp at e
          obtain ⟨h1, h2⟩ := upto_some.1 hu
          obtain ⟨e1, e2⟩ := e
          subst e1 e2
          exact ⟨by rw [h1]; rfl, by simp only [List.mem_cons, not_or]; exact ⟨fun e => h e.symm, h2⟩⟩
      · rintro ⟨e, hn⟩
        cases a with
        | nil => simp at e; exact absurd e.1 h
        | cons y a =>
          simp at e hn
          obtain ⟨rfl, e2⟩ := e
          rw [upto_some.2 ⟨e2, hn.2⟩]
          rfl
theorem upto_none {c : UInt8} : ∀ {l : List UInt8}, upto c l = none ↔ c ∉ l
  | [] => by simp [upto]
  | x :: l => by
    unfold upto
    by_cases h : x = c
    · subst h; simp
    · rw [if_neg h]
      have := upto_none (c := c) (l := l)
      simp only [Option.map_eq_none_iff, this, List.mem_cons, not_or]
      exact ⟨fun h1 => ⟨fun e => h e.symm, h1⟩, fun h1 => h1.2⟩

/-- a text cut at its blanks -/
def words : List UInt8 → List (List UInt8)
  | [] => [[]]
  | x :: r => if x = 32 then [] :: words r else match words r with
    | [] => [[x]]
    | a :: ws => (x :: a) :: ws
theorem words_ne : ∀ l, words l ≠ []
  | [] => by simp [words]
  | x :: r => by
    unfold words
    split
    · simp
    · split <;> simp
theorem words_hit : ∀ (a r : List UInt8), (32 : UInt8) ∉ a → words (a ++ 32 :: r) = a :: words r
  | [], r, _ => by rw [List.nil_append, words, if_pos rfl]
  | x :: a, r, h => by
    simp only [List.mem_cons, not_or] at h
    rw [List.cons_append, words, if_neg (fun e => h.1 e.symm), words_hit a r h.2]
theorem words_miss : ∀ (a : List UInt8), (32 : UInt8) ∉ a → words a = [a]
  | [], _ => rfl
  | x :: a, h => by
    simp only [List.mem_cons, not_or] at h
    rw [words, if_neg (fun e => h.1 e.symm), words_miss a h.2]
theorem words_cons : ∀ {t a : List UInt8} {b : List UInt8} {ws : List (List UInt8)}, words t = a :: b :: ws → ∃ r, t = a ++ 32 :: r ∧ (32 : UInt8) ∉ a ∧ words r = b :: ws := by
  intro t a b ws h
  cases hu : upto 32 t with
  | none =>
    rw [words_miss t (upto_none.1 hu)] at h
    simp at h
  | some p =>
    obtain ⟨a', r⟩ := p
    obtain ⟨h1, h2⟩ := upto_some.1 hu
    rw [h1, words_hit a' r h2] at h
    injection h with e1 e2
    subst e1
    exact ⟨r, h1, h2, e2⟩
theorem words_one {t a : List UInt8} (h : words t = [a]) : t = a ∧ (32 : UInt8) ∉ a := by
  cases hu : upto 32 t with
  | none =>
    rw [words_miss t (upto_none.1 hu)] at h
    injection h with h
    exact ⟨h, by rw [← h]; exact upto_none.1 hu⟩
  | some p =>
    obtain ⟨a', r⟩ := p
    obtain ⟨h1, h2⟩ := upto_some.1 hu
    rw [h1, words_hit a' r h2] at h
    injection h with _ h
    exact absurd h (words_ne r)
theorem words_three {t a b h : List UInt8} : words t = [a, b, h] ↔ t = a ++ 32 :: (b ++ 32 :: h) ∧ (32 : UInt8) ∉ a ∧ (32 : UInt8) ∉ b ∧ (32 : UInt8) ∉ h := by
  constructor
  · intro e
    obtain ⟨r, h1, h2, h3⟩ := words_cons e
    obtain ⟨r2, k1, k2, k3⟩ := words_cons h3
    obtain ⟨m1, m2⟩ := words_one k3
    subst m1
    exact ⟨by rw [h1, k1], h2, k2, m2⟩
  · rintro ⟨e, h1, h2, h3⟩
    rw [e, words_hit _ _ h1, words_hit _ _ h2, words_miss _ h3]

def heldW : List UInt8 := [104, 101, 108, 100]
def confW : List UInt8 := [99, 111, 110, 102, 105, 114, 109, 101, 100]
def how (h : List UInt8) : Bool := h == heldW || h == confW
/-- a line of the program, and the text behind it -/
def readP (okA okB : List UInt8 → Bool) (l : List UInt8) : Option ((List UInt8 × List UInt8 × Bool) × List UInt8) :=
  match upto 10 l with
  | none => none
  | some (t, rest) => match words t with
    | [a, b, h] => if okA a && (okB b && how h) then some ((a, b, h == heldW), rest) else none
    | _ => none
/-- what the reference reads at a place -/
def readR (okA okB : List UInt8 → Bool) (l : List UInt8) : Option ((List UInt8 × List UInt8 × Bool) × List UInt8) :=
  match upto 32 l with
  | none => none
  | some (a, r1) => if okA a then (match upto 32 r1 with
    | none => none
    | some (b, r2) => match upto 10 r2 with
      | none => none
      | some (h, r3) => if okB b && how h then some ((a, b, h == heldW), r3) else none) else none
theorem how_no {h : List UInt8} (hh : how h = true) : (10 : UInt8) ∉ h ∧ (32 : UInt8) ∉ h := by
  unfold how at hh
  rw [Bool.or_eq_true, beq_iff_eq, beq_iff_eq] at hh
  rcases hh with rfl | rfl <;> decide
theorem read_some {okA okB : List UInt8 → Bool} (hA : ∀ a, okA a = true → (10 : UInt8) ∉ a) (hB : ∀ b, okB b = true → (10 : UInt8) ∉ b) {l : List UInt8} {x : List UInt8 × List UInt8 × Bool} {r : List UInt8} :
    readR okA okB l = some (x, r) ↔ readP okA okB l = some (x, r) := by
  constructor
  · intro e
    unfold readR at e
    split at e
    · cases e
    · rename_i a r1 h1
      split at e
      · rename_i oa
        split at e
        · cases e
        · rename_i b r2 h2
          split at e
          · cases e
          · rename_i h r3 h3
            split at e
            · rename_i ob
              rw [Bool.and_eq_true] at ob
              obtain ⟨e1, n1⟩ := upto_some.1 h1
              obtain ⟨e2, n2⟩ := upto_some.1 h2
              obtain ⟨e3, n3⟩ := upto_some.1 h3
              have hw := how_no ob.2
              have hline : upto 10 l = some (a ++ 32 :: (b ++ 32 :: h), r3) := upto_some.2 ⟨by rw [e1, e2, e3]; simp, by
                simp only [List.mem_append, List.mem_cons, not_or]
                exact ⟨hA a oa, by decide, hB b ob.1, by decide, hw.1⟩⟩
              unfold readP
              rw [hline]
              simp only
              rw [words_three.2 ⟨rfl, n1, n2, hw.2⟩]
              simp only
              rw [if_pos (by rw [oa, ob.1, ob.2]; rfl)]
              exact e
            · cases e
      · cases e
  · intro e
    unfold readP at e
    split at e
    · cases e
    · rename_i t rest h1
      split at e
      · rename_i a b h hw
        split at e
        · rename_i ok
          rw [Bool.and_eq_true, Bool.and_eq_true] at ok
          obtain ⟨e1, n1⟩ := upto_some.1 h1
          obtain ⟨e2, m1, m2, m3⟩ := words_three.1 hw
          have hh := how_no ok.2.2
          have u1 : upto 32 l = some (a, b ++ 32 :: (h ++ 10 :: rest)) := upto_some.2 ⟨by rw [e1, e2]; simp, m1⟩
          have u2 : upto 32 (b ++ 32 :: (h ++ 10 :: rest)) = some (b, h ++ 10 :: rest) := upto_some.2 ⟨rfl, m2⟩
          have u3 : upto 10 (h ++ 10 :: rest) = some (h, rest) := upto_some.2 ⟨rfl, hh.1⟩
          unfold readR
          rw [u1]
          simp only
          rw [if_pos ok.1, u2]
          simp only
          rw [u3]
          simp only
          rw [if_pos (by rw [ok.2.1, ok.2.2]; rfl)]
          exact e
        · cases e
      · cases e
theorem read_same {okA okB : List UInt8 → Bool} (hA : ∀ a, okA a = true → (10 : UInt8) ∉ a) (hB : ∀ b, okB b = true → (10 : UInt8) ∉ b) (l : List UInt8) : readR okA okB l = readP okA okB l := by
  cases h : readP okA okB l with
  | some p => exact (read_some hA hB).2 h
  | none =>
    cases h2 : readR okA okB l with
    | none => rfl
    | some p => rw [(read_some hA hB).1 h2] at h; cases h

/-- a whole text: its lines, or the number of the first that is none -/
def parse {α : Type} (rd : List UInt8 → Option (α × List UInt8)) : Nat → Nat → List UInt8 → List α × Nat
  | 0, _, _ => ([], 0)
  | _ + 1, _, [] => ([], 0)
  | f + 1, n, x :: l => match rd (x :: l) with
    | none => ([], n + 1)
    | some (y, r) => match parse rd f (n + 1) r with
      | (ys, 0) => (y :: ys, 0)
      | (_, k + 1) => ([], k + 1)
theorem parse_same {α : Type} {f g : List UInt8 → Option (α × List UInt8)} (h : ∀ l, f l = g l) : ∀ (k n : Nat) (l : List UInt8), parse f k n l = parse g k n l := by
  have : f = g := funext h
  intro k n l; rw [this]
theorem readP_less {okA okB : List UInt8 → Bool} {l r : List UInt8} {x : List UInt8 × List UInt8 × Bool} (h : readP okA okB l = some (x, r)) : r.length < l.length := by
  unfold readP at h
  split at h
  · cases h
  · rename_i t rest h1
    have := (upto_some.1 h1).1
    split at h
    · split at h
      · injection h with h
        injection h with _ h
        subst h
        rw [this]; simp; omega
      · cases h
    · cases h

end Go.Proofs.YtpoijhjjbmaedaaGreatDoor.Man
end

/- Man4: What the manifest's reader reads of a line, in plain words: the kit's splitting is the words of a text. No program in sight. -/
section
namespace Go.Proofs.YtpoijhjjbmaedaaGreatDoor.Man
open Go.RowKit

theorem index_cons_ne (b c : UInt8) (l : List UInt8) (h : b ≠ c) : Lib.index (b :: l) [c] = if Lib.index l [c] == -1 then -1 else Lib.index l [c] + 1 := by
  have hp : ([c] : List UInt8).isPrefixOf (b :: l) = false := by simp [List.isPrefixOf, Ne.symm h]
  rw [Lib.index, hp]; simp
theorem split_cons_ne (b : UInt8) (l : List UInt8) (h : b ≠ 32) : Lib.split (b :: l) [32] = match Lib.split l [32] with
    | [] => [[b]]
    | a :: ws => (b :: a) :: ws := by
  have hix := index_cons_ne b 32 l h
  unfold Lib.split
  rw [Lib.count_cons_ne b 32 l h]
  by_cases hm : Lib.index l [32] = -1
  · rw [Lib.count_miss hm]; rfl
  · have hge := Lib.index_ge l [32]
    obtain ⟨j, hj⟩ : ∃ j : Nat, Lib.index l [32] = j := ⟨(Lib.index l [32]).toNat, by omega⟩
    rw [Lib.count_hit (by simp) hj, Nat.add_comm 1]
    unfold Lib.splitK
    rw [hix, if_neg (show ¬ (Lib.index l [32] == -1) = true from fun e => hm (beq_iff_eq.1 e)), hj,
      if_neg (show ¬ ((j : Int) + 1 == -1) = true from fun e => by have := beq_iff_eq.1 e; omega), if_neg (show ¬ ((j : Int) == -1) = true from fun e => by have := beq_iff_eq.1 e; omega),
      show ((j : Int) + 1).toNat = j + 1 from by omega, show ((j : Int)).toNat = j from by omega]
    simp
theorem split_cons_eq (l : List UInt8) : Lib.split (32 :: l) [32] = [] :: Lib.split l [32] := by
  have hix : Lib.index (32 :: l) [32] = ((0 : Nat) : Int) := by rw [Lib.index]; simp [List.isPrefixOf]
  unfold Lib.split
  rw [Lib.count_cons_eq, Nat.add_comm 1]
  conv => lhs; unfold Lib.splitK
  rw [hix, if_neg (by decide)]
  simp
theorem split_words : ∀ l : List UInt8, Lib.split l [32] = words l
  | [] => by rw [Lib.split, Lib.count_miss (by simp [Lib.index])]; rfl
  | b :: l => by
    rw [words]
    by_cases h : b = 32
    · subst h; rw [if_pos rfl, split_cons_eq, split_words l]
    · rw [if_neg h, split_cons_ne b l h, split_words l] <;> (cases words l <;> rfl)
/-- the pieces that strings.Split hands back -/
def piecesB (s : ByteArray) : List ByteArray := Lib.splitB ⟨#[32]⟩ 0 (Lib.countB s ⟨#[32]⟩) s
theorem pieces_data (s : ByteArray) : (piecesB s).map (·.data.toList) = words s.data.toList := by
  unfold piecesB
  rw [Lib.splitB_data]
  exact split_words s.data.toList
theorem pieces_len (s : ByteArray) : (piecesB s).length = Lib.countB s ⟨#[32]⟩ + 1 := Lib.splitB_all ⟨#[32]⟩ (by decide) 0 _ s rfl

theorem suffix_iff (l : List UInt8) : Lib.hasSuffix l [10] = true ↔ ∃ t, l = t ++ [10] := by
  unfold Lib.hasSuffix
  rw [List.isSuffixOf_iff_suffix]
  constructor
  · rintro ⟨t, h⟩; exact ⟨t, h.symm⟩
  · rintro ⟨t, h⟩; exact ⟨t, h.symm⟩
theorem trim_snoc (t : List UInt8) : Lib.trimSuffix (t ++ [10]) [10] = t := by
  unfold Lib.trimSuffix
  rw [if_pos ((suffix_iff _).2 ⟨t, rfl⟩)]
  simp

end Go.Proofs.YtpoijhjjbmaedaaGreatDoor.Man
end

/- CabPlain: The plain law of the cabin: which cabins may be, where aisles lie. No program in sight. -/
section
namespace Go.Proofs.YtpoijhjjbmaedaaGreatDoor.Cab
open Go.RowKit

/-- aisles rise, from behind 'last' on, below the width -/
def okZs (wide : Int) : Int → List Int → Bool
  | _, [] => true
  | last, a :: r => decide (last < a) && (decide (a < wide) && okZs wide a r)
def okRW (r wd : Int) : Bool := decide (1 ≤ r ∧ r ≤ 64 ∧ 1 ≤ wd ∧ wd ≤ 16)
/-- may a cabin be? -/
def okC (r wd : Int) (zs : List Int) : Bool := okRW r wd && okZs wd 0 zs
theorem okRW_yes {r wd : Int} (h : okRW r wd = true) : 1 ≤ r ∧ r ≤ 64 ∧ 1 ≤ wd ∧ wd ≤ 16 := by simpa [okRW] using h
theorem okRW_no {r wd : Int} (h : okRW r wd = false) : r < 1 ∨ 64 < r ∨ wd < 1 ∨ 16 < wd := by
  simp only [okRW, decide_eq_false_iff_not] at h; omega
theorem okC_yes {r wd : Int} {zs : List Int} (h : okC r wd zs = true) : (1 ≤ r ∧ r ≤ 64 ∧ 1 ≤ wd ∧ wd ≤ 16) ∧ okZs wd 0 zs = true := by
  simp only [okC, Bool.and_eq_true] at h
  exact ⟨okRW_yes h.1, h.2⟩

/-- the value that stands last of the first k; 0 at the start -/
def lastOf (zs : List Int) : Nat → Int
  | 0 => 0
  | k + 1 => zs.getD k 0
/-- do the first k aisles rise? -/
def okTo (wd : Int) (zs : List Int) (k : Nat) : Prop := ∀ j, j < k → lastOf zs j < zs.getD j 0 ∧ zs.getD j 0 < wd
theorem okZs_iff (wd : Int) : ∀ (zs : List Int) (last : Int), okZs wd last zs = true ↔ ∀ j, j < zs.length → (if j = 0 then last else zs.getD (j - 1) 0) < zs.getD j 0 ∧ zs.getD j 0 < wd
  | [], last => by simp [okZs]
  | a :: r, last => by
    simp only [okZs, Bool.and_eq_true, decide_eq_true_eq, okZs_iff wd r a]
    constructor
    · rintro ⟨h1, h2, h3⟩ j hj
      match j with
      | 0 => exact ⟨h1, h2⟩
      | j + 1 =>
        have h4 := h3 j (by simpa using hj)
        simp only [List.getD_cons_succ, Nat.add_sub_cancel, Nat.succ_ne_zero, if_false] at h4 ⊢
        refine ⟨?_, h4.2⟩
        match j with
        | 0 => exact h4.1
        | j + 1 => exact h4.1
    · intro h
      refine ⟨(h 0 (by simp)).1, (h 0 (by simp)).2, fun j hj => ?_⟩
      have h4 := h (j + 1) (by simpa using hj)
      simp only [List.getD_cons_succ, Nat.add_sub_cancel, Nat.succ_ne_zero, if_false] at h4
      refine ⟨?_, h4.2⟩
      match j with
      | 0 => exact h4.1
      | j + 1 => exact h4.1
theorem okZs_to {wd : Int} {zs : List Int} : okZs wd 0 zs = true ↔ okTo wd zs zs.length := by
  rw [okZs_iff]
  constructor
  · intro h j hj
    have h1 := h j hj
    match j with
    | 0 => exact h1
    | j + 1 => exact h1
  · intro h j hj
    have h1 := h j hj
    match j with
    | 0 => exact h1
    | j + 1 => exact h1
theorem okTo_lo {wd : Int} {zs : List Int} {k : Nat} (h : okTo wd zs k) : ∀ j, j < k → (j : Int) < zs.getD j 0
  | 0, hj => (h 0 hj).1
  | j + 1, hj => by
    have h1 := okTo_lo h j (by omega)
    have h2 := (h (j + 1) hj).1
    simp only [lastOf] at h2
    omega
theorem okTo_last {wd : Int} {zs : List Int} {k : Nat} (h : okTo wd zs k) : 0 ≤ lastOf zs k := by
  match k with
  | 0 => simp [lastOf]
  | k + 1 =>
    have := okTo_lo h k (by omega)
    simp only [lastOf]; omega
theorem okTo_next {wd : Int} {zs : List Int} {k : Nat} (h : okTo wd zs k) (h1 : lastOf zs k < zs.getD k 0) (h2 : zs.getD k 0 < wd) : okTo wd zs (k + 1) := by
  intro j hj
  rcases Nat.lt_or_ge j k with h3 | h3
  · exact h j h3
  · obtain rfl : j = k := by omega
    exact ⟨h1, h2⟩
theorem okTo_not {wd : Int} {zs : List Int} {k : Nat} (hk : k < zs.length) (h : ¬ (lastOf zs k < zs.getD k 0 ∧ zs.getD k 0 < wd)) : okZs wd 0 zs = false := by
  rw [Bool.eq_false_iff, Ne, okZs_to]
  exact fun h1 => h (h1 k hk)
theorem okTo_len {wd : Int} {zs : List Int} {k : Nat} (h : okTo wd zs k) (hw : wd ≤ 16) : k ≤ 15 := by
  match k with
  | 0 => omega
  | k + 1 =>
    have h1 := okTo_lo h k (by omega)
    have h2 := (h k (by omega)).2
    omega

/-- where aisles lie, of the first k -/
def lies (zs : List Int) (k : Nat) (j : Nat) : Bool := (zs.take k).contains (j : Int)
def arr17 (f : Nat → Bool) : Array Value := #[.bool (f 0), .bool (f 1), .bool (f 2), .bool (f 3), .bool (f 4), .bool (f 5), .bool (f 6), .bool (f 7), .bool (f 8), .bool (f 9), .bool (f 10), .bool (f 11), .bool (f 12), .bool (f 13), .bool (f 14), .bool (f 15), .bool (f 16)]
theorem arr17_at (f : Nat → Bool) {j : Nat} (h : j < 17) : (arr17 f)[j]? = some (.bool (f j)) := by
  obtain rfl | rfl | rfl | rfl | rfl | rfl | rfl | rfl | rfl | rfl | rfl | rfl | rfl | rfl | rfl | rfl | rfl : j = 0 ∨ j = 1 ∨ j = 2 ∨ j = 3 ∨ j = 4 ∨ j = 5 ∨ j = 6 ∨ j = 7 ∨ j = 8 ∨ j = 9 ∨ j = 10 ∨ j = 11 ∨ j = 12 ∨ j = 13 ∨ j = 14 ∨ j = 15 ∨ j = 16 := by omega
  all_goals rfl
theorem arr17_size (f : Nat → Bool) : (arr17 f).size = 17 := rfl
theorem arr17_set (f : Nat → Bool) {i : Nat} (_h : i < 17) : (arr17 f).setIfInBounds i (.bool true) = arr17 (fun j => if j = i then true else f j) := by
  apply Array.ext_getElem?
  intro j
  rw [Array.getElem?_setIfInBounds]
  rcases Nat.lt_or_ge j 17 with hj | hj
  · rw [arr17_at _ hj, arr17_at _ hj, arr17_size]
    by_cases e : i = j
    · subst e; simp [hj]
    · rw [if_neg e]; simp [show ¬ j = i from fun h => e h.symm]
  · have h1 : ∀ f, (arr17 f)[j]? = none := fun f => Array.getElem?_eq_none (by rw [arr17_size]; exact hj)
    rw [h1, h1]
    by_cases e : i = j
    · rw [if_pos e, arr17_size, if_neg (by omega)]
    · rw [if_neg e]
theorem arr17_congr {f g : Nat → Bool} (h : ∀ j, j < 17 → f j = g j) : arr17 f = arr17 g := by
  apply Array.ext_getElem?
  intro j
  rcases Nat.lt_or_ge j 17 with hj | hj
  · rw [arr17_at _ hj, arr17_at _ hj, h j hj]
  · rw [Array.getElem?_eq_none (by rw [arr17_size]; exact hj), Array.getElem?_eq_none (by rw [arr17_size]; exact hj)]
theorem lies_next {zs : List Int} {k i : Nat} (hk : k < zs.length) (hi : zs.getD k 0 = (i : Int)) (j : Nat) : lies zs (k + 1) j = if j = i then true else lies zs k j := by
  have hk' : zs[k] = (i : Int) := by rw [← hi, List.getD_eq_getElem?_getD, List.getElem?_eq_getElem hk]; rfl
  unfold lies
  rw [List.take_succ_eq_append_getElem hk, hk']
  by_cases e : j = i
  · subst e; simp
  · rw [if_neg e]
    have : ¬ (j : Int) = (i : Int) := by omega
    simp [this]

end Go.Proofs.YtpoijhjjbmaedaaGreatDoor.Cab
end

/- CabPlain2: The plain law of the cabin's blocks: starts, closed blocks, the open one. No program in sight. -/
section
namespace Go.Proofs.YtpoijhjjbmaedaaGreatDoor.Cab

/-- an aisle ahead of column k? -/
def lieAt (zs : List Int) (k : Int) : Bool := zs.contains k
theorem lies_lieAt (zs : List Int) (k : Nat) : lies zs zs.length k = lieAt zs (k : Int) := by simp [lies, lieAt]

/-- the last start below k -/
def frm (st : Nat → Bool) : Nat → Nat
  | 0 => 0
  | k + 1 => if st k then k else frm st k
/-- the blocks that are closed below k -/
def clo (st : Nat → Bool) : Nat → List (Nat × Nat)
  | 0 => []
  | k + 1 => if st k && decide (0 < k) then clo st k ++ [(frm st k, k - frm st k)] else clo st k
/-- all blocks of the first k seats -/
def full (st : Nat → Bool) (k : Nat) : List (Nat × Nat) := if k = 0 then [] else clo st k ++ [(frm st k, k - frm st k)]
theorem frm_yes {st : Nat → Bool} {k : Nat} (h : st k = true) : frm st (k + 1) = k := by rw [frm, h]; rfl
theorem frm_no {st : Nat → Bool} {k : Nat} (h : st k = false) : frm st (k + 1) = frm st k := by rw [frm, h]; rfl
theorem clo_yes {st : Nat → Bool} {k : Nat} (h : st k = true) (hk : 0 < k) : clo st (k + 1) = clo st k ++ [(frm st k, k - frm st k)] := by rw [clo, h, decide_eq_true hk]; rfl
theorem clo_no {st : Nat → Bool} {k : Nat} (h : st k = false) : clo st (k + 1) = clo st k := by rw [clo, h]; rfl
theorem clo_one {st : Nat → Bool} : clo st 1 = [] := by simp [clo]
theorem full_pos {st : Nat → Bool} {k : Nat} (h : 0 < k) : full st k = clo st k ++ [(frm st k, k - frm st k)] := by rw [full, if_neg (by omega)]
theorem frm_lt {st : Nat → Bool} : ∀ {k : Nat}, 0 < k → frm st k < k
  | k + 1, _ => by
    cases h : st k with
    | true => rw [frm_yes h]; omega
    | false =>
      rw [frm_no h]
      rcases Nat.eq_zero_or_pos k with rfl | hk
      · simp [frm]
      · have := frm_lt (st := st) hk; omega
theorem full_yes {st : Nat → Bool} {k : Nat} (h : st k = true) : full st (k + 1) = full st k ++ [(k, 1)] := by
  rw [full_pos (by omega), frm_yes h, show k + 1 - k = 1 from by omega]
  rcases Nat.eq_zero_or_pos k with rfl | hk
  · rw [clo_one]; rfl
  · rw [clo_yes h hk, full_pos hk]
theorem full_no {st : Nat → Bool} {k : Nat} (h : st k = false) (hk : 0 < k) : full st (k + 1) = clo st k ++ [(frm st k, k + 1 - frm st k)] := by
  rw [full_pos (by omega), clo_no h, frm_no h]
theorem clo_full {st : Nat → Bool} {k : Nat} (h : st k = true) (hk : 0 < k) : clo st (k + 1) = full st k := by
  rw [clo_yes h hk, full_pos hk]
theorem clo_len {st : Nat → Bool} : ∀ k, (clo st k).length ≤ k
  | 0 => by simp [clo]
  | k + 1 => by
    have := clo_len (st := st) k
    rw [clo]; split
    · simp; omega
    · omega
theorem full_len {st : Nat → Bool} (k : Nat) : (full st k).length ≤ k + 1 := by
  have := clo_len (st := st) k
  rw [full]; split
  · simp
  · simp; omega

/-- blocks that follow one another, each from a start, none with a start within -/
def chain (st : Nat → Bool) : Nat → List (Nat × Nat) → Nat → Prop
  | a, [], e => a = e
  | a, (f, c) :: r, e => f = a ∧ 1 ≤ c ∧ st a = true ∧ (∀ j, 0 < j → j < c → st (a + j) = false) ∧ chain st (a + c) r e
theorem chain_snoc {st : Nat → Bool} : ∀ {a : Nat} {l : List (Nat × Nat)} {f c : Nat}, chain st a l f → 1 ≤ c → st f = true → (∀ j, 0 < j → j < c → st (f + j) = false) → chain st a (l ++ [(f, c)]) (f + c)
  | a, [], f, c, h, h1, h2, h3 => by
    have h : a = f := h
    subst h; exact ⟨rfl, h1, h2, h3, rfl⟩
  | a, (f', c') :: r, f, c, h, h1, h2, h3 => by
    obtain ⟨q1, q2, q3, q4, q5⟩ := h
    exact ⟨q1, q2, q3, q4, chain_snoc q5 h1 h2 h3⟩
theorem frm_start {st : Nat → Bool} (h0 : st 0 = true) : ∀ {k : Nat}, 0 < k → st (frm st k) = true ∧ ∀ j, frm st k < j → j < k → st j = false
  | k + 1, _ => by
    cases h : st k with
    | true => rw [frm_yes h]; exact ⟨h, fun j h1 h2 => by omega⟩
    | false =>
      rw [frm_no h]
      rcases Nat.eq_zero_or_pos k with rfl | hk
      · rw [h0] at h; cases h
      · obtain ⟨q1, q2⟩ := frm_start h0 hk
        refine ⟨q1, fun j h1 h2 => ?_⟩
        rcases Nat.lt_or_ge j k with h3 | h3
        · exact q2 j h1 h3
        · obtain rfl : j = k := by omega
          exact h
theorem clo_chain {st : Nat → Bool} (h0 : st 0 = true) : ∀ {k : Nat}, 0 < k → chain st 0 (clo st k) (frm st k)
  | k + 1, _ => by
    rcases Nat.eq_zero_or_pos k with rfl | hk
    · rw [clo_one, frm_yes h0]; exact rfl
    · have ih := clo_chain h0 hk
      cases h : st k with
      | true =>
        rw [clo_yes h hk, frm_yes h]
        obtain ⟨q1, q2⟩ := frm_start h0 hk
        have hl := frm_lt (st := st) hk
        have := chain_snoc (c := k - frm st k) ih (by omega) q1 (fun j h1 h2 => q2 _ (by omega) (by omega))
        rw [show frm st k + (k - frm st k) = k from by omega] at this
        exact this
      | false => rw [clo_no h, frm_no h]; exact ih
theorem full_chain {st : Nat → Bool} (h0 : st 0 = true) {k : Nat} (hk : 0 < k) : chain st 0 (full st k) k := by
  rw [full_pos hk]
  obtain ⟨q1, q2⟩ := frm_start h0 hk
  have hl := frm_lt (st := st) hk
  have := chain_snoc (c := k - frm st k) (clo_chain h0 hk) (by omega) q1 (fun j h1 h2 => q2 _ (by omega) (by omega))
  rw [show frm st k + (k - frm st k) = k from by omega] at this
  exact this

/-- where the i-th block begins -/
def begins (l : List (Nat × Nat)) (i : Nat) : Nat := ((l.take i).map (·.2)).sum
theorem begins_next {l : List (Nat × Nat)} {i : Nat} (h : i < l.length) : begins l (i + 1) = begins l i + (l[i]).2 := by
  unfold begins
  rw [List.take_succ_eq_append_getElem h, List.map_append, List.sum_append]
  simp
theorem chain_at {st : Nat → Bool} : ∀ {a : Nat} {l : List (Nat × Nat)} {e : Nat}, chain st a l e → ∀ {i : Nat} (h : i < l.length),
    (l[i]).1 = a + begins l i ∧ 1 ≤ (l[i]).2 ∧ st (a + begins l i) = true ∧ (∀ j, 0 < j → j < (l[i]).2 → st (a + begins l i + j) = false) ∧ (a + begins l i + (l[i]).2 = e ∨ st (a + begins l i + (l[i]).2) = true) ∧ a + begins l i + (l[i]).2 ≤ e
  | a, [], e, _, i, h => by simp at h
  | a, (f, c) :: r, e, h, 0, _ => by
    obtain ⟨q1, q2, q3, q4, q5⟩ := h
    have hle : ∀ {a : Nat} {l : List (Nat × Nat)} {e : Nat}, chain st a l e → a ≤ e := by
      intro a l
      induction l generalizing a with
      | nil => intro e h; exact Nat.le_of_eq h
      | cons x r ih => intro e h; obtain ⟨_, _, _, _, q⟩ := h; have := ih q; omega
    refine ⟨by simpa [begins] using q1, q2, by simpa [begins] using q3, by simpa [begins] using q4, ?_, by have := hle q5; simpa [begins] using this⟩
    match r, q5 with
    | [], q5 => left; have q5 : a + c = e := q5; simpa [begins] using q5
    | (f', c') :: r', q5 => right; simpa [begins] using q5.2.2.1
  | a, (f, c) :: r, e, h, i + 1, hi => by
    obtain ⟨q1, q2, q3, q4, q5⟩ := h
    have hi' : i < r.length := by simpa using hi
    have ih := chain_at q5 hi'
    have e1 : begins ((f, c) :: r) (i + 1) = c + begins r i := by simp [begins]
    rw [e1, ← Nat.add_assoc]
    simpa using ih
theorem chain_all {st : Nat → Bool} : ∀ {a : Nat} {l : List (Nat × Nat)} {e : Nat}, chain st a l e → a + begins l l.length = e
  | a, [], e, h => by have h : a = e := h; simpa [begins] using h
  | a, (f, c) :: r, e, h => by
    obtain ⟨q1, q2, q3, q4, q5⟩ := h
    have ih := chain_all q5
    have e1 : begins ((f, c) :: r) (r.length + 1) = c + begins r r.length := by simp [begins]
    rw [List.length_cons, e1, ← Nat.add_assoc]; exact ih

/-- how many starts -/
theorem clo_count {st : Nat → Bool} (h0 : st 0 = true) : ∀ k, (clo st (k + 1)).length + 1 = ((List.range (k + 1)).filter st).length
  | 0 => by simp [clo_one, h0]
  | k + 1 => by
    have ih := clo_count h0 k
    rw [List.range_succ, List.filter_append]
    cases h : st (k + 1) with
    | true => rw [clo_yes h (by omega)]; simp [h]; omega
    | false => rw [clo_no h]; simp [h]; omega
theorem full_count {st : Nat → Bool} (h0 : st 0 = true) {n : Nat} (hn : 0 < n) : (full st n).length = ((List.range n).filter st).length := by
  obtain ⟨k, rfl⟩ : ∃ k, n = k + 1 := ⟨n - 1, by omega⟩
  rw [full_pos (by omega), ← clo_count h0]; simp

/-- does a block start at seat k? -/
def stB (wd : Nat) (zs : List Int) (k : Nat) : Bool := k % wd == 0 || lieAt zs ((k % wd : Nat) : Int)
theorem stB_zero (wd : Nat) (zs : List Int) : stB wd zs 0 = true := by simp [stB]
theorem stB_row (wd : Nat) (zs : List Int) (r : Nat) : stB wd zs (r * wd) = true := by simp [stB]
theorem stB_at {wd : Nat} {zs : List Int} {row col : Nat} (h : col < wd) : stB wd zs (row * wd + col) = (col == 0 || lieAt zs (col : Int)) := by
  unfold stB
  rw [Nat.mul_comm, Nat.mul_add_mod, Nat.mod_eq_of_lt h]
theorem range_rows (wd : Nat) : ∀ r, List.range ((r + 1) * wd) = List.range (r * wd) ++ (List.range wd).map (r * wd + ·)
  | r => by rw [Nat.add_mul, Nat.one_mul, List.range_add]
theorem stB_count (wd : Nat) (zs : List Int) : ∀ r, ((List.range (r * wd)).filter (stB wd zs)).length = r * ((List.range wd).filter (fun c : Nat => c == 0 || lieAt zs (c : Int))).length
  | 0 => by simp
  | r + 1 => by
    rw [range_rows, List.filter_append, List.length_append, stB_count wd zs r, Nat.add_mul, Nat.one_mul]
    congr 1
    rw [List.filter_map, List.length_map]
    congr 1
    apply List.filter_congr
    intro c hc
    exact stB_at (List.mem_range.1 hc)

end Go.Proofs.YtpoijhjjbmaedaaGreatDoor.Cab
end

/- CabPlain3: The plain law of cabins made by bits: which columns have an aisle ahead. No program in sight. -/
section
namespace Go.Proofs.YtpoijhjjbmaedaaGreatDoor.Cab

theorem okZs_of (wd : Int) : ∀ (l : List Int) (last : Int), (∀ x ∈ l, last < x ∧ x < wd) → l.Pairwise (· < ·) → okZs wd last l = true
  | [], _, _, _ => rfl
  | a :: r, last, h, hp => by
    obtain ⟨h1, h2⟩ := h a (by simp)
    obtain ⟨h3, h4⟩ := List.pairwise_cons.1 hp
    simp only [okZs, Bool.and_eq_true, decide_eq_true_eq]
    exact ⟨h1, h2, okZs_of wd r a (fun x hx => ⟨h3 x hx, (h x (by simp [hx])).2⟩) h4⟩

/-- the columns 1 to k that have an aisle ahead -/
def som (t : Nat → Bool) : Nat → List Int
  | 0 => []
  | k + 1 => match t (k + 1) with
    | true => som t k ++ [((k + 1 : Nat) : Int)]
    | false => som t k
theorem som_yes {t : Nat → Bool} {k : Nat} (h : t (k + 1) = true) : som t (k + 1) = som t k ++ [((k + 1 : Nat) : Int)] := by rw [som, h]
theorem som_no {t : Nat → Bool} {k : Nat} (h : t (k + 1) = false) : som t (k + 1) = som t k := by rw [som, h]
theorem som_mem {t : Nat → Bool} {x : Int} : ∀ {k : Nat}, x ∈ som t k → 0 < x ∧ x ≤ k
  | 0, h => by simp [som] at h
  | k + 1, h => by
    cases e : t (k + 1) with
    | true =>
      rw [som_yes e, List.mem_append] at h
      rcases h with h | h
      · have := som_mem h; omega
      · have : x = ((k + 1 : Nat) : Int) := by simpa using h
        omega
    | false => rw [som_no e] at h; have := som_mem h; omega
theorem som_rise {t : Nat → Bool} : ∀ k : Nat, (som t k).Pairwise (· < ·)
  | 0 => List.Pairwise.nil
  | k + 1 => by
    cases e : t (k + 1) with
    | true =>
      rw [som_yes e, List.pairwise_append]
      refine ⟨som_rise k, by simp, fun a ha b hb => ?_⟩
      have h1 := som_mem ha
      have : b = ((k + 1 : Nat) : Int) := by simpa using hb
      omega
    | false => rw [som_no e]; exact som_rise k
theorem som_len {t : Nat → Bool} : ∀ k : Nat, (som t k).length ≤ k
  | 0 => by simp [som]
  | k + 1 => by
    have := som_len (t := t) k
    cases e : t (k + 1) with
    | true => rw [som_yes e]; simp; omega
    | false => rw [som_no e]; omega
theorem som_ok {t : Nat → Bool} {r wd : Int} (h1 : 1 ≤ r) (h2 : r ≤ 64) (h3 : 1 ≤ wd) (h4 : wd ≤ 16) : okC r wd (som t (wd.toNat - 1)) = true := by
  unfold okC okRW
  rw [decide_eq_true ⟨h1, h2, h3, h4⟩, Bool.true_and]
  refine okZs_of _ _ _ (fun x hx => ?_) (som_rise _)
  have := som_mem hx
  omega
theorem som_len0 (t : Nat → Bool) : ∀ k, ((List.range (k + 1)).filter (fun c : Nat => c == 0 || lieAt (som t k) (c : Int))).length = (som t k).length + 1 := by
  have hmem : ∀ k m : Nat, k ≤ m → ∀ c : Nat, c ≤ k → (lieAt (som t m) (c : Int) = lieAt (som t k) (c : Int)) := by
    intro k m hkm c hc
    induction m with
    | zero => obtain rfl : k = 0 := by omega
              rfl
    | succ m ih =>
      rcases Nat.lt_or_ge m k with h | h
      · obtain rfl : k = m + 1 := by omega
        rfl
      · rw [← ih h]
        cases e : t (m + 1) with
        | true =>
          rw [som_yes e]
          have : ¬ (c : Int) = (m : Int) + 1 := by omega
          simp [lieAt, this]
        | false => rw [som_no e]
  intro k
  induction k with
  | zero => simp [som]
  | succ k ih =>
    rw [List.range_succ, List.filter_append, List.length_append]
    have h1 : (List.range (k + 1)).filter (fun c : Nat => c == 0 || lieAt (som t (k + 1)) (c : Int)) = (List.range (k + 1)).filter (fun c : Nat => c == 0 || lieAt (som t k) (c : Int)) := by
      apply List.filter_congr
      intro c hc
      rw [hmem k (k + 1) (by omega) c (by have := List.mem_range.1 hc; omega)]
    rw [h1, ih]
    cases e : t (k + 1) with
    | true =>
      have h2 : lieAt (som t (k + 1)) ((k + 1 : Nat) : Int) = true := by rw [som_yes e]; simp [lieAt]
      have h3 : [k + 1].filter (fun c : Nat => c == 0 || lieAt (som t (k + 1)) (c : Int)) = [k + 1] := by
        rw [List.filter_cons_of_pos (by simp only [Bool.or_eq_true]; exact .inr h2)]; rfl
      rw [h3, som_yes e]; simp
    | false =>
      have h2 : lieAt (som t (k + 1)) ((k + 1 : Nat) : Int) = false := by
        rw [Bool.eq_false_iff]
        intro h
        unfold lieAt at h
        rw [List.contains_iff_mem, som_no e] at h
        have := som_mem h
        omega
      have h3 : [k + 1].filter (fun c : Nat => c == 0 || lieAt (som t (k + 1)) (c : Int)) = [] := by
        rw [List.filter_cons_of_neg (by simp only [h2, Bool.or_false]; simp)]; rfl
      rw [h3, som_no e]; simp

end Go.Proofs.YtpoijhjjbmaedaaGreatDoor.Cab
end

/- GeoPlain: The plain arithmetic of the geometry layer: when a shape may be, when a size may be, how many pieces hold so many bytes. No program in sight. -/
section
namespace Go.Proofs.YtpoijhjjbmaedaaGreatDoor.Geo
open Go.RowKit

/-- may a shape be? -/
def okS (a b c : Int) : Bool := decide (1 ≤ a ∧ a ≤ 1024 ∧ 1 ≤ b ∧ b ≤ 4096 ∧ 1 ≤ c ∧ c ≤ 64)

theorem okS_yes {a b c : Int} (h : okS a b c = true) : 1 ≤ a ∧ a ≤ 1024 ∧ 1 ≤ b ∧ b ≤ 4096 ∧ 1 ≤ c ∧ c ≤ 64 := by
  simpa [okS] using h
theorem okS_no {a b c : Int} (h : okS a b c = false) : a < 1 ∨ 1024 < a ∨ b < 1 ∨ 4096 < b ∨ c < 1 ∨ 64 < c := by
  simp only [okS, decide_eq_false_iff_not] at h
  omega

/-- may a sector have so many bytes? -/
def okZ (n : Int) : Bool := n == 64 || n == 128 || n == 256 || n == 512 || n == 1024 || n == 2048 || n == 4096

theorem okZ_iff {n : Int} : okZ n = true ↔ (n = 64 ∨ n = 128 ∨ n = 256 ∨ n = 512 ∨ n = 1024 ∨ n = 2048 ∨ n = 4096) := by
  simp [okZ, or_assoc]

theorem okZ_no_lo {n : Int} (h : n < 64) : okZ n = false := by
  rw [Bool.eq_false_iff, Ne, okZ_iff]; omega
theorem okZ_no_hi {n : Int} (h : 4096 < n) : okZ n = false := by
  rw [Bool.eq_false_iff, Ne, okZ_iff]; omega

theorem bits_all : ∀ k : Fin 64, ∀ j : Fin 65, (bits BinOp.and IntKind.i64 (((k.val * 64 + j.val : Nat) : Int) + 64) (((k.val * 64 + j.val : Nat) : Int) + 64 - 1) == 0) = okZ (((k.val * 64 + j.val : Nat) : Int) + 64) := by
  decide +kernel

theorem bits_okZ {n : Int} (h1 : 64 ≤ n) (h2 : n ≤ 4096) : (bits BinOp.and IntKind.i64 n (n - 1) == 0) = okZ n := by
  have h := bits_all ⟨min 63 ((n - 64).toNat / 64), by omega⟩ ⟨(n - 64).toNat - min 63 ((n - 64).toNat / 64) * 64, by omega⟩
  simp only [show ((min 63 ((n - 64).toNat / 64) * 64 + ((n - 64).toNat - min 63 ((n - 64).toNat / 64) * 64) : Nat) : Int) + 64 = n from by omega] at h
  exact h

/-- how many pieces of m hold n -/
def up (n m : Int) : Int := (n + m - 1) / m

theorem lt_up {k n m : Int} (hm : 1 ≤ m) : k < up n m ↔ k * m < n := by
  unfold up
  rw [Int.lt_iff_add_one_le, Int.le_ediv_iff_mul_le (by omega), Int.add_mul]
  omega
theorem up_le {k n m : Int} (hm : 1 ≤ m) : up n m ≤ k ↔ n ≤ k * m := by
  have := @lt_up k n m hm
  omega
theorem up_pos {n m : Int} (hn : 1 ≤ n) (hm : 1 ≤ m) : 1 ≤ up n m := by
  have := (@lt_up 0 n m hm).2 (by omega)
  omega
theorem up_hi {n m : Int} (hn : 0 ≤ n) (hm : 1 ≤ m) : up n m ≤ n := by
  rw [up_le hm]
  have := Int.mul_le_mul_of_nonneg_left hm hn
  omega
theorem up_mono {n n' m : Int} (h : n ≤ n') (hm : 1 ≤ m) : up n m ≤ up n' m := by
  rw [up_le hm]
  have := (@up_le (up n' m) n' m hm).1 (Int.le_refl _)
  omega

/-- an image's most bytes -/
def image (a b : Int) : Int := 20 + 14 * min a b
theorem image_lo {a b : Int} (h : 1 ≤ a) (h' : 1 ≤ b) : 34 ≤ image a b := by unfold image; omega
theorem image_hi {a b : Int} (h : a ≤ 1024) : image a b ≤ 14356 := by unfold image; omega

/-- a slot's sectors -/
def slot (a b m : Int) : Int := 1 + up (image a b) m

/-- the sectors that are needed -/
def need (a b m : Int) : Int := 2 * slot a b m + up 54 m

structure Okay (a b c m : Int) : Prop where
  a1 : 1 ≤ a
  a2 : a ≤ 1024
  b1 : 1 ≤ b
  b2 : b ≤ 4096
  c1 : 1 ≤ c
  c2 : c ≤ 64
  m1 : 64 ≤ m
  m2 : m ≤ 4096
  i1 : 34 ≤ image a b
  i2 : image a b ≤ 14356
  s1 : 2 ≤ slot a b m
  s2 : slot a b m ≤ 14357
  u1 : 1 ≤ up 54 m
  u2 : up 54 m ≤ 54
theorem okay {a b c m : Int} (hs : okS a b c = true) (hz : okZ m = true) : Okay a b c m := by
  obtain ⟨h1, h2, h3, h4, h5, h6⟩ := okS_yes hs
  have hm := okZ_iff.1 hz
  have hi := image_lo h1 h3
  have hj := @image_hi a b h2
  have hu := @up_pos (image a b) m (by omega) (by omega)
  have hv := @up_hi (image a b) m (by omega) (by omega)
  have hw := @up_pos 54 m (by omega) (by omega)
  have hx := @up_hi 54 m (by omega) (by omega)
  exact ⟨h1, h2, h3, h4, h5, h6, by omega, by omega, hi, hj, by unfold slot; omega, by unfold slot; omega, hw, hx⟩

/-- may a disk have so many sectors of that size? -/
def okD (n m : Int) : Bool := decide (1 ≤ n) && (decide (n ≤ 65536) && (okZ m && decide (n * m ≤ 67108864)))

end Go.Proofs.YtpoijhjjbmaedaaGreatDoor.Geo
end

/- CodPlain: The plain law of the codes: digits, letters, the check letter. No program in sight. -/
section
namespace Go.Proofs.YtpoijhjjbmaedaaGreatDoor.Cod
open Go.RowKit

def dbl (w : Nat) : Nat := if w < 16 then 2 * w else (2 * w) ^^^ 37
def dig (n i : Nat) : Nat := n / 2 ^ (5 * (6 - i)) % 32
def chk (f : Nat → Nat) : Nat → Nat
  | 0 => 0
  | k + 1 => dbl (chk f k ^^^ f k)
def letters : List Nat := [50, 51, 52, 53, 54, 55, 56, 57, 65, 66, 67, 68, 69, 70, 71, 72, 74, 75, 76, 77, 78, 80, 81, 82, 83, 84, 85, 86, 87, 88, 89, 90]
def lt (w : Nat) : Nat := letters.getD w 0

theorem dig_lt (n i : Nat) : dig n i < 32 := Nat.mod_lt _ (by omega)
theorem xor_lt {a b : Nat} (ha : a < 32) (hb : b < 32) : a ^^^ b < 32 := Nat.xor_lt_two_pow (n := 5) ha hb
theorem dbl_all : ∀ w : Fin 32, dbl w.val < 32 := by decide
theorem dbl_lt {w : Nat} (h : w < 32) : dbl w < 32 := dbl_all ⟨w, h⟩
theorem chk_lt {f : Nat → Nat} (hf : ∀ i, f i < 32) : ∀ k, chk f k < 32
  | 0 => by simp [chk]
  | k + 1 => dbl_lt (xor_lt (chk_lt hf k) (hf k))
theorem lt_all : ∀ w : Fin 32, lt w.val < 256 := by decide
theorem lt_lt {w : Nat} (h : w < 32) : lt w < 256 := lt_all ⟨w, h⟩

/-- the eighth worth of a code -/
def wor (n i : Nat) : Nat := if i < 7 then dig n i else chk (dig n) 7
theorem wor_lt (n i : Nat) : wor n i < 32 := by
  unfold wor; split
  · exact dig_lt n i
  · exact chk_lt (dig_lt n) 7

/-- what the walk makes of 'id >> (5 * (6 - i)) & 31', cut to a byte -/
theorem and31 (m : Nat) (h : m < 18446744073709551616) : bits BinOp.and IntKind.u64 (m : Int) 31 = ((m % 32 : Nat) : Int) := by
  have h1 : bits BinOp.and IntKind.u64 (m : Int) ((31 : Nat) : Int) = ((m &&& 31 : Nat) : Int) := by
    show IntKind.u64.wrap ((BitVec.ofInt 64 (m : Int) &&& BitVec.ofInt 64 ((31 : Nat) : Int)).toNat : Int) = _
    have e1 : (BitVec.ofInt 64 (m : Int)).toNat = m := by
      rw [BitVec.ofInt_natCast, BitVec.toNat_ofNat]; exact Nat.mod_eq_of_lt (by omega)
    have e2 : (BitVec.ofInt 64 ((31 : Nat) : Int)).toNat = 31 := by decide
    rw [BitVec.toNat_and, e1, e2]
    have : m &&& 31 ≤ 31 := Nat.and_le_right
    show ((m &&& 31 : Nat) : Int) % 18446744073709551616 = _
    omega
  rw [show (31 : Int) = ((31 : Nat) : Int) from rfl, h1, show (31 : Nat) = 2 ^ 5 - 1 from rfl, Nat.and_two_pow_sub_one_eq_mod]
theorem cut_dig (n k : Nat) (h : n < 4294967296) : bits BinOp.and IntKind.u64 ((n : Int) / 2 ^ (5 * (6 - k))) 31 % 256 = ((dig n k : Nat) : Int) := by
  have e : ((n : Int) / 2 ^ (5 * (6 - k))) = ((n / 2 ^ (5 * (6 - k)) : Nat) : Int) := by
    rw [Int.natCast_ediv, Int.natCast_pow]; rfl
  have hl : n / 2 ^ (5 * (6 - k)) ≤ n := Nat.div_le_self _ _
  rw [e, and31 _ (by omega)]
  have := dig_lt n k
  unfold dig at this ⊢
  omega
theorem xor8 (a b : Nat) (ha : a < 32) (hb : b < 32) : bits BinOp.xor IntKind.u8 (a : Int) (b : Int) = ((a ^^^ b : Nat) : Int) := by
  have hx := xor_lt ha hb
  show IntKind.u8.wrap ((BitVec.ofInt 8 (a : Int) ^^^ BitVec.ofInt 8 (b : Int)).toNat : Int) = _
  have e : ∀ m : Nat, m < 32 → (BitVec.ofInt 8 (m : Int)).toNat = m := fun m hm => by
    rw [BitVec.ofInt_natCast, BitVec.toNat_ofNat]; exact Nat.mod_eq_of_lt (by omega)
  rw [BitVec.toNat_xor, e a ha, e b hb]
  show ((a ^^^ b : Nat) : Int) % 256 = _
  omega

def ltB (w : Nat) : UInt8 := UInt8.ofNat (lt w)
theorem ltB_all : ∀ w : Fin 32, (ltB w.val).toNat = lt w.val := by decide
theorem ltB_toNat {w : Nat} (h : w < 32) : (ltB w).toNat = lt w := ltB_all ⟨w, h⟩
theorem ltB_inj_all : ∀ a b : Fin 32, ltB a.val = ltB b.val → a = b := by decide +kernel
theorem ltB_inj {a b : Nat} (ha : a < 32) (hb : b < 32) (h : ltB a = ltB b) : a = b := by
  have := ltB_inj_all ⟨a, ha⟩ ⟨b, hb⟩ h
  simpa using this

/-- the code of an id, as bytes -/
def txt (n : Nat) : List UInt8 := [ltB (dig n 0), ltB (dig n 1), ltB (dig n 2), ltB (dig n 3), ltB (dig n 4), ltB (dig n 5), ltB (dig n 6), ltB (chk (dig n) 7)]

/-- a letter's worth; -1: it is none -/
def wI (c : Nat) : Int := Lib.indexByte (letters.map UInt8.ofNat) c.toUInt8
theorem wI_all : ∀ c : Fin 256, -1 ≤ wI c.val ∧ wI c.val < 32 := by decide +kernel
theorem wI_lo {c : Nat} (h : c < 256) : -1 ≤ wI c := (wI_all ⟨c, h⟩).1
theorem wI_hi {c : Nat} (h : c < 256) : wI c < 32 := (wI_all ⟨c, h⟩).2
theorem wI_lt_all : ∀ i : Fin 32, wI (lt i.val) = i.val := by decide +kernel
theorem wI_lt {i : Nat} (h : i < 32) : wI (lt i) = i := wI_lt_all ⟨i, h⟩
theorem lt_wI_all : ∀ c : Fin 256, 0 ≤ wI c.val → lt (wI c.val).toNat = c.val := by decide +kernel
theorem lt_wI {c : Nat} (h : c < 256) (h' : 0 ≤ wI c) : lt (wI c).toNat = c := lt_wI_all ⟨c, h⟩ h'
theorem wI_none {c : Nat} (h : c < 256) (h' : ∀ i, i < 32 → lt i ≠ c) : wI c = -1 := by
  have h1 := wI_lo h
  have h2 := wI_hi h
  rcases Int.lt_or_le (wI c) 0 with h3 | h3
  · omega
  · exact absurd (lt_wI h h3) (h' _ (by omega))

/-- the worth of the letter at a place of a text; a place is good if it is there and bears a letter -/
def byt (s : ByteArray) (k : Nat) : Nat := (s.data.toList.getD k 0).toNat
theorem byt_lt (s : ByteArray) (k : Nat) : byt s k < 256 := (s.data.toList.getD k 0).toNat_lt
theorem byt_eq (s : ByteArray) (k : Nat) (h : k < s.size) : s[k].toNat = byt s k := by
  have h1 : k < s.data.toList.length := by simpa using h
  have e : s.data.toList.getD k 0 = s[k] := by
    rw [List.getD_eq_getElem?_getD, List.getElem?_eq_getElem h1]; rfl
  simp only [byt, e]
def wr (s : ByteArray) (k : Nat) : Nat := (wI (byt s k)).toNat
def Good (s : ByteArray) (k : Nat) : Prop := k < s.size ∧ 0 ≤ wI (byt s k)
theorem wr_lt (s : ByteArray) (k : Nat) : wr s k < 32 := by
  have := wI_hi (byt_lt s k); unfold wr; omega
def num (f : Nat → Nat) : Nat → Nat
  | 0 => 0
  | k + 1 => num f k * 32 + f k
theorem num_lt {f : Nat → Nat} (hf : ∀ i, f i < 32) : ∀ k, num f k < 2 ^ (5 * k)
  | 0 => by simp [num]
  | k + 1 => by
    have h1 := num_lt hf k
    have h2 := hf k
    rw [num, show 5 * (k + 1) = 5 * k + 5 from by omega, Nat.pow_add]
    omega
theorem num_mono {f : Nat → Nat} (k j : Nat) (h : k ≤ j) : num f k ≤ num f j := by
  induction h with
  | refl => exact Nat.le_refl _
  | step _ ih => rw [num]; omega
theorem num7 {f : Nat → Nat} (hf : ∀ i, f i < 32) {k : Nat} (h : k ≤ 7) : num f k < 34359738368 := by
  have h1 := num_lt hf 7
  have h2 := num_mono (f := f) k 7 h
  omega

/-- the three ways a parse ends that has read eight letters -/
def fin (s : ByteArray) : Nat × Nat × Nat :=
  if 8 < s.size then (0, 8, 150) else if 4294967296 ≤ num (wr s) 7 then (0, 0, 150) else if chk (wr s) 7 ^^^ wr s 7 ≠ 0 then (0, 7, 150) else (num (wr s) 7, 0, 0)

/-- or on words whose bits do not meet -/
theorem or64 (n w : Nat) (hn : n < 34359738368) (hw : w < 32) : bits BinOp.or IntKind.u64 ((n : Int) * 32) (w : Int) = ((n * 32 + w : Nat) : Int) := by
  have e : ∀ m : Nat, m < 18446744073709551616 → (BitVec.ofInt 64 (m : Int)).toNat = m := fun m hm => by
    rw [BitVec.ofInt_natCast, BitVec.toNat_ofNat]; exact Nat.mod_eq_of_lt (by omega)
  have h0 : ((n : Int) * 32) = ((n * 32 : Nat) : Int) := by omega
  have h1 : n * 32 ||| w = n * 32 + w := by
    have := Nat.two_pow_add_eq_or_of_lt (i := 5) (b := w) hw n
    rw [Nat.mul_comm]; exact this.symm
  rw [h0]
  show IntKind.u64.wrap ((BitVec.ofInt 64 ((n * 32 : Nat) : Int) ||| BitVec.ofInt 64 (w : Int)).toNat : Int) = _
  rw [BitVec.toNat_or, e _ (by omega), e _ (by omega), h1]
  show ((n * 32 + w : Nat) : Int) % 18446744073709551616 = _
  omega

theorem txt_at (n k : Nat) (h : k < 8) : (txt n)[k]? = some (ltB (wor n k)) := by
  obtain rfl | rfl | rfl | rfl | rfl | rfl | rfl | rfl : k = 0 ∨ k = 1 ∨ k = 2 ∨ k = 3 ∨ k = 4 ∨ k = 5 ∨ k = 6 ∨ k = 7 := by omega
  all_goals rfl
theorem txt_len (n : Nat) : (txt n).length = 8 := rfl
theorem txt_take (n k : Nat) (h : k < 8) : (txt n).take (k + 1) = (txt n).take k ++ [ltB (wor n k)] := by
  have h1 : k < (txt n).length := h
  rw [List.take_succ_eq_append_getElem h1]
  have := txt_at n k h
  rw [List.getElem?_eq_getElem h1] at this
  rw [Option.some.inj this]
theorem cut_all : ∀ w : Fin 32, (ByteArray.mk #[50, 51, 52, 53, 54, 55, 56, 57, 65, 66, 67, 68, 69, 70, 71, 72, 74, 75, 76, 77, 78, 80, 81, 82, 83, 84, 85, 86, 87, 88, 89, 90]).extract w.val (w.val + 1) = ⟨#[ltB w.val]⟩ := by decide +kernel
theorem cut_letter {w : Nat} (h : w < 32) : (ByteArray.mk #[50, 51, 52, 53, 54, 55, 56, 57, 65, 66, 67, 68, 69, 70, 71, 72, 74, 75, 76, 77, 78, 80, 81, 82, 83, 84, 85, 86, 87, 88, 89, 90]).extract w (w + 1) = ⟨#[ltB w]⟩ := cut_all ⟨w, h⟩
theorem glue (l : List UInt8) (b : UInt8) : (ByteArray.mk l.toArray) ++ (ByteArray.mk #[b]) = ⟨(l ++ [b]).toArray⟩ := by
  apply ByteArray.ext
  rw [ByteArray.data_append]
  simp

def cnt (f g : Nat → Nat) : Nat → Nat
  | 0 => 0
  | k + 1 => cnt f g k + if lt (f k) = lt (g k) then 0 else 1
theorem cnt_le (f g : Nat → Nat) : ∀ k, cnt f g k ≤ k
  | 0 => by simp [cnt]
  | k + 1 => by have := cnt_le f g k; rw [cnt]; split <;> omega

end Go.Proofs.YtpoijhjjbmaedaaGreatDoor.Cod
end

/- CodLin: The plain laws of the codes: there and back; two codes lie two places apart at least; a slip of one letter, an exchange of two, is no code. No program in sight. -/
section
namespace Go.Proofs.YtpoijhjjbmaedaaGreatDoor.Cod
open Go.RowKit

theorem num_congr {f g : Nat → Nat} : ∀ k, (∀ j, j < k → f j = g j) → num f k = num g k
  | 0, _ => rfl
  | k + 1, h => by rw [num, num, num_congr k (fun j hj => h j (by omega)), h k (by omega)]
theorem chk_congr {f g : Nat → Nat} : ∀ k, (∀ j, j < k → f j = g j) → chk f k = chk g k
  | 0, _ => rfl
  | k + 1, h => by rw [chk, chk, chk_congr k (fun j hj => h j (by omega)), h k (by omega)]
theorem num_dig {n : Nat} (h : n < 4294967296) : num (dig n) 7 = n := by
  simp only [num, dig, Nat.reduceSub, Nat.reduceMul, Nat.reducePow]
  omega
theorem dig_num {f : Nat → Nat} (hf : ∀ i, f i < 32) : ∀ j, j < 7 → dig (num f 7) j = f j := by
  intro j hj
  have h0 := hf 0; have h1 := hf 1; have h2 := hf 2; have h3 := hf 3; have h4 := hf 4; have h5 := hf 5; have h6 := hf 6
  obtain rfl | rfl | rfl | rfl | rfl | rfl | rfl : j = 0 ∨ j = 1 ∨ j = 2 ∨ j = 3 ∨ j = 4 ∨ j = 5 ∨ j = 6 := by omega
  all_goals
    simp only [num, dig, Nat.reduceSub, Nat.reduceMul, Nat.reducePow]
    omega

/-! ### letters and worths -/
theorem lt_inj_all : ∀ a b : Fin 32, lt a.val = lt b.val → a = b := by decide +kernel
theorem lt_inj {a b : Nat} (ha : a < 32) (hb : b < 32) (h : lt a = lt b) : a = b := by
  simpa using lt_inj_all ⟨a, ha⟩ ⟨b, hb⟩ h
theorem dbl_inj_all : ∀ a b : Fin 32, dbl a.val = dbl b.val → a = b := by decide +kernel
theorem dbl_inj {a b : Nat} (ha : a < 32) (hb : b < 32) (h : dbl a = dbl b) : a = b := by
  simpa using dbl_inj_all ⟨a, ha⟩ ⟨b, hb⟩ h
theorem dbl_xor_all : ∀ a b : Fin 32, dbl (a.val ^^^ b.val) = dbl a.val ^^^ dbl b.val := by decide +kernel
theorem dbl_xor {a b : Nat} (ha : a < 32) (hb : b < 32) : dbl (a ^^^ b) = dbl a ^^^ dbl b := dbl_xor_all ⟨a, ha⟩ ⟨b, hb⟩
theorem xor_left_inj {a b c : Nat} (h : a ^^^ c = b ^^^ c) : a = b := by
  have := congrArg (· ^^^ c) h
  simpa [Nat.xor_assoc] using this
theorem xor_right_inj {a b c : Nat} (h : c ^^^ a = c ^^^ b) : a = b := by
  rw [Nat.xor_comm c a, Nat.xor_comm c b] at h; exact xor_left_inj h

/-- the syndrome of eight worths: zero just for a code -/
def syn (f : Nat → Nat) : Nat := chk f 7 ^^^ f 7

theorem chk_parts {f g : Nat → Nat} (hf : ∀ i, f i < 32) (hg : ∀ i, g i < 32) {i : Nat} (hlo : ∀ j, j < i → f j = g j) (hne : f i ≠ g i) :
    ∀ k, i < k → (∀ j, i < j → j < k → f j = g j) → chk f k ≠ chk g k
  | 0, h, _ => absurd h (by omega)
  | k + 1, h, hh => by
    intro he
    rw [chk, chk] at he
    have he := dbl_inj (xor_lt (chk_lt hf k) (hf k)) (xor_lt (chk_lt hg k) (hg k)) he
    rcases Nat.lt_or_ge i k with h1 | h1
    · rw [hh k h1 (by omega)] at he
      exact chk_parts hf hg hlo hne k h1 (fun j h2 h3 => hh j h2 (by omega)) (xor_left_inj he)
    · obtain rfl : i = k := by omega
      rw [chk_congr i hlo] at he
      exact hne (xor_right_inj he)

/-- one letter that differs turns the syndrome -/
theorem syn_one {f g : Nat → Nat} (hf : ∀ i, f i < 32) (hg : ∀ i, g i < 32) {i : Nat} (hi : i < 8) (he : ∀ j, j < 8 → j ≠ i → f j = g j) (hne : f i ≠ g i) : syn f ≠ syn g := by
  unfold syn
  intro h
  rcases Nat.lt_or_ge i 7 with h1 | h1
  · rw [he 7 (by omega) (by omega)] at h
    exact chk_parts hf hg (fun j hj => he j (by omega) (by omega)) hne 7 h1 (fun j h2 h3 => he j (by omega) (by omega)) (xor_left_inj h)
  · obtain rfl : i = 7 := by omega
    rw [chk_congr 7 (fun j hj => he j (by omega) (by omega))] at h
    exact hne (xor_right_inj h)

/-! ### an exchange of two letters -/
theorem chk_xor {f g : Nat → Nat} (hf : ∀ i, f i < 32) (hg : ∀ i, g i < 32) : ∀ k, chk (fun j => f j ^^^ g j) k = chk f k ^^^ chk g k
  | 0 => by simp [chk]
  | k + 1 => by
    rw [chk, chk, chk, chk_xor hf hg k, ← dbl_xor (xor_lt (chk_lt hf k) (hf k)) (xor_lt (chk_lt hg k) (hg k))]
    congr 1
    rw [Nat.xor_assoc, Nat.xor_assoc]
    congr 1
    rw [← Nat.xor_assoc, ← Nat.xor_assoc, Nat.xor_comm (chk g k)]
theorem syn_xor {f g : Nat → Nat} (hf : ∀ i, f i < 32) (hg : ∀ i, g i < 32) : syn (fun j => f j ^^^ g j) = syn f ^^^ syn g := by
  unfold syn
  rw [chk_xor hf hg, Nat.xor_assoc, Nat.xor_assoc]
  congr 1
  rw [← Nat.xor_assoc, ← Nat.xor_assoc, Nat.xor_comm (chk g 7)]

def two (i k d j : Nat) : Nat := if j = i ∨ j = k then d else 0
theorem two_all : ∀ i : Fin 8, ∀ k : Fin 8, ∀ d : Fin 32, i.val < k.val → d.val ≠ 0 → syn (two i.val k.val d.val) ≠ 0 := by decide +kernel
theorem syn_swap {f g : Nat → Nat} (hf : ∀ i, f i < 32) (hg : ∀ i, g i < 32) {i k : Nat} (hik : i < k) (hk : k < 8) (hi' : g i = f k) (hk' : g k = f i) (he : ∀ j, j < 8 → j ≠ i → j ≠ k → g j = f j) (hne : f i ≠ f k) (h0 : syn f = 0) : syn g ≠ 0 := by
  intro hg0
  have hx := syn_xor hf hg
  rw [h0, hg0] at hx
  have hd : f i ^^^ f k < 32 := xor_lt (hf i) (hf k)
  have hc : syn (fun j => f j ^^^ g j) = syn (two i k (f i ^^^ f k)) := by
    have hj : ∀ j, j < 8 → f j ^^^ g j = two i k (f i ^^^ f k) j := by
      intro j hj
      unfold two
      by_cases h1 : j = i
      · subst h1; rw [if_pos (.inl rfl), hi']
      · by_cases h2 : j = k
        · subst h2; rw [if_pos (.inr rfl), hk', Nat.xor_comm]
        · rw [if_neg (by omega), he j hj h1 h2, Nat.xor_self]
    unfold syn
    rw [chk_congr 7 (fun j h => hj j (by omega))]
    exact congrArg (chk (two i k (f i ^^^ f k)) 7 ^^^ ·) (hj 7 (by omega))
  rw [hc] at hx
  refine two_all ⟨i, by omega⟩ ⟨k, hk⟩ ⟨f i ^^^ f k, hd⟩ hik ?_ (by simpa using hx)
  intro hz
  have hz : f i ^^^ f k = 0 := hz
  exact hne (xor_left_inj (c := f k) (by rw [hz, Nat.xor_self]))

/-! ### how far codes lie apart -/
theorem wor_dig {n j : Nat} (h : j < 7) : wor n j = dig n j := if_pos h
theorem wor_chk (n : Nat) : wor n 7 = chk (dig n) 7 := rfl
theorem syn_wor (n : Nat) : syn (wor n) = 0 := by
  unfold syn
  rw [chk_congr 7 (fun j hj => wor_dig hj), wor_chk, Nat.xor_self]
theorem wor_inj {a b : Nat} (ha : a < 4294967296) (hb : b < 4294967296) (h : ∀ j, j < 7 → wor a j = wor b j) : a = b := by
  rw [← num_dig ha, ← num_dig hb]
  exact num_congr 7 (fun j hj => by rw [← wor_dig hj, ← wor_dig hj]; exact h j hj)

theorem cnt_comm (f g : Nat → Nat) : ∀ k, cnt f g k = cnt g f k
  | 0 => rfl
  | k + 1 => by
    rw [cnt, cnt, cnt_comm f g k]
    by_cases h : lt (f k) = lt (g k)
    · rw [if_pos h, if_pos h.symm]
    · rw [if_neg h, if_neg (fun e => h e.symm)]
theorem cnt_self (f : Nat → Nat) : ∀ k, cnt f f k = 0
  | 0 => rfl
  | k + 1 => by rw [cnt, cnt_self f k, if_pos rfl]
theorem cnt_zero {f g : Nat → Nat} (hf : ∀ i, f i < 32) (hg : ∀ i, g i < 32) : ∀ k, cnt f g k = 0 → ∀ j, j < k → f j = g j
  | 0, _, j, hj => absurd hj (by omega)
  | k + 1, h, j, hj => by
    rw [cnt] at h
    by_cases he : lt (f k) = lt (g k)
    · rw [if_pos he] at h
      rcases Nat.lt_or_ge j k with h1 | h1
      · exact cnt_zero hf hg k (by omega) j h1
      · obtain rfl : j = k := by omega
        exact lt_inj (hf _) (hg _) he
    · rw [if_neg he] at h; omega
theorem cnt_one {f g : Nat → Nat} (hf : ∀ i, f i < 32) (hg : ∀ i, g i < 32) : ∀ k, cnt f g k = 1 → ∃ i, i < k ∧ f i ≠ g i ∧ ∀ j, j < k → j ≠ i → f j = g j
  | 0, h => absurd h (by simp [cnt])
  | k + 1, h => by
    rw [cnt] at h
    by_cases he : lt (f k) = lt (g k)
    · rw [if_pos he] at h
      obtain ⟨i, h1, h2, h3⟩ := cnt_one hf hg k (by omega)
      refine ⟨i, by omega, h2, fun j hj hne => ?_⟩
      rcases Nat.lt_or_ge j k with h4 | h4
      · exact h3 j h4 hne
      · obtain rfl : j = k := by omega
        exact lt_inj (hf _) (hg _) he
    · rw [if_neg he] at h
      refine ⟨k, by omega, fun e => he (by rw [e]), fun j hj hne => ?_⟩
      exact cnt_zero hf hg k (by omega) j (by omega)
theorem cnt_tri (f g h : Nat → Nat) : ∀ k, cnt f h k ≤ cnt f g k + cnt g h k
  | 0 => by simp [cnt]
  | k + 1 => by
    have := cnt_tri f g h k
    rw [cnt, cnt, cnt]
    by_cases h1 : lt (f k) = lt (g k) <;> by_cases h2 : lt (g k) = lt (h k) <;> by_cases h3 : lt (f k) = lt (h k)
    all_goals first
      | (simp only [h1, h2, h3, if_true, if_false]; omega)
      | (exfalso; exact h3 (h1.trans h2))

def apart (a b : Nat) : Nat := cnt (wor a) (wor b) 8
theorem apart_zero {a b : Nat} (ha : a < 4294967296) (hb : b < 4294967296) : apart a b = 0 ↔ a = b :=
  ⟨fun h => wor_inj ha hb (fun j hj => cnt_zero (wor_lt a) (wor_lt b) 8 h j (by omega)), fun h => by subst h; exact cnt_self _ 8⟩
theorem apart_one (a b : Nat) : apart a b ≠ 1 := by
  intro h
  obtain ⟨i, h1, h2, h3⟩ := cnt_one (wor_lt a) (wor_lt b) 8 h
  exact syn_one (wor_lt a) (wor_lt b) h1 h3 h2 ((syn_wor a).trans (syn_wor b).symm)

/-! ### texts -/
theorem byt_list (l : List UInt8) (k : Nat) : byt ⟨l.toArray⟩ k = (l.getD k 0).toNat := by simp [byt]
/-- eight letters, as bytes -/
def let8 (f : Nat → Nat) : List UInt8 := [ltB (f 0), ltB (f 1), ltB (f 2), ltB (f 3), ltB (f 4), ltB (f 5), ltB (f 6), ltB (f 7)]
theorem let8_len (f : Nat → Nat) : (let8 f).length = 8 := rfl
theorem let8_at (f : Nat → Nat) {k : Nat} (h : k < 8) : (let8 f)[k]? = some (ltB (f k)) := by
  obtain rfl | rfl | rfl | rfl | rfl | rfl | rfl | rfl : k = 0 ∨ k = 1 ∨ k = 2 ∨ k = 3 ∨ k = 4 ∨ k = 5 ∨ k = 6 ∨ k = 7 := by omega
  all_goals rfl
theorem let8_byt (f : Nat → Nat) (hf : ∀ i, f i < 32) {k : Nat} (h : k < 8) : byt ⟨(let8 f).toArray⟩ k = lt (f k) := by
  rw [byt_list, List.getD_eq_getElem?_getD, let8_at f h]
  exact ltB_toNat (hf k)
theorem let8_wr (f : Nat → Nat) (hf : ∀ i, f i < 32) {k : Nat} (h : k < 8) : wr ⟨(let8 f).toArray⟩ k = f k := by
  unfold wr; rw [let8_byt f hf h, wI_lt (hf k)]; rfl
theorem let8_good (f : Nat → Nat) (hf : ∀ i, f i < 32) {k : Nat} (h : k < 8) : Good ⟨(let8 f).toArray⟩ k :=
  ⟨h, by rw [let8_byt f hf h, wI_lt (hf k)]; omega⟩
theorem txt_let8 (n : Nat) : txt n = let8 (wor n) := rfl
theorem let8_inj {f g : Nat → Nat} (hf : ∀ i, f i < 32) (hg : ∀ i, g i < 32) (h : let8 f = let8 g) : ∀ j, j < 8 → f j = g j := by
  intro j hj
  have h1 := let8_at f hj
  rw [h, let8_at g hj] at h1
  exact (ltB_inj (hg j) (hf j) (Option.some.inj h1)).symm
theorem let8_congr {f g : Nat → Nat} (h : ∀ j, j < 8 → f j = g j) : let8 f = let8 g := by
  unfold let8; rw [h 0 (by omega), h 1 (by omega), h 2 (by omega), h 3 (by omega), h 4 (by omega), h 5 (by omega), h 6 (by omega), h 7 (by omega)]
theorem fin_let8 (f : Nat → Nat) (hf : ∀ i, f i < 32) : fin ⟨(let8 f).toArray⟩ = if 4294967296 ≤ num f 7 then (0, 0, 150) else if syn f ≠ 0 then (0, 7, 150) else (num f 7, 0, 0) := by
  unfold fin syn
  rw [if_neg (by show ¬ 8 < 8; omega), num_congr 7 (fun j hj => let8_wr f hf (by omega)), chk_congr 7 (fun j hj => let8_wr f hf (by omega)), let8_wr f hf (by omega)]

end Go.Proofs.YtpoijhjjbmaedaaGreatDoor.Cod
end

/- CodAns: What a parse answers, and what follows of it: there and back; a slip of one letter, an exchange of two. No program in sight. -/
section
namespace Go.Proofs.YtpoijhjjbmaedaaGreatDoor.Cod
open Go.RowKit

/-- what a parse answers -/
def ans (s : ByteArray) (K : Nat) : Nat × Nat × Nat := if K < 8 then (0, K, 150) else fin s
theorem ans_bad {s : ByteArray} {K : Nat} (h : K < 8) : ans s K = (0, K, 150) := if_pos h

instance (s : ByteArray) (k : Nat) : Decidable (Good s k) := by unfold Good; infer_instance
/-- how many letters a text begins with, eight at most -/
def lead (s : ByteArray) : Nat → Nat
  | 0 => 0
  | k + 1 => if lead s k = k ∧ Good s k then k + 1 else lead s k
theorem lead_le (s : ByteArray) : ∀ k, lead s k ≤ k
  | 0 => Nat.le_refl _
  | k + 1 => by have := lead_le s k; unfold lead; split <;> omega
theorem lead_good (s : ByteArray) : ∀ k j, j < lead s k → Good s j
  | 0, j, h => absurd h (by simp [lead])
  | k + 1, j, h => by
    unfold lead at h
    split at h
    · rename_i hh
      rcases Nat.lt_or_ge j k with h1 | h1
      · exact lead_good s k j (by rw [hh.1]; exact h1)
      · obtain rfl : j = k := by omega
        exact hh.2
    · exact lead_good s k j h
theorem lead_bad (s : ByteArray) : ∀ k, lead s k < k → ¬ Good s (lead s k)
  | 0, h => absurd h (by omega)
  | k + 1, h => by
    unfold lead at h ⊢
    split at h
    · omega
    · rename_i hh
      rw [if_neg hh]
      have := lead_le s k
      rcases Nat.lt_or_ge (lead s k) k with h1 | h1
      · exact lead_bad s k h1
      · have h2 : lead s k = k := by omega
        rw [h2]
        intro hg
        exact hh ⟨h2, hg⟩

def answer (s : ByteArray) : Nat × Nat × Nat := ans s (lead s 8)


theorem lead_full {s : ByteArray} (h : ∀ j, j < 8 → Good s j) : lead s 8 = 8 := by
  have h1 := lead_le s 8
  rcases Nat.lt_or_ge (lead s 8) 8 with h2 | h2
  · exact absurd (h _ h2) (lead_bad s 8 h2)
  · omega
theorem answer_let8 (f : Nat → Nat) (hf : ∀ i, f i < 32) : answer ⟨(let8 f).toArray⟩ = if 4294967296 ≤ num f 7 then (0, 0, 150) else if syn f ≠ 0 then (0, 7, 150) else (num f 7, 0, 0) := by
  unfold answer
  rw [lead_full (fun j hj => let8_good f hf hj), ans, if_neg (by omega), fin_let8 f hf]
/-- what is written is read -/
theorem answer_txt {n : Nat} (h : n < 4294967296) : answer ⟨(txt n).toArray⟩ = (n, 0, 0) := by
  have hn : num (wor n) 7 = n := by rw [num_congr 7 (fun j hj => wor_dig hj), num_dig h]
  rw [txt_let8, answer_let8 _ (wor_lt n), hn, if_neg (by omega), if_neg (by simp [syn_wor])]
/-- eight letters that are no code are answered so -/
theorem answer_bad (f : Nat → Nat) (hf : ∀ i, f i < 32) (h : syn f ≠ 0) : ∃ p, answer ⟨(let8 f).toArray⟩ = (0, p, 150) ∧ p ≤ 7 := by
  rw [answer_let8 f hf]
  by_cases h1 : 4294967296 ≤ num f 7
  · exact ⟨0, by rw [if_pos h1], by omega⟩
  · exact ⟨7, by rw [if_neg h1, if_pos h], by omega⟩
/-- what is answered at all -/
theorem answer_ways (s : ByteArray) : (∃ p, answer s = (0, p, 150) ∧ p ≤ s.size ∧ p ≤ 8) ∨ (∃ n, answer s = (n, 0, 0) ∧ n < 4294967296 ∧ s = ⟨(txt n).toArray⟩) := by
  unfold answer ans
  have hl := lead_le s 8
  have hsz : lead s 8 ≤ s.size := by
    rcases Nat.eq_zero_or_pos (lead s 8) with h | h
    · omega
    · have := (lead_good s 8 (lead s 8 - 1) (by omega)).1; omega
  by_cases h : lead s 8 < 8
  · exact .inl ⟨lead s 8, by rw [if_pos h], hsz, hl⟩
  · have h8 : lead s 8 = 8 := by omega
    rw [if_neg h]
    unfold fin
    by_cases h1 : 8 < s.size
    · exact .inl ⟨8, by rw [if_pos h1], by omega, by omega⟩
    · rw [if_neg h1]
      by_cases h2 : 4294967296 ≤ num (wr s) 7
      · exact .inl ⟨0, by rw [if_pos h2], by omega, by omega⟩
      · rw [if_neg h2]
        by_cases h3 : chk (wr s) 7 ^^^ wr s 7 ≠ 0
        · exact .inl ⟨7, by rw [if_pos h3], by omega, by omega⟩
        · rw [if_neg h3]
          refine .inr ⟨num (wr s) 7, rfl, by omega, ?_⟩
          have hg := lead_good s 8
          rw [h8] at hg
          have hw : ∀ j, j < 8 → wor (num (wr s) 7) j = wr s j := by
            intro j hj
            have hd := dig_num (wr_lt s)
            rcases Nat.lt_or_ge j 7 with h5 | h5
            · rw [wor_dig h5, hd j h5]
            · obtain rfl : j = 7 := by omega
              rw [wor_chk, chk_congr 7 hd]
              have h6 : chk (wr s) 7 ^^^ wr s 7 = 0 := by simpa using h3
              exact xor_left_inj (c := wr s 7) (by rw [h6, Nat.xor_self])
          rw [txt_let8, let8_congr hw]
          apply ByteArray.ext
          apply Array.ext'
          show s.data.toList = (let8 (wr s)).toArray.toList
          apply List.ext_getElem?
          intro j
          rcases Nat.lt_or_ge j 8 with hj | hj
          · have hlen : j < s.data.toList.length := by have := (hg j hj).1; simpa using this
            have e2 : (let8 (wr s)).toArray.toList[j]? = some (ltB (wr s j)) := let8_at (wr s) hj
            rw [e2, List.getElem?_eq_getElem hlen]
            have e1 : (s.data.toList[j]).toNat = byt s j := by
              unfold byt; rw [List.getD_eq_getElem?_getD, List.getElem?_eq_getElem hlen]; rfl
            have e3 : (ltB (wr s j)).toNat = byt s j := by
              rw [ltB_toNat (wr_lt s j)]
              exact lt_wI (byt_lt s j) (hg j hj).2
            exact congrArg some (UInt8.toNat_inj.1 (e1.trans e3.symm))
          · have e1 : s.data.toList[j]? = none := List.getElem?_eq_none (by
              have : s.data.toList.length = s.size := by simp
              omega)
            have e2 : (let8 (wr s)).toArray.toList[j]? = none := List.getElem?_eq_none (by show 8 ≤ j; omega)
            rw [e1, e2]

/-- one letter in the place of another -/
def putAt (f : Nat → Nat) (i v j : Nat) : Nat := if j = i then v else f j
theorem putAt_lt {f : Nat → Nat} (hf : ∀ i, f i < 32) {i v : Nat} (hv : v < 32) : ∀ j, putAt f i v j < 32 := by
  intro j; unfold putAt; split
  · exact hv
  · exact hf j
/-- two letters change places -/
def swapAt (f : Nat → Nat) (i k j : Nat) : Nat := if j = k then f i else if j = i then f k else f j
theorem swapAt_lt {f : Nat → Nat} (hf : ∀ i, f i < 32) {i k : Nat} : ∀ j, swapAt f i k j < 32 := by
  intro j; unfold swapAt; split
  · exact hf _
  · split <;> exact hf _
theorem slip {n i v : Nat} (hn : n < 4294967296) (hi : i < 8) (hv : v < 32) :
    (let8 (putAt (wor n) i v) = txt n ∧ answer ⟨(let8 (putAt (wor n) i v)).toArray⟩ = (n, 0, 0)) ∨ (let8 (putAt (wor n) i v) ≠ txt n ∧ ∃ p, answer ⟨(let8 (putAt (wor n) i v)).toArray⟩ = (0, p, 150)) := by
  by_cases h : v = wor n i
  · have e : let8 (putAt (wor n) i v) = txt n := by
      rw [txt_let8]
      exact let8_congr (fun j _ => by unfold putAt; split <;> simp_all)
    exact .inl ⟨e, by rw [e]; exact answer_txt hn⟩
  · have hs : syn (putAt (wor n) i v) ≠ syn (wor n) := syn_one (putAt_lt (wor_lt n) hv) (wor_lt n) hi (fun j _ hj => by unfold putAt; rw [if_neg hj]) (by unfold putAt; rw [if_pos rfl]; exact h)
    rw [syn_wor] at hs
    obtain ⟨p, hp, _⟩ := answer_bad _ (putAt_lt (wor_lt n) hv) hs
    refine .inr ⟨fun e => ?_, p, hp⟩
    rw [txt_let8] at e
    have := let8_inj (putAt_lt (wor_lt n) hv) (wor_lt n) e i hi
    unfold putAt at this
    rw [if_pos rfl] at this
    exact h this
theorem exchange {n i k : Nat} (hn : n < 4294967296) (hi : i < 8) (hk : k < 8) :
    (let8 (swapAt (wor n) i k) = txt n ∧ answer ⟨(let8 (swapAt (wor n) i k)).toArray⟩ = (n, 0, 0)) ∨ (let8 (swapAt (wor n) i k) ≠ txt n ∧ ∃ p, answer ⟨(let8 (swapAt (wor n) i k)).toArray⟩ = (0, p, 150)) := by
  by_cases h : wor n i = wor n k
  · have e : let8 (swapAt (wor n) i k) = txt n := by
      rw [txt_let8]
      refine let8_congr (fun j _ => ?_)
      unfold swapAt
      by_cases h1 : j = k
      · rw [if_pos h1, h1, h]
      · rw [if_neg h1]
        by_cases h2 : j = i
        · rw [if_pos h2, h2, h]
        · rw [if_neg h2]
    exact .inl ⟨e, by rw [e]; exact answer_txt hn⟩
  · have hne : i ≠ k := fun e => h (by rw [e])
    have hs : syn (swapAt (wor n) i k) ≠ 0 := by
      rcases Nat.lt_or_ge i k with hl | hl
      · exact syn_swap (wor_lt n) (swapAt_lt (wor_lt n)) hl hk (by unfold swapAt; rw [if_neg hne, if_pos rfl]) (by unfold swapAt; rw [if_pos rfl]) (fun j _ h1 h2 => by unfold swapAt; rw [if_neg h2, if_neg h1]) h (syn_wor n)
      · exact syn_swap (wor_lt n) (swapAt_lt (wor_lt n)) (show k < i by omega) hi (by unfold swapAt; rw [if_pos rfl]) (by unfold swapAt; rw [if_neg hne, if_pos rfl]) (fun j _ h1 h2 => by unfold swapAt; rw [if_neg h1, if_neg h2]) (fun e => h e.symm) (syn_wor n)
    obtain ⟨p, hp, _⟩ := answer_bad _ (swapAt_lt (wor_lt n)) hs
    refine .inr ⟨fun e => ?_, p, hp⟩
    rw [txt_let8] at e
    have := let8_inj (swapAt_lt (wor_lt n)) (wor_lt n) e k hk
    unfold swapAt at this
    rw [if_pos rfl] at this
    exact h this

end Go.Proofs.YtpoijhjjbmaedaaGreatDoor.Cod
end
