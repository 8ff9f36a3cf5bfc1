/- The plain law of the codes: digits, letters, the check letter. No program in sight. -/
import Derived.Test.YtmmmehllfokjgaaDoorKit
import Derived.Laws.BitsAllLaws
import Derived.Laws.BitsLemmas
import Derived.Lib.Bytealg
namespace Go.Proofs.YtmmmehllfokjgaaDoor.Cod
open Go.RowKit

def dbl (w : Nat) : Nat := if w < 16 then 2 * w else (2 * w) ^^^ 37
def dig (n i : Nat) : Nat := n / 2 ^ (5 * (6 - i)) % 32
def chk (f : Nat → Nat) : Nat → Nat
  | 0 => 0
  | k + 1 => dbl (chk f k ^^^ f k)
def letters : List Nat := [50, 51, 52, 53, 54, 55, 56, 57, 65, 66, 67, 68, 69, 70, 71, 72, 74, 75, 76, 77, 78, 80, 81, 82, 83, 84, 85, 86, 87, 88, 89, 90]
def lt (w : Nat) : Nat := letters.getD w 0

theorem dig_lt (n i : Nat) : dig n i < 32 := Nat.mod_lt _ (by omega)
theorem xor_lt {a b : Nat} (ha : a < 32) (hb : b < 32) : a ^^^ b < 32 := Nat.xor_lt_two_pow (n := 5) ha hb
theorem dbl_all : ∀ w : Fin 32, dbl w.val < 32 := by decide
theorem dbl_lt {w : Nat} (h : w < 32) : dbl w < 32 := dbl_all ⟨w, h⟩
theorem chk_lt {f : Nat → Nat} (hf : ∀ i, f i < 32) : ∀ k, chk f k < 32
  | 0 => by simp [chk]
  | k + 1 => dbl_lt (xor_lt (chk_lt hf k) (hf k))
theorem lt_all : ∀ w : Fin 32, lt w.val < 256 := by decide
theorem lt_lt {w : Nat} (h : w < 32) : lt w < 256 := lt_all ⟨w, h⟩

/-- the eighth worth of a code -/
def wor (n i : Nat) : Nat := if i < 7 then dig n i else chk (dig n) 7
theorem wor_lt (n i : Nat) : wor n i < 32 := by
  unfold wor; split
  · exact dig_lt n i
  · exact chk_lt (dig_lt n) 7

/-- what the walk makes of 'id >> (5 * (6 - i)) & 31', cut to a byte -/
theorem and31 (m : Nat) (h : m < 18446744073709551616) : bits BinOp.and IntKind.u64 (m : Int) 31 = ((m % 32 : Nat) : Int) := by
  have h1 : bits BinOp.and IntKind.u64 (m : Int) ((31 : Nat) : Int) = ((m &&& 31 : Nat) : Int) := by
    show IntKind.u64.wrap ((BitVec.ofInt 64 (m : Int) &&& BitVec.ofInt 64 ((31 : Nat) : Int)).toNat : Int) = _
    have e1 : (BitVec.ofInt 64 (m : Int)).toNat = m := by
      rw [BitVec.ofInt_natCast, BitVec.toNat_ofNat]; exact Nat.mod_eq_of_lt (by omega)
    have e2 : (BitVec.ofInt 64 ((31 : Nat) : Int)).toNat = 31 := by decide
    rw [BitVec.toNat_and, e1, e2]
    have : m &&& 31 ≤ 31 := Nat.and_le_right
    show ((m &&& 31 : Nat) : Int) % 18446744073709551616 = _
    omega
  rw [show (31 : Int) = ((31 : Nat) : Int) from rfl, h1, show (31 : Nat) = 2 ^ 5 - 1 from rfl, Nat.and_two_pow_sub_one_eq_mod]
theorem cut_dig (n k : Nat) (h : n < 4294967296) : bits BinOp.and IntKind.u64 ((n : Int) / 2 ^ (5 * (6 - k))) 31 % 256 = ((dig n k : Nat) : Int) := by
  have e : ((n : Int) / 2 ^ (5 * (6 - k))) = ((n / 2 ^ (5 * (6 - k)) : Nat) : Int) := by
    rw [Int.natCast_ediv, Int.natCast_pow]; rfl
  have hl : n / 2 ^ (5 * (6 - k)) ≤ n := Nat.div_le_self _ _
  rw [e, and31 _ (by omega)]
  have := dig_lt n k
  unfold dig at this ⊢
  omega
theorem xor8 (a b : Nat) (ha : a < 32) (hb : b < 32) : bits BinOp.xor IntKind.u8 (a : Int) (b : Int) = ((a ^^^ b : Nat) : Int) := by
  have hx := xor_lt ha hb
  show IntKind.u8.wrap ((BitVec.ofInt 8 (a : Int) ^^^ BitVec.ofInt 8 (b : Int)).toNat : Int) = _
  have e : ∀ m : Nat, m < 32 → (BitVec.ofInt 8 (m : Int)).toNat = m := fun m hm => by
    rw [BitVec.ofInt_natCast, BitVec.toNat_ofNat]; exact Nat.mod_eq_of_lt (by omega)
  rw [BitVec.toNat_xor, e a ha, e b hb]
  show ((a ^^^ b : Nat) : Int) % 256 = _
  omega

def ltB (w : Nat) : UInt8 := UInt8.ofNat (lt w)
theorem ltB_all : ∀ w : Fin 32, (ltB w.val).toNat = lt w.val := by decide
theorem ltB_toNat {w : Nat} (h : w < 32) : (ltB w).toNat = lt w := ltB_all ⟨w, h⟩
theorem ltB_inj_all : ∀ a b : Fin 32, ltB a.val = ltB b.val → a = b := by decide +kernel
theorem ltB_inj {a b : Nat} (ha : a < 32) (hb : b < 32) (h : ltB a = ltB b) : a = b := by
  have := ltB_inj_all ⟨a, ha⟩ ⟨b, hb⟩ h
  simpa using this

/-- the code of an id, as bytes -/
def txt (n : Nat) : List UInt8 := [ltB (dig n 0), ltB (dig n 1), ltB (dig n 2), ltB (dig n 3), ltB (dig n 4), ltB (dig n 5), ltB (dig n 6), ltB (chk (dig n) 7)]

/-- a letter's worth; -1: it is none -/
def wI (c : Nat) : Int := Lib.indexByte (letters.map UInt8.ofNat) c.toUInt8
theorem wI_all : ∀ c : Fin 256, -1 ≤ wI c.val ∧ wI c.val < 32 := by decide +kernel
theorem wI_lo {c : Nat} (h : c < 256) : -1 ≤ wI c := (wI_all ⟨c, h⟩).1
theorem wI_hi {c : Nat} (h : c < 256) : wI c < 32 := (wI_all ⟨c, h⟩).2
theorem wI_lt_all : ∀ i : Fin 32, wI (lt i.val) = i.val := by decide +kernel
theorem wI_lt {i : Nat} (h : i < 32) : wI (lt i) = i := wI_lt_all ⟨i, h⟩
theorem lt_wI_all : ∀ c : Fin 256, 0 ≤ wI c.val → lt (wI c.val).toNat = c.val := by decide +kernel
theorem lt_wI {c : Nat} (h : c < 256) (h' : 0 ≤ wI c) : lt (wI c).toNat = c := lt_wI_all ⟨c, h⟩ h'
theorem wI_none {c : Nat} (h : c < 256) (h' : ∀ i, i < 32 → lt i ≠ c) : wI c = -1 := by
  have h1 := wI_lo h
  have h2 := wI_hi h
  rcases Int.lt_or_le (wI c) 0 with h3 | h3
  · omega
  · exact absurd (lt_wI h h3) (h' _ (by omega))

/-- the worth of the letter at a place of a text; a place is good if it is there and bears a letter -/
def byt (s : ByteArray) (k : Nat) : Nat := (s.data.toList.getD k 0).toNat
theorem byt_lt (s : ByteArray) (k : Nat) : byt s k < 256 := (s.data.toList.getD k 0).toNat_lt
theorem byt_eq (s : ByteArray) (k : Nat) (h : k < s.size) : s[k].toNat = byt s k := by
  have h1 : k < s.data.toList.length := by simpa using h
  have e : s.data.toList.getD k 0 = s[k] := by
    rw [List.getD_eq_getElem?_getD, List.getElem?_eq_getElem h1]; rfl
  simp only [byt, e]
def wr (s : ByteArray) (k : Nat) : Nat := (wI (byt s k)).toNat
def Good (s : ByteArray) (k : Nat) : Prop := k < s.size ∧ 0 ≤ wI (byt s k)
theorem wr_lt (s : ByteArray) (k : Nat) : wr s k < 32 := by
  have := wI_hi (byt_lt s k); unfold wr; omega
def num (f : Nat → Nat) : Nat → Nat
  | 0 => 0
  | k + 1 => num f k * 32 + f k
theorem num_lt {f : Nat → Nat} (hf : ∀ i, f i < 32) : ∀ k, num f k < 2 ^ (5 * k)
  | 0 => by simp [num]
  | k + 1 => by
    have h1 := num_lt hf k
    have h2 := hf k
    rw [num, show 5 * (k + 1) = 5 * k + 5 from by omega, Nat.pow_add]
    omega
theorem num_mono {f : Nat → Nat} (k j : Nat) (h : k ≤ j) : num f k ≤ num f j := by
  induction h with
  | refl => exact Nat.le_refl _
  | step _ ih => rw [num]; omega
theorem num7 {f : Nat → Nat} (hf : ∀ i, f i < 32) {k : Nat} (h : k ≤ 7) : num f k < 34359738368 := by
  have h1 := num_lt hf 7
  have h2 := num_mono (f := f) k 7 h
  omega

/-- the three ways a parse ends that has read eight letters -/
def fin (s : ByteArray) : Nat × Nat × Nat :=
  if 8 < s.size then (0, 8, 150) else if 4294967296 ≤ num (wr s) 7 then (0, 0, 150) else if chk (wr s) 7 ^^^ wr s 7 ≠ 0 then (0, 7, 150) else (num (wr s) 7, 0, 0)

/-- or on words whose bits do not meet -/
theorem or64 (n w : Nat) (hn : n < 34359738368) (hw : w < 32) : bits BinOp.or IntKind.u64 ((n : Int) * 32) (w : Int) = ((n * 32 + w : Nat) : Int) := by
  have e : ∀ m : Nat, m < 18446744073709551616 → (BitVec.ofInt 64 (m : Int)).toNat = m := fun m hm => by
    rw [BitVec.ofInt_natCast, BitVec.toNat_ofNat]; exact Nat.mod_eq_of_lt (by omega)
  have h0 : ((n : Int) * 32) = ((n * 32 : Nat) : Int) := by omega
  have h1 : n * 32 ||| w = n * 32 + w := by
    have := Nat.two_pow_add_eq_or_of_lt (i := 5) (b := w) hw n
    rw [Nat.mul_comm]; exact this.symm
  rw [h0]
  show IntKind.u64.wrap ((BitVec.ofInt 64 ((n * 32 : Nat) : Int) ||| BitVec.ofInt 64 (w : Int)).toNat : Int) = _
  rw [BitVec.toNat_or, e _ (by omega), e _ (by omega), h1]
  show ((n * 32 + w : Nat) : Int) % 18446744073709551616 = _
  omega

theorem txt_at (n k : Nat) (h : k < 8) : (txt n)[k]? = some (ltB (wor n k)) := by
  obtain rfl | rfl | rfl | rfl | rfl | rfl | rfl | rfl : k = 0 ∨ k = 1 ∨ k = 2 ∨ k = 3 ∨ k = 4 ∨ k = 5 ∨ k = 6 ∨ k = 7 := by omega
  all_goals rfl
theorem txt_len (n : Nat) : (txt n).length = 8 := rfl
theorem txt_take (n k : Nat) (h : k < 8) : (txt n).take (k + 1) = (txt n).take k ++ [ltB (wor n k)] := by
  have h1 : k < (txt n).length := h
  rw [List.take_succ_eq_append_getElem h1]
  have := txt_at n k h
  rw [List.getElem?_eq_getElem h1] at this
  rw [Option.some.inj this]
theorem cut_all : ∀ w : Fin 32, (ByteArray.mk #[50, 51, 52, 53, 54, 55, 56, 57, 65, 66, 67, 68, 69, 70, 71, 72, 74, 75, 76, 77, 78, 80, 81, 82, 83, 84, 85, 86, 87, 88, 89, 90]).extract w.val (w.val + 1) = ⟨#[ltB w.val]⟩ := by decide +kernel
theorem cut_letter {w : Nat} (h : w < 32) : (ByteArray.mk #[50, 51, 52, 53, 54, 55, 56, 57, 65, 66, 67, 68, 69, 70, 71, 72, 74, 75, 76, 77, 78, 80, 81, 82, 83, 84, 85, 86, 87, 88, 89, 90]).extract w (w + 1) = ⟨#[ltB w]⟩ := cut_all ⟨w, h⟩
theorem glue (l : List UInt8) (b : UInt8) : (ByteArray.mk l.toArray) ++ (ByteArray.mk #[b]) = ⟨(l ++ [b]).toArray⟩ := by
  apply ByteArray.ext
  rw [ByteArray.data_append]
  simp

def cnt (f g : Nat → Nat) : Nat → Nat
  | 0 => 0
  | k + 1 => cnt f g k + if lt (f k) = lt (g k) then 0 else 1
theorem cnt_le (f g : Nat → Nat) : ∀ k, cnt f g k ≤ k
  | 0 => by simp [cnt]
  | k + 1 => by have := cnt_le f g k; rw [cnt]; split <;> omega

end Go.Proofs.YtmmmehllfokjgaaDoor.Cod
