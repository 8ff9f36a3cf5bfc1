/- The manifest's reference: until and form. -/
import Derived.Test.YtpoijhjjbmaedaaGreatDoorMan11
import Derived.Test.YtpoijhjjbmaedaaGreatDoorCabC
set_option linter.unusedVariables false
set_option linter.unusedSimpArgs false
namespace Go.Proofs.YtpoijhjjbmaedaaGreatDoor.Man
open Go.RowKit

/-- a piece of a text, cut -/
theorem cut2_str (s : ByteArray) (a b : Nat) (hab : a ≤ b) (hb : b ≤ s.size) (W : World) : (Instr.slice 9 (.string s) (some (.int .i64 (a : Int))) (some (.int .i64 (b : Int))) none).run Tryz.prog W = .ok (.string ⟨((s.data.toList.drop a).take (b - a)).toArray⟩) W := by
  rw [run_slice_string (P := Tryz.prog) W 9 s .i64 .i64 (a : Int) (b : Int) Tryz.underlying9 (by omega) (by omega) (by omega)]
  congr 2
  apply ByteArray.ext
  rw [ByteArray.data_extract]
  apply Array.toList_inj.1
  simp [List.extract_eq_take_drop]
theorem byte_eqb {b c : UInt8} (h : b ≠ c) : (((b.toNat : Nat) : Int) == ((c.toNat : Nat) : Int)) = false ∧ ¬ ((b.toNat : Nat) : Int) = ((c.toNat : Nat) : Int) := by
  have : ¬ ((b.toNat : Nat) : Int) = ((c.toNat : Nat) : Int) := fun e => h (UInt8.toNat_inj.1 (by omega))
  exact ⟨by simpa using this, this⟩

set_option maxRecDepth 100000 in
set_option maxHeartbeats 1000000 in
theorem until_yes (s : ByteArray) (p : Nat) (c : UInt8) (t r : List UInt8) (w : World) (hs : s.size ≤ 20000) (h : upto c (s.data.toList.drop p) = some (t, r)) :
    Calls Tryz.prog 100 #[.string s, .int .i64 (p : Int), .int .u8 (c.toNat : Nat)] w fun e w' => e = .returned (.tuple #[.string ⟨t.toArray⟩, .int .i64 ((p : Int) + (t.length : Int) + 1)]) ∧ Below w.heap.size w w' := by
  obtain ⟨h1, h2⟩ := upto_some.1 h
  have hlen := congrArg List.length h1
  rw [List.length_drop, ← Lib.size_eq, List.length_append, List.length_cons] at hlen
  have hget : ∀ j, s.data.toList[p + j]? = (t ++ c :: r)[j]? := fun j => by rw [← h1, List.getElem?_drop]
  have hcut := cut2_str s p (p + t.length) (by omega) (by omega)
  rw [h1, show p + t.length - p = t.length by omega, List.take_left] at hcut
  have HG := Lib.hid hget; have HC := Lib.hid hcut; have HN := Lib.hid h2; have HL := Lib.hid hlen
  clear h h1 hget hcut h2 hlen
  go_enter Tryz.func100, Tryz.ntmps100
  go_wp2_with fail
  go_loopw [8] (fun i wr => ∃ j n : Nat, j ≤ t.length ∧ i = .int .i64 ((p : Int) + (j : Int)) ∧ wr = w.drewN n) (fun i _ => (s.size - intOf i).toNat)
  case atStart => exact ⟨0, 0, by omega, by simp, rfl⟩
  case round =>
    obtain ⟨j, n, hj, rfl, rfl⟩ := hrel
    have hlt : (p : Int) + (j : Int) < (s.size : Int) := by have := HL.out; omega
    have h0 : (0 : Int) ≤ (p : Int) + (j : Int) := by omega
    by_cases hjt : j < t.length
    · have hb : s.data.toList[p + j]? = some t[j] := by rw [HG.out, List.getElem?_append_left hjt]; exact List.getElem?_eq_getElem hjt
      have hne : t[j] ≠ c := fun e => HN.out (by rw [← e]; exact List.getElem_mem hjt)
      obtain ⟨B, hB⟩ : ∃ B, t[j] = B := ⟨_, rfl⟩
      rw [hB] at hb hne
      clear hB
      obtain ⟨hn, hn'⟩ := byte_eqb hne
      have hidx : ∀ W : World, (Instr.index 9 (.string s) (.int .i64 ((p : Int) + (j : Int)))).run Tryz.prog W = .ok (.int .u8 (B.toNat : Nat)) W := fun W => idx_str s (p + j) B hb W
      clear hb hne
      go_wp2_with fail
      go_roundw
      case rel => exact ⟨j + 1, _, by omega, by go_num, rfl⟩
      case measure => simp [intOf]; omega
    · obtain rfl : j = t.length := by omega
      have hb : s.data.toList[p + t.length]? = some c := by rw [HG.out, List.getElem?_append_right (Nat.le_refl _)]; simp
      have hidx : ∀ W : World, (Instr.index 9 (.string s) (.int .i64 ((p : Int) + (t.length : Int)))).run Tryz.prog W = .ok (.int .u8 (c.toNat : Nat)) W := fun W => idx_str s (p + t.length) c hb W
      have hct : ∀ W : World, (Instr.slice 9 (.string s) (some (.int .i64 (p : Int))) (some (.int .i64 ((p : Int) + (t.length : Int)))) none).run Tryz.prog W = .ok (.string ⟨t.toArray⟩) W := fun W => HC.out W
      clear hb
      go_wp2_with fail
      go_ret2
      exact ⟨rfl, by repeat (first | with_reducible exact Below.refl _ _ | with_reducible refine ext_alloc ?_ _ | with_reducible refine ext_drew ?_ | with_reducible refine ext_drewN ?_ _ | (refine ext_setCell ?_ (by simp at *; omega) _) | with_reducible refine ext_trans ?_ (by assumption))⟩

set_option maxRecDepth 100000 in
set_option maxHeartbeats 1000000 in
theorem until_no (s : ByteArray) (p : Nat) (c : UInt8) (w : World) (hs : s.size ≤ 20000) (hp : p ≤ s.size) (h : upto c (s.data.toList.drop p) = none) :
    Calls Tryz.prog 100 #[.string s, .int .i64 (p : Int), .int .u8 (c.toNat : Nat)] w fun e w' => e = .returned (.tuple #[.string ⟨#[]⟩, .int .i64 (-1)]) ∧ Below w.heap.size w w' := by
  have h1 := upto_none.1 h
  have HN := Lib.hid h1
  clear h h1
  go_enter Tryz.func100, Tryz.ntmps100
  go_wp2_with fail
  go_loopw [8] (fun i wr => ∃ j n : Nat, p + j ≤ s.size ∧ i = .int .i64 ((p : Int) + (j : Int)) ∧ wr = w.drewN n) (fun i _ => (s.size - intOf i).toNat)
  case atStart => exact ⟨0, 0, by omega, by simp, rfl⟩
  case round =>
    obtain ⟨j, n, hj, rfl, rfl⟩ := hrel
    have h0 : (0 : Int) ≤ (p : Int) + (j : Int) := by omega
    by_cases hjt : p + j < s.size
    · have hlt : (p : Int) + (j : Int) < (s.size : Int) := by omega
      have hjl : p + j < s.data.toList.length := by rw [← Lib.size_eq]; exact hjt
      have hb : s.data.toList[p + j]? = some s.data.toList[p + j] := List.getElem?_eq_getElem hjl
      have hne : s.data.toList[p + j] ≠ c := fun e => HN.out (by
        rw [← e]
        have hd : j < (s.data.toList.drop p).length := by rw [List.length_drop]; omega
        have : (s.data.toList.drop p)[j] = s.data.toList[p + j] := List.getElem_drop
        rw [← this]; exact List.getElem_mem hd)
      obtain ⟨B, hB⟩ : ∃ B, s.data.toList[p + j] = B := ⟨_, rfl⟩
      rw [hB] at hb hne
      clear hB hjl
      obtain ⟨hn, hn'⟩ := byte_eqb hne
      have hidx : ∀ W : World, (Instr.index 9 (.string s) (.int .i64 ((p : Int) + (j : Int)))).run Tryz.prog W = .ok (.int .u8 (B.toNat : Nat)) W := fun W => idx_str s (p + j) B hb W
      clear hb hne
      go_wp2_with fail
      go_roundw
      case rel => exact ⟨j + 1, _, by omega, by go_num, rfl⟩
      case measure => simp [intOf]; omega
    · have hge : ¬ (p : Int) + (j : Int) < (s.size : Int) := by omega
      go_wp2_with fail
      go_ret2
      exact ⟨rfl, by repeat (first | with_reducible exact Below.refl _ _ | with_reducible refine ext_alloc ?_ _ | with_reducible refine ext_drew ?_ | with_reducible refine ext_drewN ?_ _ | (refine ext_setCell ?_ (by simp at *; omega) _) | with_reducible refine ext_trans ?_ (by assumption))⟩

/-- has a text a seat's form? -/
theorem form_in (l : List UInt8) (w : World) : Calls Tryz.prog 101 #[.string ⟨l.toArray⟩] w fun e w' => e = .returned (.bool (okA l)) ∧ Below w.heap.size w w' := by
  have hI : ∀ W, Cab.Ints W none [] := fun W h => absurd rfl h
  cases h : okA l
  · have HC := Lib.hid (fun W => Cab.rParse_none 64 16 [] none 0 l W (hI W) (by decide) (by decide) (fun r c h1 h2 => okA_no h (by omega) (by omega)))
    clear h hI
    go_enter Tryz.func101, Tryz.ntmps101
    go_wp2_with fail
    refine (HC.out _).mono ?_
    rintro e w2 ⟨rfl, hb2⟩
    go_wp2_with fail
    go_ret
    exact ⟨rfl, by first | assumption | repeat (first | with_reducible exact Below.refl _ _ | with_reducible refine ext_alloc ?_ _ | with_reducible refine ext_drew ?_ | with_reducible refine ext_drewN ?_ _ | (refine ext_setCell ?_ (by simp at *; omega) _) | with_reducible refine ext_trans ?_ (by assumption))⟩
  · obtain ⟨r, c, h1, h2, rfl⟩ := okA_yes h
    have HC := Lib.hid (fun W => Cab.rParse_seat 64 16 [] none 0 r c W (hI W) (by decide) (by decide) (by omega) (by omega))
    clear h hI
    go_enter Tryz.func101, Tryz.ntmps101
    go_wp2_with fail
    refine (HC.out _).mono ?_
    rintro e w2 ⟨rfl, hb2⟩
    go_wp2_with fail
    go_ret
    exact ⟨rfl, by first | assumption | repeat (first | with_reducible exact Below.refl _ _ | with_reducible refine ext_alloc ?_ _ | with_reducible refine ext_drew ?_ | with_reducible refine ext_drewN ?_ _ | (refine ext_setCell ?_ (by simp at *; omega) _) | with_reducible refine ext_trans ?_ (by assumption))⟩

end Go.Proofs.YtpoijhjjbmaedaaGreatDoor.Man
