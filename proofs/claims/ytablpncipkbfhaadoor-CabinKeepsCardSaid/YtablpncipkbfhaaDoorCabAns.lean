/- What the cabin's Parse answers, in two contracts: the seat whose name the text is; ErrSeat, if it is none's. -/
import Derived.Test.YtablpncipkbfhaaDoorCab4
namespace Go.Proofs.YtablpncipkbfhaaDoor.Cab
open Go.RowKit

theorem cB_inj : ∀ a b : Fin 16, cB a.val = cB b.val → a = b := by decide +kernel
theorem colI_cB_all : ∀ k : Fin 17, ∀ c : Fin 16, c.val < k.val → Lib.indexByte (lets.take k.val) (cB c.val) = (c.val : Int) := by decide +kernel
theorem colI_cB {wd : Int} {col : Nat} (h1 : (col : Int) < wd) (h2 : wd ≤ 16) : colI wd (cB col) = col :=
  colI_cB_all ⟨wd.toNat, by omega⟩ ⟨col, by omega⟩ (by show col < wd.toNat; omega)
theorem dd_inj {a b : Nat} (ha : a < 100) (hb : b < 100) (h : Lib.decDigits a = Lib.decDigits b) : a = b := by
  have h1 := (dd_all ⟨a, ha⟩).2.1
  have h2 := (dd_all ⟨b, hb⟩).2.1
  simp only at h1 h2
  rw [h, h2] at h1
  have := Option.some.inj h1
  omega
/-- no two seats have one name -/
theorem seatT_inj {row col row' col' : Nat} (h1 : row < 64) (h2 : col < 16) (h3 : row' < 64) (h4 : col' < 16) (h : seatT row col = seatT row' col') : row = row' ∧ col = col' := by
  unfold seatT at h
  obtain ⟨e1, e2⟩ := List.append_inj' h rfl
  have e3 := dd_inj (by omega) (by omega) e1
  have e4 := cB_inj ⟨col, h2⟩ ⟨col', h4⟩ (by simpa using e2)
  exact ⟨by omega, by simpa using e4⟩
theorem seatT_len {row col : Nat} (h1 : row < 64) : 2 ≤ (seatT row col).length ∧ (seatT row col).length ≤ 3 := by
  have h := dd_all ⟨row + 1, by omega⟩
  simp only at h
  unfold seatT
  rw [List.length_append, List.length_singleton]
  omega
/-- a seat's row and column -/
theorem seat_rc {r wd : Int} {zs : List Int} (hok : okC r wd zs = true) {k : Int} (h0 : 0 ≤ k) (h1 : k < r * wd) :
    ∃ row col : Nat, k / wd = (row : Int) ∧ k % wd = (col : Int) ∧ (row : Int) < r ∧ (col : Int) < wd ∧ row < 64 ∧ col < 16 ∧ (row : Int) * wd + col = k := by
  obtain ⟨⟨o1, o2, o3, o4⟩, _⟩ := okC_yes hok
  have p0 : 0 ≤ k / wd := Int.ediv_nonneg h0 (by omega)
  have p1 : k / wd < r := Int.ediv_lt_of_lt_mul (by omega) h1
  have p2 := Int.emod_nonneg k (show wd ≠ 0 by omega)
  have p3 := Int.emod_lt_of_pos k (show 0 < wd by omega)
  have p4 := Int.mul_ediv_add_emod k wd
  refine ⟨(k / wd).toNat, (k % wd).toNat, by omega, by omega, by omega, by omega, by omega, by omega, ?_⟩
  rw [show (((k / wd).toNat : Nat) : Int) = k / wd from by omega, show (((k % wd).toNat : Nat) : Int) = k % wd from by omega, Int.mul_comm]
  exact p4
theorem rc_seat {r wd : Int} {zs : List Int} (hok : okC r wd zs = true) {row col : Nat} (h0 : (row : Int) < r) (h1 : (col : Int) < wd) :
    0 ≤ (row : Int) * wd + col ∧ (row : Int) * wd + col < r * wd ∧ ((row : Int) * wd + col) / wd = row ∧ ((row : Int) * wd + col) % wd = col := by
  obtain ⟨⟨o1, o2, o3, o4⟩, _⟩ := okC_yes hok
  have p1 : 0 ≤ (row : Int) * wd := Int.mul_nonneg (by omega) (by omega)
  have p2 : ((row : Int) + 1) * wd ≤ r * wd := Int.mul_le_mul_of_nonneg_right (by omega) (by omega)
  rw [Int.add_mul] at p2
  refine ⟨by omega, by omega, ?_, ?_⟩
  · rw [Int.add_comm, Int.add_mul_ediv_right _ _ (by omega), Int.ediv_eq_zero_of_lt (by omega) h1]; omega
  · rw [Int.add_comm, Int.add_mul_emod_self_right, Int.emod_eq_of_lt (by omega) h1]

/-- Parse at a seat's own name -/
theorem Parse_seat (r wd : Int) (zs : List Int) (A : Option Addr) (c : Nat) (row col : Nat) (w : World) (hI : Ints w A zs) (hlen : zs.length ≤ 20000000000000) (hok : okC r wd zs = true) (hev : EV w) (h0 : (row : Int) < r) (h1 : (col : Int) < wd) :
    Calls Tryd.prog 11 #[.agg #[.int .i64 r, .int .i64 wd, .slice A zs.length c], .string ⟨(seatT row col).toArray⟩] w fun e w' => e = .returned (.tuple #[.int .i64 ((row : Int) * wd + col), .int .i64 0]) ∧ Below w.heap.size w w' := by
  obtain ⟨⟨o1, o2, o3, o4⟩, _⟩ := okC_yes hok
  have hd := dd_all ⟨row + 1, by omega⟩
  simp only at hd
  have hc := colI_cB h1 o4
  have h := Parse_hit r wd zs A c (Lib.decDigits (row + 1)) (cB col) ((row : Int) + 1) w hI hlen hok hd.2.2 hd.1 hev (by rw [hd.2.1]; rfl) (by omega) (by omega) (by omega) (by rw [show ((row : Int) + 1).toNat = row + 1 from by omega])
  refine h.mono fun e w' ⟨he, hb⟩ => ⟨?_, hb⟩
  rw [he, hc, show (row : Int) + 1 - 1 = row from by omega]
/-- Parse at a text that is no seat's name -/
theorem Parse_none (r wd : Int) (zs : List Int) (A : Option Addr) (c : Nat) (s : ByteArray) (w : World) (hI : Ints w A zs) (hlen : zs.length ≤ 20000000000000) (hok : okC r wd zs = true) (hev : EV w) (hno : ∀ row col : Nat, (row : Int) < r → (col : Int) < wd → seatT row col ≠ s.data.toList) :
    Calls Tryd.prog 11 #[.agg #[.int .i64 r, .int .i64 wd, .slice A zs.length c], .string s] w fun e w' => e = .returned (.tuple #[.int .i64 0, .int .i64 140]) ∧ Below w.heap.size w w' := by
  obtain ⟨⟨o1, o2, o3, o4⟩, _⟩ := okC_yes hok
  by_cases hl : s.size < 2 ∨ 3 < s.size
  · exact Parse_len r wd zs A c s w hI hlen hok hl
  · have hsz : s.data.toList.length = s.size := by rw [Array.length_toList]; rfl
    have hne : s.data.toList ≠ [] := by intro h; rw [h] at hsz; simp at hsz; omega
    obtain ⟨pre, b, hpb⟩ : ∃ pre b, s.data.toList = pre ++ [b] := ⟨_, _, (List.dropLast_concat_getLast hne).symm⟩
    have hs : s = glued pre b := by
      apply ByteArray.ext; unfold glued; apply Array.toList_inj.1; rw [hpb]
    have hpl : pre.length + 1 = s.size := by rw [← hsz, hpb]; simp
    subst hs
    have hb := colI_bd o3 o4 b
    have hp1 : 1 ≤ pre.length := by omega
    have hp2 : pre.length ≤ 2 := by omega
    cases hat : Lib.atoi pre with
    | none => exact Parse_syn r wd zs A c pre b w hI hlen hok hp1 hp2 hev hat
    | some n =>
      by_cases c1 : colI wd b < 0
      · exact Parse_col r wd zs A c pre b n w hI hlen hok hp1 hp2 hev hat c1
      · by_cases c2 : n < 1
        · exact Parse_lo r wd zs A c pre b n w hI hlen hok hp1 hp2 hev hat (by omega) c2
        · by_cases c3 : r < n
          · exact Parse_hi r wd zs A c pre b n w hI hlen hok hp1 hp2 hev hat (by omega) c3
          · by_cases c4 : Lib.decDigits n.toNat = pre
            · exfalso
              refine hno (n.toNat - 1) (colI wd b).toNat (by omega) (by omega) ?_
              rw [hpb]
              unfold seatT
              rw [hb.2.2 (by omega), show n.toNat - 1 + 1 = n.toNat from by omega, c4]
            · exact Parse_not r wd zs A c pre b n w hI hlen hok hp1 hp2 hev hat (by omega) (by omega) (by omega) c4

end Go.Proofs.YtablpncipkbfhaaDoor.Cab
