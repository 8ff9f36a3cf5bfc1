/- The contracts of the cabin's functions, third part: Text, Parse. -/
import Derived.Test.YtablpncipkbfhaaDoorCab2
import Derived.Test.YtablpncipkbfhaaDoorShelf
import Derived.IntWalk
import Derived.Lib.SmallJoins
namespace Go.Proofs.YtablpncipkbfhaaDoor.Cab
open Go.RowKit

def lets : List UInt8 := [65, 66, 67, 68, 69, 70, 71, 72, 74, 75, 76, 77, 78, 79, 80, 81]
def cB (k : Nat) : UInt8 := lets.getD k 0
/-- a seat's name -/
def seatT (row col : Nat) : List UInt8 := Lib.decDigits (row + 1) ++ [cB col]
theorem cut16_all : ∀ k : Fin 16, (ByteArray.mk #[65, 66, 67, 68, 69, 70, 71, 72, 74, 75, 76, 77, 78, 79, 80, 81]).extract k.val (k.val + 1) = ⟨#[cB k.val]⟩ := by decide +kernel
theorem cut16 {k : Nat} (h : k < 16) : (ByteArray.mk #[65, 66, 67, 68, 69, 70, 71, 72, 74, 75, 76, 77, 78, 79, 80, 81]).extract k (k + 1) = ⟨#[cB k]⟩ := cut16_all ⟨k, h⟩
theorem glue1 (l : List UInt8) (b : UInt8) : (ByteArray.mk l.toArray) ++ (ByteArray.mk #[b]) = ⟨(l ++ [b]).toArray⟩ := by
  apply ByteArray.ext; rw [ByteArray.data_append]; simp

theorem dd_all : ∀ n : Fin 100, (Lib.decDigits n.val).length ≤ 2 ∧ Lib.atoi (Lib.decDigits n.val) = some (n.val : Int) ∧ 1 ≤ (Lib.decDigits n.val).length := by decide +kernel
theorem dd_len {n : Nat} (h : n < 100) : (Lib.decDigits n).length ≤ 2 := (dd_all ⟨n, h⟩).1

-- cabin.Text
set_option maxRecDepth 100000 in
set_option maxHeartbeats 1000000 in
theorem Text_yes (r wd : Int) (zs : List Int) (A : Option Addr) (c : Nat) (s : Int) (row col : Nat) (w : World) (hI : Ints w A zs) (hlen : zs.length ≤ 20000000000000) (hok : okC r wd zs = true) (hs0 : 0 ≤ s) (hs1 : s < r * wd) (hrow : s / wd = row) (hcol : s % wd = col) :
    Calls Tryd.prog 16 #[.agg #[.int .i64 r, .int .i64 wd, .slice A zs.length c], .int .i64 s] w fun e w' => e = .returned (.tuple #[.string ⟨(seatT row col).toArray⟩, .int .i64 0]) ∧ Below w.heap.size w w' := by
  have HI := Lib.hid (hI.keep (ext_alloc (Below.refl _ w) (.cells #[.int .i64 r, .int .i64 wd, .slice A zs.length c] 24)))
  have HOK := Lib.hid hok
  obtain ⟨⟨o1, o2, o3, o4⟩, _⟩ := okC_yes hok
  clear hI hok
  have hr : row < 64 := by
    have h1 : s / wd < r := Int.ediv_lt_of_lt_mul (by omega) hs1
    omega
  have hcl : col < 16 := by have := Int.emod_lt_of_pos s (show 0 < wd by omega); omega
  have hsl : ∀ W : World, (Instr.slice 9 (.string (ByteArray.mk #[65, 66, 67, 68, 69, 70, 71, 72, 74, 75, 76, 77, 78, 79, 80, 81])) (some (.int .i64 (col : Int))) (some (.int .i64 ((col : Int) + 1))) none).run Tryd.prog W = .ok (.string ⟨#[cB col]⟩) W := fun W => by
    have h16 : ((ByteArray.mk #[65, 66, 67, 68, 69, 70, 71, 72, 74, 75, 76, 77, 78, 79, 80, 81]).size : Int) = 16 := by decide
    have h := run_slice_string (P := Tryd.prog) W 9 (ByteArray.mk #[65, 66, 67, 68, 69, 70, 71, 72, 74, 75, 76, 77, 78, 79, 80, 81]) .i64 .i64 (col : Int) ((col : Int) + 1) Tryd.underlying9 (by omega) (by omega) (by rw [h16]; omega)
    rw [show ((col : Int) + 1).toNat = col + 1 from by omega, Int.toNat_natCast, cut16 hcl] at h
    exact h
  have HR := Lib.hid hrow; have HC := Lib.hid hcol
  have hq : ∀ W n, Calls Tryd.prog 37 #[.int .i64 ((row : Int) + 1)] (World.drewN W n) fun e w' => e = .returned (.string ⟨(Lib.decDigits (row + 1)).toArray⟩) ∧ w' = World.drewN W n := fun W n => by
    have := Tryd.strconv_Itoa_small (row + 1) (by omega) (World.drewN W n)
    rwa [show ((row + 1 : Nat) : Int) = (row : Int) + 1 from by omega] at this
  have HQ := Lib.hid hq
  have hdl := dd_len (show row + 1 < 100 by omega)
  have hdn : ¬ 9223372036854775807 < (Lib.decDigits (row + 1)).length + 1 := by omega
  clear hq hrow hcol
  go_enter Tryd.func16, Tryd.ntmps16
  go_wp2_with fail
  refine (Place_yes r wd zs A c s _ HI.out hlen HOK.out hs0 hs1).mono ?_
  rintro e w1 ⟨rfl, hb⟩
  have hbw := ext_trans (ext_alloc (Below.refl _ w) _) hb
  rw [HR.out, HC.out]
  clear hb hs0 hs1
  have v1 : IntKind.i64.wrap ((row : Int) + 1) = (row : Int) + 1 := IntWalk.i64_in _ (by omega)
  have v2 : IntKind.i64.wrap ((col : Int) + 1) = (col : Int) + 1 := IntWalk.i64_in _ (by omega)
  go_wp2_with fail
  refine wp_region_quiet_lit (by kernel_rfl) (by kernel_rfl) ?_
  repeat (first | go_big_quiet_step ((go_at_call 37; exact Calls.quiet_of_same (HQ.out _ _))) | quiet_step ((go_at_call 37; exact Calls.quiet_of_same (HQ.out _ _))))
  refine wpQuiet_nil ?_
  intro _ hw'
  obtain ⟨nq, hw''⟩ := hw'
  subst hw''
  go_wp2_with fail
  go_ret2
  exact ⟨by rw [seatT, ← glue1]; rfl, ext_drewN hbw _⟩

set_option maxRecDepth 100000 in
set_option maxHeartbeats 1000000 in
theorem Text_seat (r wd : Int) (zs : List Int) (A : Option Addr) (c : Nat) (s : Int) (w : World) (hI : Ints w A zs) (hlen : zs.length ≤ 20000000000000) (hok : okC r wd zs = true) (hs : s < 0 ∨ r * wd ≤ s) :
    Calls Tryd.prog 16 #[.agg #[.int .i64 r, .int .i64 wd, .slice A zs.length c], .int .i64 s] w fun e w' => e = .returned (.tuple #[.string ⟨#[]⟩, .int .i64 140]) ∧ Below w.heap.size w w' := by
  have HI := Lib.hid (hI.keep (ext_alloc (Below.refl _ w) (.cells #[.int .i64 r, .int .i64 wd, .slice A zs.length c] 24)))
  have HOK := Lib.hid hok
  clear hI hok
  go_enter Tryd.func16, Tryd.ntmps16
  go_wp2_with fail
  refine (Place_seat r wd zs A c s _ HI.out hlen HOK.out hs).mono ?_
  rintro e w1 ⟨rfl, hb⟩
  have hbw := ext_trans (ext_alloc (Below.refl _ w) _) hb
  go_wp2_with fail
  go_ret2
  exact ⟨rfl, hbw⟩

set_option maxRecDepth 100000 in
set_option maxHeartbeats 1000000 in
theorem Text_no (r wd : Int) (zs : List Int) (A : Option Addr) (c : Nat) (s : Int) (w : World) (hI : Ints w A zs) (hlen : zs.length ≤ 20000000000000) (hok : okC r wd zs = false) :
    Calls Tryd.prog 16 #[.agg #[.int .i64 r, .int .i64 wd, .slice A zs.length c], .int .i64 s] w fun e w' => e = .returned (.tuple #[.string ⟨#[]⟩, .int .i64 2]) ∧ Below w.heap.size w w' := by
  have HI := Lib.hid (hI.keep (ext_alloc (Below.refl _ w) (.cells #[.int .i64 r, .int .i64 wd, .slice A zs.length c] 24)))
  have HOK := Lib.hid hok
  clear hI hok
  go_enter Tryd.func16, Tryd.ntmps16
  go_wp2_with fail
  refine (Place_no r wd zs A c s _ HI.out hlen HOK.out).mono ?_
  rintro e w1 ⟨rfl, hb⟩
  have hbw := ext_trans (ext_alloc (Below.refl _ w) _) hb
  go_wp2_with fail
  go_ret2
  exact ⟨rfl, hbw⟩

/-- the error variable that strconv's errors name, as it lies when the call begins -/
def EV (w : World) : Prop := ∃ tp p, w.cell? ⟨1, 0, none⟩ = some (.iface tp p)
theorem EV.keep {w w' : World} (h : EV w) (hb : Below w.heap.size w w') : EV w' := by
  obtain ⟨tp, p, h⟩ := h
  exact ⟨tp, p, (hb.cell (p := ⟨1, 0, none⟩) (block_lt_of_cell h)).trans h⟩
/-- strconv.Atoi at a short text that is no numeral: some error; the world below is as it was -/
theorem atoi_bad (s : ByteArray) (hl : s.size ≤ 18) (h : Lib.atoi s.data.toList = none) (w : World) (hv : EV w) :
    Calls Tryd.prog 36 #[.string s] w fun e w' => ∃ T v, e = .returned (.tuple #[.int .i64 0, .iface T v]) ∧ Below w.heap.size w w' := by
  obtain ⟨tp, p, hv⟩ := hv
  exact (Tryd.strconv_Atoi_err s hl h (.iface tp p) w hv (.inr ⟨tp, p, rfl⟩)).mono fun e w' ⟨N, h1, _, _, hb⟩ => ⟨_, _, h1, hb⟩
theorem atoi_good (s : ByteArray) (n : Int) (hl : s.size ≤ 18) (h : Lib.atoi s.data.toList = some n) (w : World) :
    Calls Tryd.prog 36 #[.string s] w fun e w' => e = .returned (.tuple #[.int .i64 n, .nilIface]) ∧ Below w.heap.size w w' :=
  (Tryd.strconv_Atoi s n hl h w).mono fun e w' ⟨h1, t, h2⟩ => ⟨h1, by rw [h2]; exact Joins.below_bytesWorld _ _ _ _ (Nat.le_refl _)⟩

/-- where a letter stands among the first wd columns; -1: nowhere -/
def colI (wd : Int) (b : UInt8) : Int := Lib.indexByte (lets.take wd.toNat) b
theorem colI_all : ∀ k : Fin 17, ∀ b : Fin 256, -1 ≤ Lib.indexByte (lets.take k.val) (UInt8.ofNat b.val) ∧ Lib.indexByte (lets.take k.val) (UInt8.ofNat b.val) < k.val ∧ (0 ≤ Lib.indexByte (lets.take k.val) (UInt8.ofNat b.val) → cB (Lib.indexByte (lets.take k.val) (UInt8.ofNat b.val)).toNat = UInt8.ofNat b.val) := by decide +kernel
theorem colI_bd {wd : Int} (h1 : 1 ≤ wd) (h2 : wd ≤ 16) (b : UInt8) : -1 ≤ colI wd b ∧ colI wd b < wd ∧ (0 ≤ colI wd b → cB (colI wd b).toNat = b) := by
  have h := colI_all ⟨wd.toNat, by omega⟩ ⟨b.toNat, b.toNat_lt⟩
  simp only [UInt8.ofNat_toNat] at h
  unfold colI
  refine ⟨h.1, by have := h.2.1; omega, h.2.2⟩

/-- a text by what stands ahead of its last byte, and that byte -/
def glued (pre : List UInt8) (b : UInt8) : ByteArray := ⟨(pre ++ [b]).toArray⟩
theorem glued_size (pre : List UInt8) (b : UInt8) : (glued pre b).size = pre.length + 1 := by
  show (pre ++ [b]).toArray.size = _; simp
theorem glued_last (pre : List UInt8) (b : UInt8) (W : World) : (Instr.index 9 (.string (glued pre b)) (.int .i64 (pre.length : Int))).run Tryd.prog W = .ok (.int .u8 (b.toNat : Nat)) W := by
  rw [run_index_string W 9 (glued pre b) .i64 _ Tryd.underlying9, dif_pos ⟨by omega, by rw [glued_size]; omega⟩]
  congr 2
  have h : (pre ++ [b])[pre.length]? = some b := by simp
  have h2 : pre.length < (pre ++ [b]).length := by simp
  rw [List.getElem?_eq_getElem h2] at h
  have h3 := Option.some.inj h
  show ((((pre ++ [b]).toArray[((pre.length : Int)).toNat]'_ : UInt8).toNat : Nat) : Int) = _
  simp only [Int.toNat_natCast, List.getElem_toArray, h3]
theorem glued_ahead (pre : List UInt8) (b : UInt8) (W : World) : (Instr.slice 9 (.string (glued pre b)) none (some (.int .i64 (pre.length : Int))) none).run Tryd.prog W = .ok (.string ⟨pre.toArray⟩) W := by
  rw [run_slice_string_h (P := Tryd.prog) W 9 (glued pre b) Tryd.underlying9 .i64 _ (by omega) (by rw [glued_size]; omega)]
  congr 2
  apply ByteArray.ext
  rw [ByteArray.data_extract]
  show (pre ++ [b]).toArray.extract 0 ((pre.length : Int)).toNat = pre.toArray
  simp

end Go.Proofs.YtablpncipkbfhaaDoor.Cab
