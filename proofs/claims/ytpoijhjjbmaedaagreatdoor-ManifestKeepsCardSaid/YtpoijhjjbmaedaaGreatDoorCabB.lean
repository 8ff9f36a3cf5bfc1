/- Packed: Cab3 Cab4 CabAns -/
import Derived.Test.YtpoijhjjbmaedaaGreatDoorCabA
import Derived.Test.YtpoijhjjbmaedaaGreatDoorShelf
import Derived.IntWalk
import Derived.Lib.SmallJoins
set_option linter.unusedVariables false
set_option linter.unusedSimpArgs false
/- Cab3: The contracts of the cabin's functions, third part: Text, Parse. -/
section
namespace Go.Proofs.YtpoijhjjbmaedaaGreatDoor.Cab
open Go.RowKit

def lets : List UInt8 := [65, 66, 67, 68, 69, 70, 71, 72, 74, 75, 76, 77, 78, 79, 80, 81]
def cB (k : Nat) : UInt8 := lets.getD k 0
/-- a seat's name -/
def seatT (row col : Nat) : List UInt8 := Lib.decDigits (row + 1) ++ [cB col]
theorem cut16_all : ∀ k : Fin 16, (ByteArray.mk #[65, 66, 67, 68, 69, 70, 71, 72, 74, 75, 76, 77, 78, 79, 80, 81]).extract k.val (k.val + 1) = ⟨#[cB k.val]⟩ := by decide +kernel
theorem cut16 {k : Nat} (h : k < 16) : (ByteArray.mk #[65, 66, 67, 68, 69, 70, 71, 72, 74, 75, 76, 77, 78, 79, 80, 81]).extract k (k + 1) = ⟨#[cB k]⟩ := cut16_all ⟨k, h⟩
theorem glue1 (l : List UInt8) (b : UInt8) : (ByteArray.mk l.toArray) ++ (ByteArray.mk #[b]) = ⟨(l ++ [b]).toArray⟩ := by
  apply ByteArray.ext; rw [ByteArray.data_append]; simp

theorem dd_all : ∀ n : Fin 100, (Lib.decDigits n.val).length ≤ 2 ∧ Lib.atoi (Lib.decDigits n.val) = some (n.val : Int) ∧ 1 ≤ (Lib.decDigits n.val).length := by decide +kernel
theorem dd_len {n : Nat} (h : n < 100) : (Lib.decDigits n).length ≤ 2 := (dd_all ⟨n, h⟩).1

-- cabin.Text
set_option maxRecDepth 100000 in
set_option maxHeartbeats 1000000 in
theorem Text_yes (r wd : Int) (zs : List Int) (A : Option Addr) (c : Nat) (s : Int) (row col : Nat) (w : World) (hI : Ints w A zs) (hlen : zs.length ≤ 20000000000000) (hok : okC r wd zs = true) (hs0 : 0 ≤ s) (hs1 : s < r * wd) (hrow : s / wd = row) (hcol : s % wd = col) :
    Calls Tryz.prog 46 #[.agg #[.int .i64 r, .int .i64 wd, .slice A zs.length c], .int .i64 s] w fun e w' => e = .returned (.tuple #[.string ⟨(seatT row col).toArray⟩, .int .i64 0]) ∧ Below w.heap.size w w' := by
  have HI := Lib.hid (hI.keep (ext_alloc (Below.refl _ w) (.cells #[.int .i64 r, .int .i64 wd, .slice A zs.length c] 24)))
  have HOK := Lib.hid hok
  obtain ⟨⟨o1, o2, o3, o4⟩, _⟩ := okC_yes hok
  clear hI hok
  have hr : row < 64 := by
    have h1 : s / wd < r := Int.ediv_lt_of_lt_mul (by omega) hs1
    omega
  have hcl : col < 16 := by have := Int.emod_lt_of_pos s (show 0 < wd by omega); omega
  have hsl : ∀ W : World, (Instr.slice 9 (.string (ByteArray.mk #[65, 66, 67, 68, 69, 70, 71, 72, 74, 75, 76, 77, 78, 79, 80, 81])) (some (.int .i64 (col : Int))) (some (.int .i64 ((col : Int) + 1))) none).run Tryz.prog W = .ok (.string ⟨#[cB col]⟩) W := fun W => by
    have h16 : ((ByteArray.mk #[65, 66, 67, 68, 69, 70, 71, 72, 74, 75, 76, 77, 78, 79, 80, 81]).size : Int) = 16 := by decide
    have h := run_slice_string (P := Tryz.prog) W 9 (ByteArray.mk #[65, 66, 67, 68, 69, 70, 71, 72, 74, 75, 76, 77, 78, 79, 80, 81]) .i64 .i64 (col : Int) ((col : Int) + 1) Tryz.underlying9 (by omega) (by omega) (by rw [h16]; omega)
    rw [show ((col : Int) + 1).toNat = col + 1 from by omega, Int.toNat_natCast, cut16 hcl] at h
    exact h
  have HR := Lib.hid hrow; have HC := Lib.hid hcol
  have hq : ∀ W n, Calls Tryz.prog 71 #[.int .i64 ((row : Int) + 1)] (World.drewN W n) fun e w' => e = .returned (.string ⟨(Lib.decDigits (row + 1)).toArray⟩) ∧ w' = World.drewN W n := fun W n => by
    have := Tryz.strconv_Itoa_small (row + 1) (by omega) (World.drewN W n)
    rwa [show ((row + 1 : Nat) : Int) = (row : Int) + 1 from by omega] at this
  have HQ := Lib.hid hq
  have hdl := dd_len (show row + 1 < 100 by omega)
  have hdn : ¬ 9223372036854775807 < (Lib.decDigits (row + 1)).length + 1 := by omega
  clear hq hrow hcol
  go_enter Tryz.func46, Tryz.ntmps46
  go_wp2_with fail
  refine (Place_yes r wd zs A c s _ HI.out hlen HOK.out hs0 hs1).mono ?_
  rintro e w1 ⟨rfl, hb⟩
  have hbw := ext_trans (ext_alloc (Below.refl _ w) _) hb
  rw [HR.out, HC.out]
  clear hb hs0 hs1
  have v1 : IntKind.i64.wrap ((row : Int) + 1) = (row : Int) + 1 := IntWalk.i64_in _ (by omega)
  have v2 : IntKind.i64.wrap ((col : Int) + 1) = (col : Int) + 1 := IntWalk.i64_in _ (by omega)
  go_wp2_with fail
  refine wp_region_quiet_lit (by kernel_rfl) (by kernel_rfl) ?_
  repeat (first | go_big_quiet_step ((go_at_call 71; exact Calls.quiet_of_same (HQ.out _ _))) | quiet_step ((go_at_call 71; exact Calls.quiet_of_same (HQ.out _ _))))
  refine wpQuiet_nil ?_
  intro _ hw'
  obtain ⟨nq, hw''⟩ := hw'
  subst hw''
  go_wp2_with fail
  go_ret2
  exact ⟨by rw [seatT, ← glue1]; rfl, ext_drewN hbw _⟩

set_option maxRecDepth 100000 in
set_option maxHeartbeats 1000000 in
theorem Text_seat (r wd : Int) (zs : List Int) (A : Option Addr) (c : Nat) (s : Int) (w : World) (hI : Ints w A zs) (hlen : zs.length ≤ 20000000000000) (hok : okC r wd zs = true) (hs : s < 0 ∨ r * wd ≤ s) :
    Calls Tryz.prog 46 #[.agg #[.int .i64 r, .int .i64 wd, .slice A zs.length c], .int .i64 s] w fun e w' => e = .returned (.tuple #[.string ⟨#[]⟩, .int .i64 140]) ∧ Below w.heap.size w w' := by
  have HI := Lib.hid (hI.keep (ext_alloc (Below.refl _ w) (.cells #[.int .i64 r, .int .i64 wd, .slice A zs.length c] 24)))
  have HOK := Lib.hid hok
  clear hI hok
  go_enter Tryz.func46, Tryz.ntmps46
  go_wp2_with fail
  refine (Place_seat r wd zs A c s _ HI.out hlen HOK.out hs).mono ?_
  rintro e w1 ⟨rfl, hb⟩
  have hbw := ext_trans (ext_alloc (Below.refl _ w) _) hb
  go_wp2_with fail
  go_ret2
  exact ⟨rfl, hbw⟩

set_option maxRecDepth 100000 in
set_option maxHeartbeats 1000000 in
theorem Text_no (r wd : Int) (zs : List Int) (A : Option Addr) (c : Nat) (s : Int) (w : World) (hI : Ints w A zs) (hlen : zs.length ≤ 20000000000000) (hok : okC r wd zs = false) :
    Calls Tryz.prog 46 #[.agg #[.int .i64 r, .int .i64 wd, .slice A zs.length c], .int .i64 s] w fun e w' => e = .returned (.tuple #[.string ⟨#[]⟩, .int .i64 2]) ∧ Below w.heap.size w w' := by
  have HI := Lib.hid (hI.keep (ext_alloc (Below.refl _ w) (.cells #[.int .i64 r, .int .i64 wd, .slice A zs.length c] 24)))
  have HOK := Lib.hid hok
  clear hI hok
  go_enter Tryz.func46, Tryz.ntmps46
  go_wp2_with fail
  refine (Place_no r wd zs A c s _ HI.out hlen HOK.out).mono ?_
  rintro e w1 ⟨rfl, hb⟩
  have hbw := ext_trans (ext_alloc (Below.refl _ w) _) hb
  go_wp2_with fail
  go_ret2
  exact ⟨rfl, hbw⟩

/-- the error variable that strconv's errors name, as it lies when the call begins -/
def EV (w : World) : Prop := ∃ tp p, w.cell? ⟨2, 0, none⟩ = some (.iface tp p)
theorem EV.keep {w w' : World} (h : EV w) (hb : Below w.heap.size w w') : EV w' := by
  obtain ⟨tp, p, h⟩ := h
  exact ⟨tp, p, (hb.cell (p := ⟨2, 0, none⟩) (block_lt_of_cell h)).trans h⟩
/-- strconv.Atoi at a short text that is no numeral: some error; the world below is as it was -/
theorem atoi_bad (s : ByteArray) (hl : s.size ≤ 18) (h : Lib.atoi s.data.toList = none) (w : World) (hv : EV w) :
    Calls Tryz.prog 70 #[.string s] w fun e w' => ∃ T v, e = .returned (.tuple #[.int .i64 0, .iface T v]) ∧ Below w.heap.size w w' := by
  obtain ⟨tp, p, hv⟩ := hv
  exact (Tryz.strconv_Atoi_err s hl h (.iface tp p) w hv (.inr ⟨tp, p, rfl⟩)).mono fun e w' ⟨N, h1, _, _, hb⟩ => ⟨_, _, h1, hb⟩
theorem atoi_good (s : ByteArray) (n : Int) (hl : s.size ≤ 18) (h : Lib.atoi s.data.toList = some n) (w : World) :
    Calls Tryz.prog 70 #[.string s] w fun e w' => e = .returned (.tuple #[.int .i64 n, .nilIface]) ∧ Below w.heap.size w w' :=
  (Tryz.strconv_Atoi s n hl h w).mono fun e w' ⟨h1, t, h2⟩ => ⟨h1, by rw [h2]; exact Joins.below_bytesWorld _ _ _ _ (Nat.le_refl _)⟩

/-- where a letter stands among the first wd columns; -1: nowhere -/
def colI (wd : Int) (b : UInt8) : Int := Lib.indexByte (lets.take wd.toNat) b
theorem colI_all : ∀ k : Fin 17, ∀ b : Fin 256, -1 ≤ Lib.indexByte (lets.take k.val) (UInt8.ofNat b.val) ∧ Lib.indexByte (lets.take k.val) (UInt8.ofNat b.val) < k.val ∧ (0 ≤ Lib.indexByte (lets.take k.val) (UInt8.ofNat b.val) → cB (Lib.indexByte (lets.take k.val) (UInt8.ofNat b.val)).toNat = UInt8.ofNat b.val) := by decide +kernel
theorem colI_bd {wd : Int} (h1 : 1 ≤ wd) (h2 : wd ≤ 16) (b : UInt8) : -1 ≤ colI wd b ∧ colI wd b < wd ∧ (0 ≤ colI wd b → cB (colI wd b).toNat = b) := by
  have h := colI_all ⟨wd.toNat, by omega⟩ ⟨b.toNat, b.toNat_lt⟩
  simp only [UInt8.ofNat_toNat] at h
  unfold colI
  refine ⟨h.1, by have := h.2.1; omega, h.2.2⟩

/-- a text by what stands ahead of its last byte, and that byte -/
def glued (pre : List UInt8) (b : UInt8) : ByteArray := ⟨(pre ++ [b]).toArray⟩
theorem glued_size (pre : List UInt8) (b : UInt8) : (glued pre b).size = pre.length + 1 := by
  show (pre ++ [b]).toArray.size = _; simp
theorem glued_last (pre : List UInt8) (b : UInt8) (W : World) : (Instr.index 9 (.string (glued pre b)) (.int .i64 (pre.length : Int))).run Tryz.prog W = .ok (.int .u8 (b.toNat : Nat)) W := by
  rw [run_index_string W 9 (glued pre b) .i64 _ Tryz.underlying9, dif_pos ⟨by omega, by rw [glued_size]; omega⟩]
  congr 2
  have h : (pre ++ [b])[pre.length]? = some b := by simp
  have h2 : pre.length < (pre ++ [b]).length := by simp
  rw [List.getElem?_eq_getElem h2] at h
  have h3 := Option.some.inj h
  show ((((pre ++ [b]).toArray[((pre.length : Int)).toNat]'_ : UInt8).toNat : Nat) : Int) = _
  simp only [Int.toNat_natCast, List.getElem_toArray, h3]
theorem glued_ahead (pre : List UInt8) (b : UInt8) (W : World) : (Instr.slice 9 (.string (glued pre b)) none (some (.int .i64 (pre.length : Int))) none).run Tryz.prog W = .ok (.string ⟨pre.toArray⟩) W := by
  rw [run_slice_string_h (P := Tryz.prog) W 9 (glued pre b) Tryz.underlying9 .i64 _ (by omega) (by rw [glued_size]; omega)]
  congr 2
  apply ByteArray.ext
  rw [ByteArray.data_extract]
  show (pre ++ [b]).toArray.extract 0 ((pre.length : Int)).toNat = pre.toArray
  simp

end Go.Proofs.YtpoijhjjbmaedaaGreatDoor.Cab
end

/- Cab4: The contract of cabin.Parse, way by way. -/
section
namespace Go.Proofs.YtpoijhjjbmaedaaGreatDoor.Cab
open Go.RowKit

set_option maxRecDepth 100000 in
set_option maxHeartbeats 1000000 in
theorem Parse_syn (r wd : Int) (zs : List Int) (A : Option Addr) (c : Nat) (pre : List UInt8) (b : UInt8) (w : World) (hI : Ints w A zs) (hlen : zs.length ≤ 20000000000000) (hok : okC r wd zs = true) (hp1 : 1 ≤ pre.length) (hp2 : pre.length ≤ 2) (hev : EV w) (hat : Lib.atoi pre = none) :
    Calls Tryz.prog 35 #[.agg #[.int .i64 r, .int .i64 wd, .slice A zs.length c], .string (glued pre b)] w fun e w' => e = .returned (.tuple #[.int .i64 0, .int .i64 140]) ∧ Below w.heap.size w w' := by
  have HI := Lib.hid (hI.keep (ext_alloc (Below.refl _ w) (.cells #[.int .i64 r, .int .i64 wd, .slice A zs.length c] 24)))
  have HOK := Lib.hid hok
  obtain ⟨⟨o1, o2, o3, o4⟩, _⟩ := okC_yes hok
  have HEV := Lib.hid hev
  clear hI hok hev
  obtain ⟨S, hS⟩ : ∃ S, glued pre b = S := ⟨_, rfl⟩
  have hsz : (S.size : Int) = (pre.length : Int) + 1 := by rw [← hS, glued_size]; omega
  have hix := glued_last pre b
  have hsx := glued_ahead pre b
  rw [hS] at hix hsx ⊢
  obtain ⟨m, hm⟩ : ∃ m, pre.length = m := ⟨_, rfl⟩
  rw [hm] at hp1 hp2 hsz hix hsx
  have HM := Lib.hid hm; have HS := Lib.hid hS
  clear hm hS
  obtain ⟨ci, hci⟩ : ∃ ci, colI wd b = ci := ⟨_, rfl⟩
  have hbd := colI_bd (by omega) o4 b
  rw [hci] at hbd
  obtain ⟨hc1, hc2, _⟩ := hbd
  have hlet : ∀ W : World, (Instr.slice 9 (.string (ByteArray.mk #[65, 66, 67, 68, 69, 70, 71, 72, 74, 75, 76, 77, 78, 79, 80, 81])) none (some (.int .i64 wd)) none).run Tryz.prog W = .ok (.string ⟨(lets.take wd.toNat).toArray⟩) W := fun W => by
    have h16 : ((ByteArray.mk #[65, 66, 67, 68, 69, 70, 71, 72, 74, 75, 76, 77, 78, 79, 80, 81]).size : Int) = 16 := by decide
    rw [run_slice_string_h (P := Tryz.prog) W 9 (ByteArray.mk #[65, 66, 67, 68, 69, 70, 71, 72, 74, 75, 76, 77, 78, 79, 80, 81]) Tryz.underlying9 .i64 _ (by omega) (by rw [h16]; omega)]
    congr 2
    apply ByteArray.ext
    rw [ByteArray.data_extract]
    show (lets.toArray).extract 0 wd.toNat = _
    simp
  have hidx : ∀ W n, Calls Tryz.prog 69 #[.string ⟨(lets.take wd.toNat).toArray⟩, .int .u8 (b.toNat : Nat)] (World.drewN W n) fun e w' => e = .returned (.int .i64 ci) ∧ w' = World.drewN W n := fun W n =>
    (Tryz.strings_IndexByte _ (b.toNat : Nat) _).mono fun e w' ⟨h1, h2⟩ => ⟨by rw [h1, ← hci]; unfold colI; congr 3; simp, h2⟩
  have HIDX := Lib.hid hidx
  have HCI := Lib.hid hci
  clear hidx hci
  have v1 : IntKind.i64.wrap ((m : Int) + 1 - 1) = (m : Int) := by rw [show (m : Int) + 1 - 1 = (m : Int) from by omega]; exact IntWalk.i64_in _ (by omega)
  have HAT := Lib.hid hat; clear hat
  go_enter Tryz.func35, Tryz.ntmps35
  go_wp2_with fail
  refine (Check_yes r wd zs A c _ HI.out hlen HOK.out).mono ?_
  rintro e w1 ⟨rfl, hb⟩
  have hbw := ext_trans (ext_alloc (Below.refl _ w) _) hb
  have x0 : w1.cell? ⟨w.heap.size, 0, none⟩ = some (.int .i64 r) := by
    rw [hb.cell (p := ⟨w.heap.size, 0, none⟩) (by simp)]; simp
  have x1 : w1.cell? ⟨w.heap.size, 1, none⟩ = some (.int .i64 wd) := by
    rw [hb.cell (p := ⟨w.heap.size, 1, none⟩) (by simp)]; simp
  have hz1 : w.heap.size < w1.heap.size := by have := hb.size; simp at this; omega
  clear hb
  go_wp2_with fail
  refine wp_region_quiet_lit (by kernel_rfl) (by kernel_rfl) ?_
  repeat (first | go_big_quiet_step ((go_at_call 69; exact Calls.quiet_of_same (HIDX.out _ _))) | quiet_step ((go_at_call 69; exact Calls.quiet_of_same (HIDX.out _ _))))
  refine wpQuiet_nil ?_
  intro _ hw'
  obtain ⟨nq, hw''⟩ := hw'
  subst hw''
  go_wp2_with fail
  have hsz2 : (ByteArray.mk pre.toArray).size ≤ 18 := by show pre.toArray.size ≤ 18; rw [List.size_toArray, HM.out]; omega
  refine (atoi_bad ⟨pre.toArray⟩ hsz2 HAT.out _ (HEV.out.keep (ext_drewN hbw nq))).mono ?_
  rintro e w2 ⟨T, u, rfl, hb2⟩
  have hbx := ext_trans (ext_drewN hbw nq) hb2
  have y0 : w2.cell? ⟨w.heap.size, 0, none⟩ = some (.int .i64 r) := by
    rw [hb2.cell (p := ⟨w.heap.size, 0, none⟩) hz1]; exact x0
  have y1 : w2.cell? ⟨w.heap.size, 1, none⟩ = some (.int .i64 wd) := by
    rw [hb2.cell (p := ⟨w.heap.size, 1, none⟩) hz1]; exact x1
  clear hb2 hsz2
  go_wp2_with fail
  refine wp_region_quiet_lit (by kernel_rfl) (by kernel_rfl) ?_
  repeat (first | go_big_quiet_step ((fail)) | quiet_step ((fail)))
  refine wpQuiet_nil ?_
  intro _ hw'
  obtain ⟨nq, hw''⟩ := hw'
  subst hw''
  go_wp2_with fail
  go_ret2
  exact ⟨rfl, ext_drewN hbx _⟩

set_option maxRecDepth 100000 in
set_option maxHeartbeats 1000000 in
theorem Parse_col (r wd : Int) (zs : List Int) (A : Option Addr) (c : Nat) (pre : List UInt8) (b : UInt8) (n : Int) (w : World) (hI : Ints w A zs) (hlen : zs.length ≤ 20000000000000) (hok : okC r wd zs = true) (hp1 : 1 ≤ pre.length) (hp2 : pre.length ≤ 2) (hev : EV w) (hat : Lib.atoi pre = some n) (hneg : colI wd b < 0) :
    Calls Tryz.prog 35 #[.agg #[.int .i64 r, .int .i64 wd, .slice A zs.length c], .string (glued pre b)] w fun e w' => e = .returned (.tuple #[.int .i64 0, .int .i64 140]) ∧ Below w.heap.size w w' := by
  have HI := Lib.hid (hI.keep (ext_alloc (Below.refl _ w) (.cells #[.int .i64 r, .int .i64 wd, .slice A zs.length c] 24)))
  have HOK := Lib.hid hok
  obtain ⟨⟨o1, o2, o3, o4⟩, _⟩ := okC_yes hok
  have HEV := Lib.hid hev
  clear hI hok hev
  obtain ⟨S, hS⟩ : ∃ S, glued pre b = S := ⟨_, rfl⟩
  have hsz : (S.size : Int) = (pre.length : Int) + 1 := by rw [← hS, glued_size]; omega
  have hix := glued_last pre b
  have hsx := glued_ahead pre b
  rw [hS] at hix hsx ⊢
  obtain ⟨m, hm⟩ : ∃ m, pre.length = m := ⟨_, rfl⟩
  rw [hm] at hp1 hp2 hsz hix hsx
  have HM := Lib.hid hm; have HS := Lib.hid hS
  clear hm hS
  obtain ⟨ci, hci⟩ : ∃ ci, colI wd b = ci := ⟨_, rfl⟩
  have hbd := colI_bd (by omega) o4 b
  rw [hci] at hbd
  obtain ⟨hc1, hc2, _⟩ := hbd
  have hlet : ∀ W : World, (Instr.slice 9 (.string (ByteArray.mk #[65, 66, 67, 68, 69, 70, 71, 72, 74, 75, 76, 77, 78, 79, 80, 81])) none (some (.int .i64 wd)) none).run Tryz.prog W = .ok (.string ⟨(lets.take wd.toNat).toArray⟩) W := fun W => by
    have h16 : ((ByteArray.mk #[65, 66, 67, 68, 69, 70, 71, 72, 74, 75, 76, 77, 78, 79, 80, 81]).size : Int) = 16 := by decide
    rw [run_slice_string_h (P := Tryz.prog) W 9 (ByteArray.mk #[65, 66, 67, 68, 69, 70, 71, 72, 74, 75, 76, 77, 78, 79, 80, 81]) Tryz.underlying9 .i64 _ (by omega) (by rw [h16]; omega)]
    congr 2
    apply ByteArray.ext
    rw [ByteArray.data_extract]
    show (lets.toArray).extract 0 wd.toNat = _
    simp
  have hidx : ∀ W n, Calls Tryz.prog 69 #[.string ⟨(lets.take wd.toNat).toArray⟩, .int .u8 (b.toNat : Nat)] (World.drewN W n) fun e w' => e = .returned (.int .i64 ci) ∧ w' = World.drewN W n := fun W n =>
    (Tryz.strings_IndexByte _ (b.toNat : Nat) _).mono fun e w' ⟨h1, h2⟩ => ⟨by rw [h1, ← hci]; unfold colI; congr 3; simp, h2⟩
  have HIDX := Lib.hid hidx
  have HCI := Lib.hid hci
  clear hidx hci
  have v1 : IntKind.i64.wrap ((m : Int) + 1 - 1) = (m : Int) := by rw [show (m : Int) + 1 - 1 = (m : Int) from by omega]; exact IntWalk.i64_in _ (by omega)
  have HAT := Lib.hid hat; clear hat
  rw [HCI.out] at hneg
  go_enter Tryz.func35, Tryz.ntmps35
  go_wp2_with fail
  refine (Check_yes r wd zs A c _ HI.out hlen HOK.out).mono ?_
  rintro e w1 ⟨rfl, hb⟩
  have hbw := ext_trans (ext_alloc (Below.refl _ w) _) hb
  have x0 : w1.cell? ⟨w.heap.size, 0, none⟩ = some (.int .i64 r) := by
    rw [hb.cell (p := ⟨w.heap.size, 0, none⟩) (by simp)]; simp
  have x1 : w1.cell? ⟨w.heap.size, 1, none⟩ = some (.int .i64 wd) := by
    rw [hb.cell (p := ⟨w.heap.size, 1, none⟩) (by simp)]; simp
  have hz1 : w.heap.size < w1.heap.size := by have := hb.size; simp at this; omega
  clear hb
  go_wp2_with fail
  refine wp_region_quiet_lit (by kernel_rfl) (by kernel_rfl) ?_
  repeat (first | go_big_quiet_step ((go_at_call 69; exact Calls.quiet_of_same (HIDX.out _ _))) | quiet_step ((go_at_call 69; exact Calls.quiet_of_same (HIDX.out _ _))))
  refine wpQuiet_nil ?_
  intro _ hw'
  obtain ⟨nq, hw''⟩ := hw'
  subst hw''
  go_wp2_with fail
  have hsz2 : (ByteArray.mk pre.toArray).size ≤ 18 := by show pre.toArray.size ≤ 18; rw [List.size_toArray, HM.out]; omega
  refine (atoi_good ⟨pre.toArray⟩ n hsz2 HAT.out _).mono ?_
  rintro e w2 ⟨rfl, hb2⟩
  have hbx := ext_trans (ext_drewN hbw nq) hb2
  have y0 : w2.cell? ⟨w.heap.size, 0, none⟩ = some (.int .i64 r) := by
    rw [hb2.cell (p := ⟨w.heap.size, 0, none⟩) hz1]; exact x0
  have y1 : w2.cell? ⟨w.heap.size, 1, none⟩ = some (.int .i64 wd) := by
    rw [hb2.cell (p := ⟨w.heap.size, 1, none⟩) hz1]; exact x1
  clear hb2 hsz2
  go_wp2_with fail
  refine wp_region_quiet_lit (by kernel_rfl) (by kernel_rfl) ?_
  repeat (first | go_big_quiet_step ((fail)) | quiet_step ((fail)))
  refine wpQuiet_nil ?_
  intro _ hw'
  obtain ⟨nq, hw''⟩ := hw'
  subst hw''
  go_wp2_with fail
  go_ret2
  exact ⟨rfl, ext_drewN hbx _⟩

set_option maxRecDepth 100000 in
set_option maxHeartbeats 1000000 in
theorem Parse_lo (r wd : Int) (zs : List Int) (A : Option Addr) (c : Nat) (pre : List UInt8) (b : UInt8) (n : Int) (w : World) (hI : Ints w A zs) (hlen : zs.length ≤ 20000000000000) (hok : okC r wd zs = true) (hp1 : 1 ≤ pre.length) (hp2 : pre.length ≤ 2) (hev : EV w) (hat : Lib.atoi pre = some n) (hneg : 0 ≤ colI wd b) (hn : n < 1) :
    Calls Tryz.prog 35 #[.agg #[.int .i64 r, .int .i64 wd, .slice A zs.length c], .string (glued pre b)] w fun e w' => e = .returned (.tuple #[.int .i64 0, .int .i64 140]) ∧ Below w.heap.size w w' := by
  have HI := Lib.hid (hI.keep (ext_alloc (Below.refl _ w) (.cells #[.int .i64 r, .int .i64 wd, .slice A zs.length c] 24)))
  have HOK := Lib.hid hok
  obtain ⟨⟨o1, o2, o3, o4⟩, _⟩ := okC_yes hok
  have HEV := Lib.hid hev
  clear hI hok hev
  obtain ⟨S, hS⟩ : ∃ S, glued pre b = S := ⟨_, rfl⟩
  have hsz : (S.size : Int) = (pre.length : Int) + 1 := by rw [← hS, glued_size]; omega
  have hix := glued_last pre b
  have hsx := glued_ahead pre b
  rw [hS] at hix hsx ⊢
  obtain ⟨m, hm⟩ : ∃ m, pre.length = m := ⟨_, rfl⟩
  rw [hm] at hp1 hp2 hsz hix hsx
  have HM := Lib.hid hm; have HS := Lib.hid hS
  clear hm hS
  obtain ⟨ci, hci⟩ : ∃ ci, colI wd b = ci := ⟨_, rfl⟩
  have hbd := colI_bd (by omega) o4 b
  rw [hci] at hbd
  obtain ⟨hc1, hc2, _⟩ := hbd
  have hlet : ∀ W : World, (Instr.slice 9 (.string (ByteArray.mk #[65, 66, 67, 68, 69, 70, 71, 72, 74, 75, 76, 77, 78, 79, 80, 81])) none (some (.int .i64 wd)) none).run Tryz.prog W = .ok (.string ⟨(lets.take wd.toNat).toArray⟩) W := fun W => by
    have h16 : ((ByteArray.mk #[65, 66, 67, 68, 69, 70, 71, 72, 74, 75, 76, 77, 78, 79, 80, 81]).size : Int) = 16 := by decide
    rw [run_slice_string_h (P := Tryz.prog) W 9 (ByteArray.mk #[65, 66, 67, 68, 69, 70, 71, 72, 74, 75, 76, 77, 78, 79, 80, 81]) Tryz.underlying9 .i64 _ (by omega) (by rw [h16]; omega)]
    congr 2
    apply ByteArray.ext
    rw [ByteArray.data_extract]
    show (lets.toArray).extract 0 wd.toNat = _
    simp
  have hidx : ∀ W n, Calls Tryz.prog 69 #[.string ⟨(lets.take wd.toNat).toArray⟩, .int .u8 (b.toNat : Nat)] (World.drewN W n) fun e w' => e = .returned (.int .i64 ci) ∧ w' = World.drewN W n := fun W n =>
    (Tryz.strings_IndexByte _ (b.toNat : Nat) _).mono fun e w' ⟨h1, h2⟩ => ⟨by rw [h1, ← hci]; unfold colI; congr 3; simp, h2⟩
  have HIDX := Lib.hid hidx
  have HCI := Lib.hid hci
  clear hidx hci
  have v1 : IntKind.i64.wrap ((m : Int) + 1 - 1) = (m : Int) := by rw [show (m : Int) + 1 - 1 = (m : Int) from by omega]; exact IntWalk.i64_in _ (by omega)
  have HAT := Lib.hid hat; clear hat
  rw [HCI.out] at hneg
  go_enter Tryz.func35, Tryz.ntmps35
  go_wp2_with fail
  refine (Check_yes r wd zs A c _ HI.out hlen HOK.out).mono ?_
  rintro e w1 ⟨rfl, hb⟩
  have hbw := ext_trans (ext_alloc (Below.refl _ w) _) hb
  have x0 : w1.cell? ⟨w.heap.size, 0, none⟩ = some (.int .i64 r) := by
    rw [hb.cell (p := ⟨w.heap.size, 0, none⟩) (by simp)]; simp
  have x1 : w1.cell? ⟨w.heap.size, 1, none⟩ = some (.int .i64 wd) := by
    rw [hb.cell (p := ⟨w.heap.size, 1, none⟩) (by simp)]; simp
  have hz1 : w.heap.size < w1.heap.size := by have := hb.size; simp at this; omega
  clear hb
  go_wp2_with fail
  refine wp_region_quiet_lit (by kernel_rfl) (by kernel_rfl) ?_
  repeat (first | go_big_quiet_step ((go_at_call 69; exact Calls.quiet_of_same (HIDX.out _ _))) | quiet_step ((go_at_call 69; exact Calls.quiet_of_same (HIDX.out _ _))))
  refine wpQuiet_nil ?_
  intro _ hw'
  obtain ⟨nq, hw''⟩ := hw'
  subst hw''
  go_wp2_with fail
  have hsz2 : (ByteArray.mk pre.toArray).size ≤ 18 := by show pre.toArray.size ≤ 18; rw [List.size_toArray, HM.out]; omega
  refine (atoi_good ⟨pre.toArray⟩ n hsz2 HAT.out _).mono ?_
  rintro e w2 ⟨rfl, hb2⟩
  have hbx := ext_trans (ext_drewN hbw nq) hb2
  have y0 : w2.cell? ⟨w.heap.size, 0, none⟩ = some (.int .i64 r) := by
    rw [hb2.cell (p := ⟨w.heap.size, 0, none⟩) hz1]; exact x0
  have y1 : w2.cell? ⟨w.heap.size, 1, none⟩ = some (.int .i64 wd) := by
    rw [hb2.cell (p := ⟨w.heap.size, 1, none⟩) hz1]; exact x1
  clear hb2 hsz2
  go_wp2_with fail
  refine wp_region_quiet_lit (by kernel_rfl) (by kernel_rfl) ?_
  repeat (first | go_big_quiet_step ((fail)) | quiet_step ((fail)))
  refine wpQuiet_nil ?_
  intro _ hw'
  obtain ⟨nq, hw''⟩ := hw'
  subst hw''
  go_wp2_with fail
  go_ret2
  exact ⟨rfl, ext_drewN hbx _⟩

set_option maxRecDepth 100000 in
set_option maxHeartbeats 1000000 in
theorem Parse_hi (r wd : Int) (zs : List Int) (A : Option Addr) (c : Nat) (pre : List UInt8) (b : UInt8) (n : Int) (w : World) (hI : Ints w A zs) (hlen : zs.length ≤ 20000000000000) (hok : okC r wd zs = true) (hp1 : 1 ≤ pre.length) (hp2 : pre.length ≤ 2) (hev : EV w) (hat : Lib.atoi pre = some n) (hneg : 0 ≤ colI wd b) (hn : r < n) :
    Calls Tryz.prog 35 #[.agg #[.int .i64 r, .int .i64 wd, .slice A zs.length c], .string (glued pre b)] w fun e w' => e = .returned (.tuple #[.int .i64 0, .int .i64 140]) ∧ Below w.heap.size w w' := by
  have HI := Lib.hid (hI.keep (ext_alloc (Below.refl _ w) (.cells #[.int .i64 r, .int .i64 wd, .slice A zs.length c] 24)))
  have HOK := Lib.hid hok
  obtain ⟨⟨o1, o2, o3, o4⟩, _⟩ := okC_yes hok
  have HEV := Lib.hid hev
  clear hI hok hev
  obtain ⟨S, hS⟩ : ∃ S, glued pre b = S := ⟨_, rfl⟩
  have hsz : (S.size : Int) = (pre.length : Int) + 1 := by rw [← hS, glued_size]; omega
  have hix := glued_last pre b
  have hsx := glued_ahead pre b
  rw [hS] at hix hsx ⊢
  obtain ⟨m, hm⟩ : ∃ m, pre.length = m := ⟨_, rfl⟩
  rw [hm] at hp1 hp2 hsz hix hsx
  have HM := Lib.hid hm; have HS := Lib.hid hS
  clear hm hS
  obtain ⟨ci, hci⟩ : ∃ ci, colI wd b = ci := ⟨_, rfl⟩
  have hbd := colI_bd (by omega) o4 b
  rw [hci] at hbd
  obtain ⟨hc1, hc2, _⟩ := hbd
  have hlet : ∀ W : World, (Instr.slice 9 (.string (ByteArray.mk #[65, 66, 67, 68, 69, 70, 71, 72, 74, 75, 76, 77, 78, 79, 80, 81])) none (some (.int .i64 wd)) none).run Tryz.prog W = .ok (.string ⟨(lets.take wd.toNat).toArray⟩) W := fun W => by
    have h16 : ((ByteArray.mk #[65, 66, 67, 68, 69, 70, 71, 72, 74, 75, 76, 77, 78, 79, 80, 81]).size : Int) = 16 := by decide
    rw [run_slice_string_h (P := Tryz.prog) W 9 (ByteArray.mk #[65, 66, 67, 68, 69, 70, 71, 72, 74, 75, 76, 77, 78, 79, 80, 81]) Tryz.underlying9 .i64 _ (by omega) (by rw [h16]; omega)]
    congr 2
    apply ByteArray.ext
    rw [ByteArray.data_extract]
    show (lets.toArray).extract 0 wd.toNat = _
    simp
  have hidx : ∀ W n, Calls Tryz.prog 69 #[.string ⟨(lets.take wd.toNat).toArray⟩, .int .u8 (b.toNat : Nat)] (World.drewN W n) fun e w' => e = .returned (.int .i64 ci) ∧ w' = World.drewN W n := fun W n =>
    (Tryz.strings_IndexByte _ (b.toNat : Nat) _).mono fun e w' ⟨h1, h2⟩ => ⟨by rw [h1, ← hci]; unfold colI; congr 3; simp, h2⟩
  have HIDX := Lib.hid hidx
  have HCI := Lib.hid hci
  clear hidx hci
  have v1 : IntKind.i64.wrap ((m : Int) + 1 - 1) = (m : Int) := by rw [show (m : Int) + 1 - 1 = (m : Int) from by omega]; exact IntWalk.i64_in _ (by omega)
  have HAT := Lib.hid hat; clear hat
  rw [HCI.out] at hneg
  have hd1 : decide (ci < 0) = false := by rw [decide_eq_false_iff_not]; omega
  have hd2 : decide (n < 1) = false := by rw [decide_eq_false_iff_not]; omega
  have hd3 : decide (r < n) = true := by rw [decide_eq_true_iff]; omega
  go_enter Tryz.func35, Tryz.ntmps35
  go_wp2_with fail
  refine (Check_yes r wd zs A c _ HI.out hlen HOK.out).mono ?_
  rintro e w1 ⟨rfl, hb⟩
  have hbw := ext_trans (ext_alloc (Below.refl _ w) _) hb
  have x0 : w1.cell? ⟨w.heap.size, 0, none⟩ = some (.int .i64 r) := by
    rw [hb.cell (p := ⟨w.heap.size, 0, none⟩) (by simp)]; simp
  have x1 : w1.cell? ⟨w.heap.size, 1, none⟩ = some (.int .i64 wd) := by
    rw [hb.cell (p := ⟨w.heap.size, 1, none⟩) (by simp)]; simp
  have hz1 : w.heap.size < w1.heap.size := by have := hb.size; simp at this; omega
  clear hb
  go_wp2_with fail
  refine wp_region_quiet_lit (by kernel_rfl) (by kernel_rfl) ?_
  repeat (first | go_big_quiet_step ((go_at_call 69; exact Calls.quiet_of_same (HIDX.out _ _))) | quiet_step ((go_at_call 69; exact Calls.quiet_of_same (HIDX.out _ _))))
  refine wpQuiet_nil ?_
  intro _ hw'
  obtain ⟨nq, hw''⟩ := hw'
  subst hw''
  go_wp2_with fail
  have hsz2 : (ByteArray.mk pre.toArray).size ≤ 18 := by show pre.toArray.size ≤ 18; rw [List.size_toArray, HM.out]; omega
  refine (atoi_good ⟨pre.toArray⟩ n hsz2 HAT.out _).mono ?_
  rintro e w2 ⟨rfl, hb2⟩
  have hbx := ext_trans (ext_drewN hbw nq) hb2
  have y0 : w2.cell? ⟨w.heap.size, 0, none⟩ = some (.int .i64 r) := by
    rw [hb2.cell (p := ⟨w.heap.size, 0, none⟩) hz1]; exact x0
  have y1 : w2.cell? ⟨w.heap.size, 1, none⟩ = some (.int .i64 wd) := by
    rw [hb2.cell (p := ⟨w.heap.size, 1, none⟩) hz1]; exact x1
  clear hb2 hsz2
  go_wp2_with fail
  refine wp_region_quiet_lit (by kernel_rfl) (by kernel_rfl) ?_
  repeat (first | go_big_quiet_step ((fail)) | quiet_step ((fail)))
  refine wpQuiet_nil ?_
  intro _ hw'
  obtain ⟨nq, hw''⟩ := hw'
  subst hw''
  go_wp2_with fail
  go_ret2
  exact ⟨rfl, ext_drewN hbx _⟩

set_option maxRecDepth 100000 in
set_option maxHeartbeats 1000000 in
theorem Parse_not (r wd : Int) (zs : List Int) (A : Option Addr) (c : Nat) (pre : List UInt8) (b : UInt8) (n : Int) (w : World) (hI : Ints w A zs) (hlen : zs.length ≤ 20000000000000) (hok : okC r wd zs = true) (hp1 : 1 ≤ pre.length) (hp2 : pre.length ≤ 2) (hev : EV w) (hat : Lib.atoi pre = some n) (hneg : 0 ≤ colI wd b) (hn : 1 ≤ n) (hn2 : n ≤ r) (hne : Lib.decDigits n.toNat ≠ pre) :
    Calls Tryz.prog 35 #[.agg #[.int .i64 r, .int .i64 wd, .slice A zs.length c], .string (glued pre b)] w fun e w' => e = .returned (.tuple #[.int .i64 0, .int .i64 140]) ∧ Below w.heap.size w w' := by
  have HI := Lib.hid (hI.keep (ext_alloc (Below.refl _ w) (.cells #[.int .i64 r, .int .i64 wd, .slice A zs.length c] 24)))
  have HOK := Lib.hid hok
  obtain ⟨⟨o1, o2, o3, o4⟩, _⟩ := okC_yes hok
  have HEV := Lib.hid hev
  clear hI hok hev
  obtain ⟨S, hS⟩ : ∃ S, glued pre b = S := ⟨_, rfl⟩
  have hsz : (S.size : Int) = (pre.length : Int) + 1 := by rw [← hS, glued_size]; omega
  have hix := glued_last pre b
  have hsx := glued_ahead pre b
  rw [hS] at hix hsx ⊢
  obtain ⟨m, hm⟩ : ∃ m, pre.length = m := ⟨_, rfl⟩
  rw [hm] at hp1 hp2 hsz hix hsx
  have HM := Lib.hid hm; have HS := Lib.hid hS
  clear hm hS
  obtain ⟨ci, hci⟩ : ∃ ci, colI wd b = ci := ⟨_, rfl⟩
  have hbd := colI_bd (by omega) o4 b
  rw [hci] at hbd
  obtain ⟨hc1, hc2, _⟩ := hbd
  have hlet : ∀ W : World, (Instr.slice 9 (.string (ByteArray.mk #[65, 66, 67, 68, 69, 70, 71, 72, 74, 75, 76, 77, 78, 79, 80, 81])) none (some (.int .i64 wd)) none).run Tryz.prog W = .ok (.string ⟨(lets.take wd.toNat).toArray⟩) W := fun W => by
    have h16 : ((ByteArray.mk #[65, 66, 67, 68, 69, 70, 71, 72, 74, 75, 76, 77, 78, 79, 80, 81]).size : Int) = 16 := by decide
    rw [run_slice_string_h (P := Tryz.prog) W 9 (ByteArray.mk #[65, 66, 67, 68, 69, 70, 71, 72, 74, 75, 76, 77, 78, 79, 80, 81]) Tryz.underlying9 .i64 _ (by omega) (by rw [h16]; omega)]
    congr 2
    apply ByteArray.ext
    rw [ByteArray.data_extract]
    show (lets.toArray).extract 0 wd.toNat = _
    simp
  have hidx : ∀ W n, Calls Tryz.prog 69 #[.string ⟨(lets.take wd.toNat).toArray⟩, .int .u8 (b.toNat : Nat)] (World.drewN W n) fun e w' => e = .returned (.int .i64 ci) ∧ w' = World.drewN W n := fun W n =>
    (Tryz.strings_IndexByte _ (b.toNat : Nat) _).mono fun e w' ⟨h1, h2⟩ => ⟨by rw [h1, ← hci]; unfold colI; congr 3; simp, h2⟩
  have HIDX := Lib.hid hidx
  have HCI := Lib.hid hci
  clear hidx hci
  have v1 : IntKind.i64.wrap ((m : Int) + 1 - 1) = (m : Int) := by rw [show (m : Int) + 1 - 1 = (m : Int) from by omega]; exact IntWalk.i64_in _ (by omega)
  have HAT := Lib.hid hat; clear hat
  rw [HCI.out] at hneg
  have hnb : (Lib.decDigits n.toNat == pre) = false := by simpa using hne
  clear hne
  have HQ : ∀ W n', Calls Tryz.prog 71 #[.int .i64 n] (World.drewN W n') fun e w' => e = .returned (.string ⟨(Lib.decDigits n.toNat).toArray⟩) ∧ w' = World.drewN W n' := fun W n' => by
    have h := Tryz.strconv_Itoa_small n.toNat (by omega) (World.drewN W n')
    rwa [show ((n.toNat : Nat) : Int) = n from by omega] at h
  have HQ := Lib.hid HQ
  have hd1 : decide (ci < 0) = false := by rw [decide_eq_false_iff_not]; omega
  have hd2 : decide (n < 1) = false := by rw [decide_eq_false_iff_not]; omega
  have hd3 : decide (r < n) = false := by rw [decide_eq_false_iff_not]; omega
  go_enter Tryz.func35, Tryz.ntmps35
  go_wp2_with fail
  refine (Check_yes r wd zs A c _ HI.out hlen HOK.out).mono ?_
  rintro e w1 ⟨rfl, hb⟩
  have hbw := ext_trans (ext_alloc (Below.refl _ w) _) hb
  have x0 : w1.cell? ⟨w.heap.size, 0, none⟩ = some (.int .i64 r) := by
    rw [hb.cell (p := ⟨w.heap.size, 0, none⟩) (by simp)]; simp
  have x1 : w1.cell? ⟨w.heap.size, 1, none⟩ = some (.int .i64 wd) := by
    rw [hb.cell (p := ⟨w.heap.size, 1, none⟩) (by simp)]; simp
  have hz1 : w.heap.size < w1.heap.size := by have := hb.size; simp at this; omega
  clear hb
  go_wp2_with fail
  refine wp_region_quiet_lit (by kernel_rfl) (by kernel_rfl) ?_
  repeat (first | go_big_quiet_step ((go_at_call 69; exact Calls.quiet_of_same (HIDX.out _ _))) | quiet_step ((go_at_call 69; exact Calls.quiet_of_same (HIDX.out _ _))))
  refine wpQuiet_nil ?_
  intro _ hw'
  obtain ⟨nq, hw''⟩ := hw'
  subst hw''
  go_wp2_with fail
  have hsz2 : (ByteArray.mk pre.toArray).size ≤ 18 := by show pre.toArray.size ≤ 18; rw [List.size_toArray, HM.out]; omega
  refine (atoi_good ⟨pre.toArray⟩ n hsz2 HAT.out _).mono ?_
  rintro e w2 ⟨rfl, hb2⟩
  have hbx := ext_trans (ext_drewN hbw nq) hb2
  have y0 : w2.cell? ⟨w.heap.size, 0, none⟩ = some (.int .i64 r) := by
    rw [hb2.cell (p := ⟨w.heap.size, 0, none⟩) hz1]; exact x0
  have y1 : w2.cell? ⟨w.heap.size, 1, none⟩ = some (.int .i64 wd) := by
    rw [hb2.cell (p := ⟨w.heap.size, 1, none⟩) hz1]; exact x1
  clear hb2 hsz2
  go_wp2_with fail
  refine wp_region_quiet_lit (by kernel_rfl) (by kernel_rfl) ?_
  repeat (first | go_big_quiet_step ((go_at_call 71; exact Calls.quiet_of_same (HQ.out _ _))) | quiet_step ((go_at_call 71; exact Calls.quiet_of_same (HQ.out _ _))))
  refine wpQuiet_nil ?_
  intro _ hw'
  obtain ⟨nq, hw''⟩ := hw'
  subst hw''
  go_wp2_with fail
  go_ret2
  exact ⟨rfl, ext_drewN hbx _⟩

set_option maxRecDepth 100000 in
set_option maxHeartbeats 1000000 in
theorem Parse_hit (r wd : Int) (zs : List Int) (A : Option Addr) (c : Nat) (pre : List UInt8) (b : UInt8) (n : Int) (w : World) (hI : Ints w A zs) (hlen : zs.length ≤ 20000000000000) (hok : okC r wd zs = true) (hp1 : 1 ≤ pre.length) (hp2 : pre.length ≤ 2) (hev : EV w) (hat : Lib.atoi pre = some n) (hneg : 0 ≤ colI wd b) (hn : 1 ≤ n) (hn2 : n ≤ r) (heq : Lib.decDigits n.toNat = pre) :
    Calls Tryz.prog 35 #[.agg #[.int .i64 r, .int .i64 wd, .slice A zs.length c], .string (glued pre b)] w fun e w' => e = .returned (.tuple #[.int .i64 ((n - 1) * wd + colI wd b), .int .i64 0]) ∧ Below w.heap.size w w' := by
  have HI := Lib.hid (hI.keep (ext_alloc (Below.refl _ w) (.cells #[.int .i64 r, .int .i64 wd, .slice A zs.length c] 24)))
  have HOK := Lib.hid hok
  obtain ⟨⟨o1, o2, o3, o4⟩, _⟩ := okC_yes hok
  have HEV := Lib.hid hev
  clear hI hok hev
  obtain ⟨S, hS⟩ : ∃ S, glued pre b = S := ⟨_, rfl⟩
  have hsz : (S.size : Int) = (pre.length : Int) + 1 := by rw [← hS, glued_size]; omega
  have hix := glued_last pre b
  have hsx := glued_ahead pre b
  rw [hS] at hix hsx ⊢
  obtain ⟨m, hm⟩ : ∃ m, pre.length = m := ⟨_, rfl⟩
  rw [hm] at hp1 hp2 hsz hix hsx
  have HM := Lib.hid hm; have HS := Lib.hid hS
  clear hm hS
  obtain ⟨ci, hci⟩ : ∃ ci, colI wd b = ci := ⟨_, rfl⟩
  have hbd := colI_bd (by omega) o4 b
  rw [hci] at hbd
  obtain ⟨hc1, hc2, _⟩ := hbd
  have hlet : ∀ W : World, (Instr.slice 9 (.string (ByteArray.mk #[65, 66, 67, 68, 69, 70, 71, 72, 74, 75, 76, 77, 78, 79, 80, 81])) none (some (.int .i64 wd)) none).run Tryz.prog W = .ok (.string ⟨(lets.take wd.toNat).toArray⟩) W := fun W => by
    have h16 : ((ByteArray.mk #[65, 66, 67, 68, 69, 70, 71, 72, 74, 75, 76, 77, 78, 79, 80, 81]).size : Int) = 16 := by decide
    rw [run_slice_string_h (P := Tryz.prog) W 9 (ByteArray.mk #[65, 66, 67, 68, 69, 70, 71, 72, 74, 75, 76, 77, 78, 79, 80, 81]) Tryz.underlying9 .i64 _ (by omega) (by rw [h16]; omega)]
    congr 2
    apply ByteArray.ext
    rw [ByteArray.data_extract]
    show (lets.toArray).extract 0 wd.toNat = _
    simp
  have hidx : ∀ W n, Calls Tryz.prog 69 #[.string ⟨(lets.take wd.toNat).toArray⟩, .int .u8 (b.toNat : Nat)] (World.drewN W n) fun e w' => e = .returned (.int .i64 ci) ∧ w' = World.drewN W n := fun W n =>
    (Tryz.strings_IndexByte _ (b.toNat : Nat) _).mono fun e w' ⟨h1, h2⟩ => ⟨by rw [h1, ← hci]; unfold colI; congr 3; simp, h2⟩
  have HIDX := Lib.hid hidx
  have HCI := Lib.hid hci
  clear hidx hci
  have v1 : IntKind.i64.wrap ((m : Int) + 1 - 1) = (m : Int) := by rw [show (m : Int) + 1 - 1 = (m : Int) from by omega]; exact IntWalk.i64_in _ (by omega)
  have HAT := Lib.hid hat; clear hat
  rw [HCI.out] at hneg
  have q1 : 0 ≤ (n - 1) * wd := Int.mul_nonneg (by omega) (by omega)
  have q2 : (n - 1) * wd ≤ 64 * 16 := Int.mul_le_mul (by omega) (by omega) (by omega) (by omega)
  have HQ : ∀ W n', Calls Tryz.prog 71 #[.int .i64 n] (World.drewN W n') fun e w' => e = .returned (.string ⟨(Lib.decDigits n.toNat).toArray⟩) ∧ w' = World.drewN W n' := fun W n' => by
    have h := Tryz.strconv_Itoa_small n.toNat (by omega) (World.drewN W n')
    rwa [show ((n.toNat : Nat) : Int) = n from by omega] at h
  have HQ := Lib.hid HQ
  have hd1 : decide (ci < 0) = false := by rw [decide_eq_false_iff_not]; omega
  have hd2 : decide (n < 1) = false := by rw [decide_eq_false_iff_not]; omega
  have hd3 : decide (r < n) = false := by rw [decide_eq_false_iff_not]; omega
  rw [heq] at HQ
  clear heq
  go_enter Tryz.func35, Tryz.ntmps35
  go_wp2_with fail
  refine (Check_yes r wd zs A c _ HI.out hlen HOK.out).mono ?_
  rintro e w1 ⟨rfl, hb⟩
  have hbw := ext_trans (ext_alloc (Below.refl _ w) _) hb
  have x0 : w1.cell? ⟨w.heap.size, 0, none⟩ = some (.int .i64 r) := by
    rw [hb.cell (p := ⟨w.heap.size, 0, none⟩) (by simp)]; simp
  have x1 : w1.cell? ⟨w.heap.size, 1, none⟩ = some (.int .i64 wd) := by
    rw [hb.cell (p := ⟨w.heap.size, 1, none⟩) (by simp)]; simp
  have hz1 : w.heap.size < w1.heap.size := by have := hb.size; simp at this; omega
  clear hb
  go_wp2_with fail
  refine wp_region_quiet_lit (by kernel_rfl) (by kernel_rfl) ?_
  repeat (first | go_big_quiet_step ((go_at_call 69; exact Calls.quiet_of_same (HIDX.out _ _))) | quiet_step ((go_at_call 69; exact Calls.quiet_of_same (HIDX.out _ _))))
  refine wpQuiet_nil ?_
  intro _ hw'
  obtain ⟨nq, hw''⟩ := hw'
  subst hw''
  go_wp2_with fail
  have hsz2 : (ByteArray.mk pre.toArray).size ≤ 18 := by show pre.toArray.size ≤ 18; rw [List.size_toArray, HM.out]; omega
  refine (atoi_good ⟨pre.toArray⟩ n hsz2 HAT.out _).mono ?_
  rintro e w2 ⟨rfl, hb2⟩
  have hbx := ext_trans (ext_drewN hbw nq) hb2
  have y0 : w2.cell? ⟨w.heap.size, 0, none⟩ = some (.int .i64 r) := by
    rw [hb2.cell (p := ⟨w.heap.size, 0, none⟩) hz1]; exact x0
  have y1 : w2.cell? ⟨w.heap.size, 1, none⟩ = some (.int .i64 wd) := by
    rw [hb2.cell (p := ⟨w.heap.size, 1, none⟩) hz1]; exact x1
  clear hb2 hsz2
  go_wp2_with fail
  refine wp_region_quiet_lit (by kernel_rfl) (by kernel_rfl) ?_
  repeat (first | go_big_quiet_step ((go_at_call 71; exact Calls.quiet_of_same (HQ.out _ _))) | quiet_step ((go_at_call 71; exact Calls.quiet_of_same (HQ.out _ _))))
  refine wpQuiet_nil ?_
  intro _ hw'
  obtain ⟨nq, hw''⟩ := hw'
  subst hw''
  go_wp2_with fail
  go_ret2
  exact ⟨by rw [HCI.out]; rfl, ext_drewN hbx _⟩

set_option maxRecDepth 100000 in
set_option maxHeartbeats 1000000 in
theorem Parse_len (r wd : Int) (zs : List Int) (A : Option Addr) (c : Nat) (s : ByteArray) (w : World) (hI : Ints w A zs) (hlen : zs.length ≤ 20000000000000) (hok : okC r wd zs = true) (hs : s.size < 2 ∨ 3 < s.size) :
    Calls Tryz.prog 35 #[.agg #[.int .i64 r, .int .i64 wd, .slice A zs.length c], .string s] w fun e w' => e = .returned (.tuple #[.int .i64 0, .int .i64 140]) ∧ Below w.heap.size w w' := by
  have HI := Lib.hid (hI.keep (ext_alloc (Below.refl _ w) (.cells #[.int .i64 r, .int .i64 wd, .slice A zs.length c] 24)))
  have HOK := Lib.hid hok
  have HS := Lib.hid hs
  clear hI hok hs
  by_cases g : (s.size : Int) < 2
  · go_enter Tryz.func35, Tryz.ntmps35
    go_wp2_with fail
    refine (Check_yes r wd zs A c _ HI.out hlen HOK.out).mono ?_
    rintro e w1 ⟨rfl, hb⟩
    have hbw := ext_trans (ext_alloc (Below.refl _ w) _) hb
    go_wp2_with fail
    go_ret2
    exact ⟨rfl, hbw⟩
  · have g2 : 3 < (s.size : Int) := by have := HS.out; omega
    go_enter Tryz.func35, Tryz.ntmps35
    go_wp2_with fail
    refine (Check_yes r wd zs A c _ HI.out hlen HOK.out).mono ?_
    rintro e w1 ⟨rfl, hb⟩
    have hbw := ext_trans (ext_alloc (Below.refl _ w) _) hb
    go_wp2_with fail
    go_ret2
    exact ⟨rfl, hbw⟩
set_option maxRecDepth 100000 in
set_option maxHeartbeats 1000000 in
theorem Parse_no (r wd : Int) (zs : List Int) (A : Option Addr) (c : Nat) (s : ByteArray) (w : World) (hI : Ints w A zs) (hlen : zs.length ≤ 20000000000000) (hok : okC r wd zs = false) :
    Calls Tryz.prog 35 #[.agg #[.int .i64 r, .int .i64 wd, .slice A zs.length c], .string s] w fun e w' => e = .returned (.tuple #[.int .i64 0, .int .i64 2]) ∧ Below w.heap.size w w' := by
  have HI := Lib.hid (hI.keep (ext_alloc (Below.refl _ w) (.cells #[.int .i64 r, .int .i64 wd, .slice A zs.length c] 24)))
  have HOK := Lib.hid hok
  clear hI hok
  go_enter Tryz.func35, Tryz.ntmps35
  go_wp2_with fail
  refine (Check_no r wd zs A c _ HI.out hlen HOK.out).mono ?_
  rintro e w1 ⟨rfl, hb⟩
  have hbw := ext_trans (ext_alloc (Below.refl _ w) _) hb
  go_wp2_with fail
  go_ret2
  exact ⟨rfl, hbw⟩

end Go.Proofs.YtpoijhjjbmaedaaGreatDoor.Cab
end

/- CabAns: What the cabin's Parse answers, in two contracts: the seat whose name the text is; ErrSeat, if it is none's. -/
section
namespace Go.Proofs.YtpoijhjjbmaedaaGreatDoor.Cab
open Go.RowKit

theorem cB_inj : ∀ a b : Fin 16, cB a.val = cB b.val → a = b := by decide +kernel
theorem colI_cB_all : ∀ k : Fin 17, ∀ c : Fin 16, c.val < k.val → Lib.indexByte (lets.take k.val) (cB c.val) = (c.val : Int) := by decide +kernel
theorem colI_cB {wd : Int} {col : Nat} (h1 : (col : Int) < wd) (h2 : wd ≤ 16) : colI wd (cB col) = col :=
  colI_cB_all ⟨wd.toNat, by omega⟩ ⟨col, by omega⟩ (by show col < wd.toNat; omega)
theorem dd_inj {a b : Nat} (ha : a < 100) (hb : b < 100) (h : Lib.decDigits a = Lib.decDigits b) : a = b := by
  have h1 := (dd_all ⟨a, ha⟩).2.1
  have h2 := (dd_all ⟨b, hb⟩).2.1
  simp only at h1 h2
  rw [h, h2] at h1
  have := Option.some.inj h1
  omega
/-- no two seats have one name -/
theorem seatT_inj {row col row' col' : Nat} (h1 : row < 64) (h2 : col < 16) (h3 : row' < 64) (h4 : col' < 16) (h : seatT row col = seatT row' col') : row = row' ∧ col = col' := by
  unfold seatT at h
  obtain ⟨e1, e2⟩ := List.append_inj' h rfl
  have e3 := dd_inj (by omega) (by omega) e1
  have e4 := cB_inj ⟨col, h2⟩ ⟨col', h4⟩ (by simpa using e2)
  exact ⟨by omega, by simpa using e4⟩
theorem seatT_len {row col : Nat} (h1 : row < 64) : 2 ≤ (seatT row col).length ∧ (seatT row col).length ≤ 3 := by
  have h := dd_all ⟨row + 1, by omega⟩
  simp only at h
  unfold seatT
  rw [List.length_append, List.length_singleton]
  omega
/-- a seat's row and column -/
theorem seat_rc {r wd : Int} {zs : List Int} (hok : okC r wd zs = true) {k : Int} (h0 : 0 ≤ k) (h1 : k < r * wd) :
    ∃ row col : Nat, k / wd = (row : Int) ∧ k % wd = (col : Int) ∧ (row : Int) < r ∧ (col : Int) < wd ∧ row < 64 ∧ col < 16 ∧ (row : Int) * wd + col = k := by
  obtain ⟨⟨o1, o2, o3, o4⟩, _⟩ := okC_yes hok
  have p0 : 0 ≤ k / wd := Int.ediv_nonneg h0 (by omega)
  have p1 : k / wd < r := Int.ediv_lt_of_lt_mul (by omega) h1
  have p2 := Int.emod_nonneg k (show wd ≠ 0 by omega)
  have p3 := Int.emod_lt_of_pos k (show 0 < wd by omega)
  have p4 := Int.mul_ediv_add_emod k wd
  refine ⟨(k / wd).toNat, (k % wd).toNat, by omega, by omega, by omega, by omega, by omega, by omega, ?_⟩
  rw [show (((k / wd).toNat : Nat) : Int) = k / wd from by omega, show (((k % wd).toNat : Nat) : Int) = k % wd from by omega, Int.mul_comm]
  exact p4
theorem rc_seat {r wd : Int} {zs : List Int} (hok : okC r wd zs = true) {row col : Nat} (h0 : (row : Int) < r) (h1 : (col : Int) < wd) :
    0 ≤ (row : Int) * wd + col ∧ (row : Int) * wd + col < r * wd ∧ ((row : Int) * wd + col) / wd = row ∧ ((row : Int) * wd + col) % wd = col := by
  obtain ⟨⟨o1, o2, o3, o4⟩, _⟩ := okC_yes hok
  have p1 : 0 ≤ (row : Int) * wd := Int.mul_nonneg (by omega) (by omega)
  have p2 : ((row : Int) + 1) * wd ≤ r * wd := Int.mul_le_mul_of_nonneg_right (by omega) (by omega)
  rw [Int.add_mul] at p2
  refine ⟨by omega, by omega, ?_, ?_⟩
  · rw [Int.add_comm, Int.add_mul_ediv_right _ _ (by omega), Int.ediv_eq_zero_of_lt (by omega) h1]; omega
  · rw [Int.add_comm, Int.add_mul_emod_self_right, Int.emod_eq_of_lt (by omega) h1]

/-- Parse at a seat's own name -/
theorem Parse_seat (r wd : Int) (zs : List Int) (A : Option Addr) (c : Nat) (row col : Nat) (w : World) (hI : Ints w A zs) (hlen : zs.length ≤ 20000000000000) (hok : okC r wd zs = true) (hev : EV w) (h0 : (row : Int) < r) (h1 : (col : Int) < wd) :
    Calls Tryz.prog 35 #[.agg #[.int .i64 r, .int .i64 wd, .slice A zs.length c], .string ⟨(seatT row col).toArray⟩] w fun e w' => e = .returned (.tuple #[.int .i64 ((row : Int) * wd + col), .int .i64 0]) ∧ Below w.heap.size w w' := by
  obtain ⟨⟨o1, o2, o3, o4⟩, _⟩ := okC_yes hok
  have hd := dd_all ⟨row + 1, by omega⟩
  simp only at hd
  have hc := colI_cB h1 o4
  have h := Parse_hit r wd zs A c (Lib.decDigits (row + 1)) (cB col) ((row : Int) + 1) w hI hlen hok hd.2.2 hd.1 hev (by rw [hd.2.1]; rfl) (by omega) (by omega) (by omega) (by rw [show ((row : Int) + 1).toNat = row + 1 from by omega])
  refine h.mono fun e w' ⟨he, hb⟩ => ⟨?_, hb⟩
  rw [he, hc, show (row : Int) + 1 - 1 = row from by omega]
/-- Parse at a text that is no seat's name -/
theorem Parse_none (r wd : Int) (zs : List Int) (A : Option Addr) (c : Nat) (s : ByteArray) (w : World) (hI : Ints w A zs) (hlen : zs.length ≤ 20000000000000) (hok : okC r wd zs = true) (hev : EV w) (hno : ∀ row col : Nat, (row : Int) < r → (col : Int) < wd → seatT row col ≠ s.data.toList) :
    Calls Tryz.prog 35 #[.agg #[.int .i64 r, .int .i64 wd, .slice A zs.length c], .string s] w fun e w' => e = .returned (.tuple #[.int .i64 0, .int .i64 140]) ∧ Below w.heap.size w w' := by
  obtain ⟨⟨o1, o2, o3, o4⟩, _⟩ := okC_yes hok
  by_cases hl : s.size < 2 ∨ 3 < s.size
  · exact Parse_len r wd zs A c s w hI hlen hok hl
  · have hsz : s.data.toList.length = s.size := by rw [Array.length_toList]; rfl
    have hne : s.data.toList ≠ [] := by intro h; rw [h] at hsz; simp at hsz; omega
    obtain ⟨pre, b, hpb⟩ : ∃ pre b, s.data.toList = pre ++ [b] := ⟨_, _, (List.dropLast_concat_getLast hne).symm⟩
    have hs : s = glued pre b := by
      apply ByteArray.ext; unfold glued; apply Array.toList_inj.1; rw [hpb]
    have hpl : pre.length + 1 = s.size := by rw [← hsz, hpb]; simp
    subst hs
    have hb := colI_bd o3 o4 b
    have hp1 : 1 ≤ pre.length := by omega
    have hp2 : pre.length ≤ 2 := by omega
    cases hat : Lib.atoi pre with
    | none => exact Parse_syn r wd zs A c pre b w hI hlen hok hp1 hp2 hev hat
    | some n =>
      by_cases c1 : colI wd b < 0
      · exact Parse_col r wd zs A c pre b n w hI hlen hok hp1 hp2 hev hat c1
      · by_cases c2 : n < 1
        · exact Parse_lo r wd zs A c pre b n w hI hlen hok hp1 hp2 hev hat (by omega) c2
        · by_cases c3 : r < n
          · exact Parse_hi r wd zs A c pre b n w hI hlen hok hp1 hp2 hev hat (by omega) c3
          · by_cases c4 : Lib.decDigits n.toNat = pre
            · exfalso
              refine hno (n.toNat - 1) (colI wd b).toNat (by omega) (by omega) ?_
              rw [hpb]
              unfold seatT
              rw [hb.2.2 (by omega), show n.toNat - 1 + 1 = n.toNat from by omega, c4]
            · exact Parse_not r wd zs A c pre b n w hI hlen hok hp1 hp2 hev hat (by omega) (by omega) (by omega) c4

end Go.Proofs.YtpoijhjjbmaedaaGreatDoor.Cab
end
