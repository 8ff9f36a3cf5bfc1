/- The contract of cabin.Parse, way by way. -/
import Derived.Test.YtablpncipkbfhaaDoorCab3
namespace Go.Proofs.YtablpncipkbfhaaDoor.Cab
open Go.RowKit

set_option maxRecDepth 100000 in
set_option maxHeartbeats 1000000 in
theorem Parse_syn (r wd : Int) (zs : List Int) (A : Option Addr) (c : Nat) (pre : List UInt8) (b : UInt8) (w : World) (hI : Ints w A zs) (hlen : zs.length ≤ 20000000000000) (hok : okC r wd zs = true) (hp1 : 1 ≤ pre.length) (hp2 : pre.length ≤ 2) (hev : EV w) (hat : Lib.atoi pre = none) :
    Calls Tryd.prog 11 #[.agg #[.int .i64 r, .int .i64 wd, .slice A zs.length c], .string (glued pre b)] w fun e w' => e = .returned (.tuple #[.int .i64 0, .int .i64 140]) ∧ Below w.heap.size w w' := by
  have HI := Lib.hid (hI.keep (ext_alloc (Below.refl _ w) (.cells #[.int .i64 r, .int .i64 wd, .slice A zs.length c] 24)))
  have HOK := Lib.hid hok
  obtain ⟨⟨o1, o2, o3, o4⟩, _⟩ := okC_yes hok
  have HEV := Lib.hid hev
  clear hI hok hev
  obtain ⟨S, hS⟩ : ∃ S, glued pre b = S := ⟨_, rfl⟩
  have hsz : (S.size : Int) = (pre.length : Int) + 1 := by rw [← hS, glued_size]; omega
  have hix := glued_last pre b
  have hsx := glued_ahead pre b
  rw [hS] at hix hsx ⊢
  obtain ⟨m, hm⟩ : ∃ m, pre.length = m := ⟨_, rfl⟩
  rw [hm] at hp1 hp2 hsz hix hsx
  have HM := Lib.hid hm; have HS := Lib.hid hS
  clear hm hS
  obtain ⟨ci, hci⟩ : ∃ ci, colI wd b = ci := ⟨_, rfl⟩
  have hbd := colI_bd (by omega) o4 b
  rw [hci] at hbd
  obtain ⟨hc1, hc2, _⟩ := hbd
  have hlet : ∀ W : World, (Instr.slice 9 (.string (ByteArray.mk #[65, 66, 67, 68, 69, 70, 71, 72, 74, 75, 76, 77, 78, 79, 80, 81])) none (some (.int .i64 wd)) none).run Tryd.prog W = .ok (.string ⟨(lets.take wd.toNat).toArray⟩) W := fun W => by
    have h16 : ((ByteArray.mk #[65, 66, 67, 68, 69, 70, 71, 72, 74, 75, 76, 77, 78, 79, 80, 81]).size : Int) = 16 := by decide
    rw [run_slice_string_h (P := Tryd.prog) W 9 (ByteArray.mk #[65, 66, 67, 68, 69, 70, 71, 72, 74, 75, 76, 77, 78, 79, 80, 81]) Tryd.underlying9 .i64 _ (by omega) (by rw [h16]; omega)]
    congr 2
    apply ByteArray.ext
    rw [ByteArray.data_extract]
    show (lets.toArray).extract 0 wd.toNat = _
    simp
  have hidx : ∀ W n, Calls Tryd.prog 35 #[.string ⟨(lets.take wd.toNat).toArray⟩, .int .u8 (b.toNat : Nat)] (World.drewN W n) fun e w' => e = .returned (.int .i64 ci) ∧ w' = World.drewN W n := fun W n =>
    (Tryd.strings_IndexByte _ (b.toNat : Nat) _).mono fun e w' ⟨h1, h2⟩ => ⟨by rw [h1, ← hci]; unfold colI; congr 3; simp, h2⟩
  have HIDX := Lib.hid hidx
  have HCI := Lib.hid hci
  clear hidx hci
  have v1 : IntKind.i64.wrap ((m : Int) + 1 - 1) = (m : Int) := by rw [show (m : Int) + 1 - 1 = (m : Int) from by omega]; exact IntWalk.i64_in _ (by omega)
  have HAT := Lib.hid hat; clear hat
  go_enter Tryd.func11, Tryd.ntmps11
  go_wp2_with fail
  refine (Check_yes r wd zs A c _ HI.out hlen HOK.out).mono ?_
  rintro e w1 ⟨rfl, hb⟩
  have hbw := ext_trans (ext_alloc (Below.refl _ w) _) hb
  have x0 : w1.cell? ⟨w.heap.size, 0, none⟩ = some (.int .i64 r) := by
    rw [hb.cell (p := ⟨w.heap.size, 0, none⟩) (by simp)]; simp
  have x1 : w1.cell? ⟨w.heap.size, 1, none⟩ = some (.int .i64 wd) := by
    rw [hb.cell (p := ⟨w.heap.size, 1, none⟩) (by simp)]; simp
  have hz1 : w.heap.size < w1.heap.size := by have := hb.size; simp at this; omega
  clear hb
  go_wp2_with fail
  refine wp_region_quiet_lit (by kernel_rfl) (by kernel_rfl) ?_
  repeat (first | go_big_quiet_step ((go_at_call 35; exact Calls.quiet_of_same (HIDX.out _ _))) | quiet_step ((go_at_call 35; exact Calls.quiet_of_same (HIDX.out _ _))))
  refine wpQuiet_nil ?_
  intro _ hw'
  obtain ⟨nq, hw''⟩ := hw'
  subst hw''
  go_wp2_with fail
  have hsz2 : (ByteArray.mk pre.toArray).size ≤ 18 := by show pre.toArray.size ≤ 18; rw [List.size_toArray, HM.out]; omega
  refine (atoi_bad ⟨pre.toArray⟩ hsz2 HAT.out _ (HEV.out.keep (ext_drewN hbw nq))).mono ?_
  rintro e w2 ⟨T, u, rfl, hb2⟩
  have hbx := ext_trans (ext_drewN hbw nq) hb2
  have y0 : w2.cell? ⟨w.heap.size, 0, none⟩ = some (.int .i64 r) := by
    rw [hb2.cell (p := ⟨w.heap.size, 0, none⟩) hz1]; exact x0
  have y1 : w2.cell? ⟨w.heap.size, 1, none⟩ = some (.int .i64 wd) := by
    rw [hb2.cell (p := ⟨w.heap.size, 1, none⟩) hz1]; exact x1
  clear hb2 hsz2
  go_wp2_with fail
  refine wp_region_quiet_lit (by kernel_rfl) (by kernel_rfl) ?_
  repeat (first | go_big_quiet_step ((fail)) | quiet_step ((fail)))
  refine wpQuiet_nil ?_
  intro _ hw'
  obtain ⟨nq, hw''⟩ := hw'
  subst hw''
  go_wp2_with fail
  go_ret2
  exact ⟨rfl, ext_drewN hbx _⟩

set_option maxRecDepth 100000 in
set_option maxHeartbeats 1000000 in
theorem Parse_col (r wd : Int) (zs : List Int) (A : Option Addr) (c : Nat) (pre : List UInt8) (b : UInt8) (n : Int) (w : World) (hI : Ints w A zs) (hlen : zs.length ≤ 20000000000000) (hok : okC r wd zs = true) (hp1 : 1 ≤ pre.length) (hp2 : pre.length ≤ 2) (hev : EV w) (hat : Lib.atoi pre = some n) (hneg : colI wd b < 0) :
    Calls Tryd.prog 11 #[.agg #[.int .i64 r, .int .i64 wd, .slice A zs.length c], .string (glued pre b)] w fun e w' => e = .returned (.tuple #[.int .i64 0, .int .i64 140]) ∧ Below w.heap.size w w' := by
  have HI := Lib.hid (hI.keep (ext_alloc (Below.refl _ w) (.cells #[.int .i64 r, .int .i64 wd, .slice A zs.length c] 24)))
  have HOK := Lib.hid hok
  obtain ⟨⟨o1, o2, o3, o4⟩, _⟩ := okC_yes hok
  have HEV := Lib.hid hev
  clear hI hok hev
  obtain ⟨S, hS⟩ : ∃ S, glued pre b = S := ⟨_, rfl⟩
  have hsz : (S.size : Int) = (pre.length : Int) + 1 := by rw [← hS, glued_size]; omega
  have hix := glued_last pre b
  have hsx := glued_ahead pre b
  rw [hS] at hix hsx ⊢
  obtain ⟨m, hm⟩ : ∃ m, pre.length = m := ⟨_, rfl⟩
  rw [hm] at hp1 hp2 hsz hix hsx
  have HM := Lib.hid hm; have HS := Lib.hid hS
  clear hm hS
  obtain ⟨ci, hci⟩ : ∃ ci, colI wd b = ci := ⟨_, rfl⟩
  have hbd := colI_bd (by omega) o4 b
  rw [hci] at hbd
  obtain ⟨hc1, hc2, _⟩ := hbd
  have hlet : ∀ W : World, (Instr.slice 9 (.string (ByteArray.mk #[65, 66, 67, 68, 69, 70, 71, 72, 74, 75, 76, 77, 78, 79, 80, 81])) none (some (.int .i64 wd)) none).run Tryd.prog W = .ok (.string ⟨(lets.take wd.toNat).toArray⟩) W := fun W => by
    have h16 : ((ByteArray.mk #[65, 66, 67, 68, 69, 70, 71, 72, 74, 75, 76, 77, 78, 79, 80, 81]).size : Int) = 16 := by decide
    rw [run_slice_string_h (P := Tryd.prog) W 9 (ByteArray.mk #[65, 66, 67, 68, 69, 70, 71, 72, 74, 75, 76, 77, 78, 79, 80, 81]) Tryd.underlying9 .i64 _ (by omega) (by rw [h16]; omega)]
    congr 2
    apply ByteArray.ext
    rw [ByteArray.data_extract]
    show (lets.toArray).extract 0 wd.toNat = _
    simp
  have hidx : ∀ W n, Calls Tryd.prog 35 #[.string ⟨(lets.take wd.toNat).toArray⟩, .int .u8 (b.toNat : Nat)] (World.drewN W n) fun e w' => e = .returned (.int .i64 ci) ∧ w' = World.drewN W n := fun W n =>
    (Tryd.strings_IndexByte _ (b.toNat : Nat) _).mono fun e w' ⟨h1, h2⟩ => ⟨by rw [h1, ← hci]; unfold colI; congr 3; simp, h2⟩
  have HIDX := Lib.hid hidx
  have HCI := Lib.hid hci
  clear hidx hci
  have v1 : IntKind.i64.wrap ((m : Int) + 1 - 1) = (m : Int) := by rw [show (m : Int) + 1 - 1 = (m : Int) from by omega]; exact IntWalk.i64_in _ (by omega)
  have HAT := Lib.hid hat; clear hat
  rw [HCI.out] at hneg
  go_enter Tryd.func11, Tryd.ntmps11
  go_wp2_with fail
  refine (Check_yes r wd zs A c _ HI.out hlen HOK.out).mono ?_
  rintro e w1 ⟨rfl, hb⟩
  have hbw := ext_trans (ext_alloc (Below.refl _ w) _) hb
  have x0 : w1.cell? ⟨w.heap.size, 0, none⟩ = some (.int .i64 r) := by
    rw [hb.cell (p := ⟨w.heap.size, 0, none⟩) (by simp)]; simp
  have x1 : w1.cell? ⟨w.heap.size, 1, none⟩ = some (.int .i64 wd) := by
    rw [hb.cell (p := ⟨w.heap.size, 1, none⟩) (by simp)]; simp
  have hz1 : w.heap.size < w1.heap.size := by have := hb.size; simp at this; omega
  clear hb
  go_wp2_with fail
  refine wp_region_quiet_lit (by kernel_rfl) (by kernel_rfl) ?_
  repeat (first | go_big_quiet_step ((go_at_call 35; exact Calls.quiet_of_same (HIDX.out _ _))) | quiet_step ((go_at_call 35; exact Calls.quiet_of_same (HIDX.out _ _))))
  refine wpQuiet_nil ?_
  intro _ hw'
  obtain ⟨nq, hw''⟩ := hw'
  subst hw''
  go_wp2_with fail
  have hsz2 : (ByteArray.mk pre.toArray).size ≤ 18 := by show pre.toArray.size ≤ 18; rw [List.size_toArray, HM.out]; omega
  refine (atoi_good ⟨pre.toArray⟩ n hsz2 HAT.out _).mono ?_
  rintro e w2 ⟨rfl, hb2⟩
  have hbx := ext_trans (ext_drewN hbw nq) hb2
  have y0 : w2.cell? ⟨w.heap.size, 0, none⟩ = some (.int .i64 r) := by
    rw [hb2.cell (p := ⟨w.heap.size, 0, none⟩) hz1]; exact x0
  have y1 : w2.cell? ⟨w.heap.size, 1, none⟩ = some (.int .i64 wd) := by
    rw [hb2.cell (p := ⟨w.heap.size, 1, none⟩) hz1]; exact x1
  clear hb2 hsz2
  go_wp2_with fail
  refine wp_region_quiet_lit (by kernel_rfl) (by kernel_rfl) ?_
  repeat (first | go_big_quiet_step ((fail)) | quiet_step ((fail)))
  refine wpQuiet_nil ?_
  intro _ hw'
  obtain ⟨nq, hw''⟩ := hw'
  subst hw''
  go_wp2_with fail
  go_ret2
  exact ⟨rfl, ext_drewN hbx _⟩

set_option maxRecDepth 100000 in
set_option maxHeartbeats 1000000 in
theorem Parse_lo (r wd : Int) (zs : List Int) (A : Option Addr) (c : Nat) (pre : List UInt8) (b : UInt8) (n : Int) (w : World) (hI : Ints w A zs) (hlen : zs.length ≤ 20000000000000) (hok : okC r wd zs = true) (hp1 : 1 ≤ pre.length) (hp2 : pre.length ≤ 2) (hev : EV w) (hat : Lib.atoi pre = some n) (hneg : 0 ≤ colI wd b) (hn : n < 1) :
    Calls Tryd.prog 11 #[.agg #[.int .i64 r, .int .i64 wd, .slice A zs.length c], .string (glued pre b)] w fun e w' => e = .returned (.tuple #[.int .i64 0, .int .i64 140]) ∧ Below w.heap.size w w' := by
  have HI := Lib.hid (hI.keep (ext_alloc (Below.refl _ w) (.cells #[.int .i64 r, .int .i64 wd, .slice A zs.length c] 24)))
  have HOK := Lib.hid hok
  obtain ⟨⟨o1, o2, o3, o4⟩, _⟩ := okC_yes hok
  have HEV := Lib.hid hev
  clear hI hok hev
  obtain ⟨S, hS⟩ : ∃ S, glued pre b = S := ⟨_, rfl⟩
  have hsz : (S.size : Int) = (pre.length : Int) + 1 := by rw [← hS, glued_size]; omega
  have hix := glued_last pre b
  have hsx := glued_ahead pre b
  rw [hS] at hix hsx ⊢
  obtain ⟨m, hm⟩ : ∃ m, pre.length = m := ⟨_, rfl⟩
  rw [hm] at hp1 hp2 hsz hix hsx
  have HM := Lib.hid hm; have HS := Lib.hid hS
  clear hm hS
  obtain ⟨ci, hci⟩ : ∃ ci, colI wd b = ci := ⟨_, rfl⟩
  have hbd := colI_bd (by omega) o4 b
  rw [hci] at hbd
  obtain ⟨hc1, hc2, _⟩ := hbd
  have hlet : ∀ W : World, (Instr.slice 9 (.string (ByteArray.mk #[65, 66, 67, 68, 69, 70, 71, 72, 74, 75, 76, 77, 78, 79, 80, 81])) none (some (.int .i64 wd)) none).run Tryd.prog W = .ok (.string ⟨(lets.take wd.toNat).toArray⟩) W := fun W => by
    have h16 : ((ByteArray.mk #[65, 66, 67, 68, 69, 70, 71, 72, 74, 75, 76, 77, 78, 79, 80, 81]).size : Int) = 16 := by decide
    rw [run_slice_string_h (P := Tryd.prog) W 9 (ByteArray.mk #[65, 66, 67, 68, 69, 70, 71, 72, 74, 75, 76, 77, 78, 79, 80, 81]) Tryd.underlying9 .i64 _ (by omega) (by rw [h16]; omega)]
    congr 2
    apply ByteArray.ext
    rw [ByteArray.data_extract]
    show (lets.toArray).extract 0 wd.toNat = _
    simp
  have hidx : ∀ W n, Calls Tryd.prog 35 #[.string ⟨(lets.take wd.toNat).toArray⟩, .int .u8 (b.toNat : Nat)] (World.drewN W n) fun e w' => e = .returned (.int .i64 ci) ∧ w' = World.drewN W n := fun W n =>
    (Tryd.strings_IndexByte _ (b.toNat : Nat) _).mono fun e w' ⟨h1, h2⟩ => ⟨by rw [h1, ← hci]; unfold colI; congr 3; simp, h2⟩
  have HIDX := Lib.hid hidx
  have HCI := Lib.hid hci
  clear hidx hci
  have v1 : IntKind.i64.wrap ((m : Int) + 1 - 1) = (m : Int) := by rw [show (m : Int) + 1 - 1 = (m : Int) from by omega]; exact IntWalk.i64_in _ (by omega)
  have HAT := Lib.hid hat; clear hat
  rw [HCI.out] at hneg
  go_enter Tryd.func11, Tryd.ntmps11
  go_wp2_with fail
  refine (Check_yes r wd zs A c _ HI.out hlen HOK.out).mono ?_
  rintro e w1 ⟨rfl, hb⟩
  have hbw := ext_trans (ext_alloc (Below.refl _ w) _) hb
  have x0 : w1.cell? ⟨w.heap.size, 0, none⟩ = some (.int .i64 r) := by
    rw [hb.cell (p := ⟨w.heap.size, 0, none⟩) (by simp)]; simp
  have x1 : w1.cell? ⟨w.heap.size, 1, none⟩ = some (.int .i64 wd) := by
    rw [hb.cell (p := ⟨w.heap.size, 1, none⟩) (by simp)]; simp
  have hz1 : w.heap.size < w1.heap.size := by have := hb.size; simp at this; omega
  clear hb
  go_wp2_with fail
  refine wp_region_quiet_lit (by kernel_rfl) (by kernel_rfl) ?_
  repeat (first | go_big_quiet_step ((go_at_call 35; exact Calls.quiet_of_same (HIDX.out _ _))) | quiet_step ((go_at_call 35; exact Calls.quiet_of_same (HIDX.out _ _))))
  refine wpQuiet_nil ?_
  intro _ hw'
  obtain ⟨nq, hw''⟩ := hw'
  subst hw''
  go_wp2_with fail
  have hsz2 : (ByteArray.mk pre.toArray).size ≤ 18 := by show pre.toArray.size ≤ 18; rw [List.size_toArray, HM.out]; omega
  refine (atoi_good ⟨pre.toArray⟩ n hsz2 HAT.out _).mono ?_
  rintro e w2 ⟨rfl, hb2⟩
  have hbx := ext_trans (ext_drewN hbw nq) hb2
  have y0 : w2.cell? ⟨w.heap.size, 0, none⟩ = some (.int .i64 r) := by
    rw [hb2.cell (p := ⟨w.heap.size, 0, none⟩) hz1]; exact x0
  have y1 : w2.cell? ⟨w.heap.size, 1, none⟩ = some (.int .i64 wd) := by
    rw [hb2.cell (p := ⟨w.heap.size, 1, none⟩) hz1]; exact x1
  clear hb2 hsz2
  go_wp2_with fail
  refine wp_region_quiet_lit (by kernel_rfl) (by kernel_rfl) ?_
  repeat (first | go_big_quiet_step ((fail)) | quiet_step ((fail)))
  refine wpQuiet_nil ?_
  intro _ hw'
  obtain ⟨nq, hw''⟩ := hw'
  subst hw''
  go_wp2_with fail
  go_ret2
  exact ⟨rfl, ext_drewN hbx _⟩

set_option maxRecDepth 100000 in
set_option maxHeartbeats 1000000 in
theorem Parse_hi (r wd : Int) (zs : List Int) (A : Option Addr) (c : Nat) (pre : List UInt8) (b : UInt8) (n : Int) (w : World) (hI : Ints w A zs) (hlen : zs.length ≤ 20000000000000) (hok : okC r wd zs = true) (hp1 : 1 ≤ pre.length) (hp2 : pre.length ≤ 2) (hev : EV w) (hat : Lib.atoi pre = some n) (hneg : 0 ≤ colI wd b) (hn : r < n) :
    Calls Tryd.prog 11 #[.agg #[.int .i64 r, .int .i64 wd, .slice A zs.length c], .string (glued pre b)] w fun e w' => e = .returned (.tuple #[.int .i64 0, .int .i64 140]) ∧ Below w.heap.size w w' := by
  have HI := Lib.hid (hI.keep (ext_alloc (Below.refl _ w) (.cells #[.int .i64 r, .int .i64 wd, .slice A zs.length c] 24)))
  have HOK := Lib.hid hok
  obtain ⟨⟨o1, o2, o3, o4⟩, _⟩ := okC_yes hok
  have HEV := Lib.hid hev
  clear hI hok hev
  obtain ⟨S, hS⟩ : ∃ S, glued pre b = S := ⟨_, rfl⟩
  have hsz : (S.size : Int) = (pre.length : Int) + 1 := by rw [← hS, glued_size]; omega
  have hix := glued_last pre b
  have hsx := glued_ahead pre b
  rw [hS] at hix hsx ⊢
  obtain ⟨m, hm⟩ : ∃ m, pre.length = m := ⟨_, rfl⟩
  rw [hm] at hp1 hp2 hsz hix hsx
  have HM := Lib.hid hm; have HS := Lib.hid hS
  clear hm hS
  obtain ⟨ci, hci⟩ : ∃ ci, colI wd b = ci := ⟨_, rfl⟩
  have hbd := colI_bd (by omega) o4 b
  rw [hci] at hbd
  obtain ⟨hc1, hc2, _⟩ := hbd
  have hlet : ∀ W : World, (Instr.slice 9 (.string (ByteArray.mk #[65, 66, 67, 68, 69, 70, 71, 72, 74, 75, 76, 77, 78, 79, 80, 81])) none (some (.int .i64 wd)) none).run Tryd.prog W = .ok (.string ⟨(lets.take wd.toNat).toArray⟩) W := fun W => by
    have h16 : ((ByteArray.mk #[65, 66, 67, 68, 69, 70, 71, 72, 74, 75, 76, 77, 78, 79, 80, 81]).size : Int) = 16 := by decide
    rw [run_slice_string_h (P := Tryd.prog) W 9 (ByteArray.mk #[65, 66, 67, 68, 69, 70, 71, 72, 74, 75, 76, 77, 78, 79, 80, 81]) Tryd.underlying9 .i64 _ (by omega) (by rw [h16]; omega)]
    congr 2
    apply ByteArray.ext
    rw [ByteArray.data_extract]
    show (lets.toArray).extract 0 wd.toNat = _
    simp
  have hidx : ∀ W n, Calls Tryd.prog 35 #[.string ⟨(lets.take wd.toNat).toArray⟩, .int .u8 (b.toNat : Nat)] (World.drewN W n) fun e w' => e = .returned (.int .i64 ci) ∧ w' = World.drewN W n := fun W n =>
    (Tryd.strings_IndexByte _ (b.toNat : Nat) _).mono fun e w' ⟨h1, h2⟩ => ⟨by rw [h1, ← hci]; unfold colI; congr 3; simp, h2⟩
  have HIDX := Lib.hid hidx
  have HCI := Lib.hid hci
  clear hidx hci
  have v1 : IntKind.i64.wrap ((m : Int) + 1 - 1) = (m : Int) := by rw [show (m : Int) + 1 - 1 = (m : Int) from by omega]; exact IntWalk.i64_in _ (by omega)
  have HAT := Lib.hid hat; clear hat
  rw [HCI.out] at hneg
  have hd1 : decide (ci < 0) = false := by rw [decide_eq_false_iff_not]; omega
  have hd2 : decide (n < 1) = false := by rw [decide_eq_false_iff_not]; omega
  have hd3 : decide (r < n) = true := by rw [decide_eq_true_iff]; omega
  go_enter Tryd.func11, Tryd.ntmps11
  go_wp2_with fail
  refine (Check_yes r wd zs A c _ HI.out hlen HOK.out).mono ?_
  rintro e w1 ⟨rfl, hb⟩
  have hbw := ext_trans (ext_alloc (Below.refl _ w) _) hb
  have x0 : w1.cell? ⟨w.heap.size, 0, none⟩ = some (.int .i64 r) := by
    rw [hb.cell (p := ⟨w.heap.size, 0, none⟩) (by simp)]; simp
  have x1 : w1.cell? ⟨w.heap.size, 1, none⟩ = some (.int .i64 wd) := by
    rw [hb.cell (p := ⟨w.heap.size, 1, none⟩) (by simp)]; simp
  have hz1 : w.heap.size < w1.heap.size := by have := hb.size; simp at this; omega
  clear hb
  go_wp2_with fail
  refine wp_region_quiet_lit (by kernel_rfl) (by kernel_rfl) ?_
  repeat (first | go_big_quiet_step ((go_at_call 35; exact Calls.quiet_of_same (HIDX.out _ _))) | quiet_step ((go_at_call 35; exact Calls.quiet_of_same (HIDX.out _ _))))
  refine wpQuiet_nil ?_
  intro _ hw'
  obtain ⟨nq, hw''⟩ := hw'
  subst hw''
  go_wp2_with fail
  have hsz2 : (ByteArray.mk pre.toArray).size ≤ 18 := by show pre.toArray.size ≤ 18; rw [List.size_toArray, HM.out]; omega
  refine (atoi_good ⟨pre.toArray⟩ n hsz2 HAT.out _).mono ?_
  rintro e w2 ⟨rfl, hb2⟩
  have hbx := ext_trans (ext_drewN hbw nq) hb2
  have y0 : w2.cell? ⟨w.heap.size, 0, none⟩ = some (.int .i64 r) := by
    rw [hb2.cell (p := ⟨w.heap.size, 0, none⟩) hz1]; exact x0
  have y1 : w2.cell? ⟨w.heap.size, 1, none⟩ = some (.int .i64 wd) := by
    rw [hb2.cell (p := ⟨w.heap.size, 1, none⟩) hz1]; exact x1
  clear hb2 hsz2
  go_wp2_with fail
  refine wp_region_quiet_lit (by kernel_rfl) (by kernel_rfl) ?_
  repeat (first | go_big_quiet_step ((fail)) | quiet_step ((fail)))
  refine wpQuiet_nil ?_
  intro _ hw'
  obtain ⟨nq, hw''⟩ := hw'
  subst hw''
  go_wp2_with fail
  go_ret2
  exact ⟨rfl, ext_drewN hbx _⟩

set_option maxRecDepth 100000 in
set_option maxHeartbeats 1000000 in
theorem Parse_not (r wd : Int) (zs : List Int) (A : Option Addr) (c : Nat) (pre : List UInt8) (b : UInt8) (n : Int) (w : World) (hI : Ints w A zs) (hlen : zs.length ≤ 20000000000000) (hok : okC r wd zs = true) (hp1 : 1 ≤ pre.length) (hp2 : pre.length ≤ 2) (hev : EV w) (hat : Lib.atoi pre = some n) (hneg : 0 ≤ colI wd b) (hn : 1 ≤ n) (hn2 : n ≤ r) (hne : Lib.decDigits n.toNat ≠ pre) :
    Calls Tryd.prog 11 #[.agg #[.int .i64 r, .int .i64 wd, .slice A zs.length c], .string (glued pre b)] w fun e w' => e = .returned (.tuple #[.int .i64 0, .int .i64 140]) ∧ Below w.heap.size w w' := by
  have HI := Lib.hid (hI.keep (ext_alloc (Below.refl _ w) (.cells #[.int .i64 r, .int .i64 wd, .slice A zs.length c] 24)))
  have HOK := Lib.hid hok
  obtain ⟨⟨o1, o2, o3, o4⟩, _⟩ := okC_yes hok
  have HEV := Lib.hid hev
  clear hI hok hev
  obtain ⟨S, hS⟩ : ∃ S, glued pre b = S := ⟨_, rfl⟩
  have hsz : (S.size : Int) = (pre.length : Int) + 1 := by rw [← hS, glued_size]; omega
  have hix := glued_last pre b
  have hsx := glued_ahead pre b
  rw [hS] at hix hsx ⊢
  obtain ⟨m, hm⟩ : ∃ m, pre.length = m := ⟨_, rfl⟩
  rw [hm] at hp1 hp2 hsz hix hsx
  have HM := Lib.hid hm; have HS := Lib.hid hS
  clear hm hS
  obtain ⟨ci, hci⟩ : ∃ ci, colI wd b = ci := ⟨_, rfl⟩
  have hbd := colI_bd (by omega) o4 b
  rw [hci] at hbd
  obtain ⟨hc1, hc2, _⟩ := hbd
  have hlet : ∀ W : World, (Instr.slice 9 (.string (ByteArray.mk #[65, 66, 67, 68, 69, 70, 71, 72, 74, 75, 76, 77, 78, 79, 80, 81])) none (some (.int .i64 wd)) none).run Tryd.prog W = .ok (.string ⟨(lets.take wd.toNat).toArray⟩) W := fun W => by
    have h16 : ((ByteArray.mk #[65, 66, 67, 68, 69, 70, 71, 72, 74, 75, 76, 77, 78, 79, 80, 81]).size : Int) = 16 := by decide
    rw [run_slice_string_h (P := Tryd.prog) W 9 (ByteArray.mk #[65, 66, 67, 68, 69, 70, 71, 72, 74, 75, 76, 77, 78, 79, 80, 81]) Tryd.underlying9 .i64 _ (by omega) (by rw [h16]; omega)]
    congr 2
    apply ByteArray.ext
    rw [ByteArray.data_extract]
    show (lets.toArray).extract 0 wd.toNat = _
    simp
  have hidx : ∀ W n, Calls Tryd.prog 35 #[.string ⟨(lets.take wd.toNat).toArray⟩, .int .u8 (b.toNat : Nat)] (World.drewN W n) fun e w' => e = .returned (.int .i64 ci) ∧ w' = World.drewN W n := fun W n =>
    (Tryd.strings_IndexByte _ (b.toNat : Nat) _).mono fun e w' ⟨h1, h2⟩ => ⟨by rw [h1, ← hci]; unfold colI; congr 3; simp, h2⟩
  have HIDX := Lib.hid hidx
  have HCI := Lib.hid hci
  clear hidx hci
  have v1 : IntKind.i64.wrap ((m : Int) + 1 - 1) = (m : Int) := by rw [show (m : Int) + 1 - 1 = (m : Int) from by omega]; exact IntWalk.i64_in _ (by omega)
  have HAT := Lib.hid hat; clear hat
  rw [HCI.out] at hneg
  have hnb : (Lib.decDigits n.toNat == pre) = false := by simpa using hne
  clear hne
  have HQ : ∀ W n', Calls Tryd.prog 37 #[.int .i64 n] (World.drewN W n') fun e w' => e = .returned (.string ⟨(Lib.decDigits n.toNat).toArray⟩) ∧ w' = World.drewN W n' := fun W n' => by
    have h := Tryd.strconv_Itoa_small n.toNat (by omega) (World.drewN W n')
    rwa [show ((n.toNat : Nat) : Int) = n from by omega] at h
  have HQ := Lib.hid HQ
  have hd1 : decide (ci < 0) = false := by rw [decide_eq_false_iff_not]; omega
  have hd2 : decide (n < 1) = false := by rw [decide_eq_false_iff_not]; omega
  have hd3 : decide (r < n) = false := by rw [decide_eq_false_iff_not]; omega
  go_enter Tryd.func11, Tryd.ntmps11
  go_wp2_with fail
  refine (Check_yes r wd zs A c _ HI.out hlen HOK.out).mono ?_
  rintro e w1 ⟨rfl, hb⟩
  have hbw := ext_trans (ext_alloc (Below.refl _ w) _) hb
  have x0 : w1.cell? ⟨w.heap.size, 0, none⟩ = some (.int .i64 r) := by
    rw [hb.cell (p := ⟨w.heap.size, 0, none⟩) (by simp)]; simp
  have x1 : w1.cell? ⟨w.heap.size, 1, none⟩ = some (.int .i64 wd) := by
    rw [hb.cell (p := ⟨w.heap.size, 1, none⟩) (by simp)]; simp
  have hz1 : w.heap.size < w1.heap.size := by have := hb.size; simp at this; omega
  clear hb
  go_wp2_with fail
  refine wp_region_quiet_lit (by kernel_rfl) (by kernel_rfl) ?_
  repeat (first | go_big_quiet_step ((go_at_call 35; exact Calls.quiet_of_same (HIDX.out _ _))) | quiet_step ((go_at_call 35; exact Calls.quiet_of_same (HIDX.out _ _))))
  refine wpQuiet_nil ?_
  intro _ hw'
  obtain ⟨nq, hw''⟩ := hw'
  subst hw''
  go_wp2_with fail
  have hsz2 : (ByteArray.mk pre.toArray).size ≤ 18 := by show pre.toArray.size ≤ 18; rw [List.size_toArray, HM.out]; omega
  refine (atoi_good ⟨pre.toArray⟩ n hsz2 HAT.out _).mono ?_
  rintro e w2 ⟨rfl, hb2⟩
  have hbx := ext_trans (ext_drewN hbw nq) hb2
  have y0 : w2.cell? ⟨w.heap.size, 0, none⟩ = some (.int .i64 r) := by
    rw [hb2.cell (p := ⟨w.heap.size, 0, none⟩) hz1]; exact x0
  have y1 : w2.cell? ⟨w.heap.size, 1, none⟩ = some (.int .i64 wd) := by
    rw [hb2.cell (p := ⟨w.heap.size, 1, none⟩) hz1]; exact x1
  clear hb2 hsz2
  go_wp2_with fail
  refine wp_region_quiet_lit (by kernel_rfl) (by kernel_rfl) ?_
  repeat (first | go_big_quiet_step ((go_at_call 37; exact Calls.quiet_of_same (HQ.out _ _))) | quiet_step ((go_at_call 37; exact Calls.quiet_of_same (HQ.out _ _))))
  refine wpQuiet_nil ?_
  intro _ hw'
  obtain ⟨nq, hw''⟩ := hw'
  subst hw''
  go_wp2_with fail
  go_ret2
  exact ⟨rfl, ext_drewN hbx _⟩

set_option maxRecDepth 100000 in
set_option maxHeartbeats 1000000 in
theorem Parse_hit (r wd : Int) (zs : List Int) (A : Option Addr) (c : Nat) (pre : List UInt8) (b : UInt8) (n : Int) (w : World) (hI : Ints w A zs) (hlen : zs.length ≤ 20000000000000) (hok : okC r wd zs = true) (hp1 : 1 ≤ pre.length) (hp2 : pre.length ≤ 2) (hev : EV w) (hat : Lib.atoi pre = some n) (hneg : 0 ≤ colI wd b) (hn : 1 ≤ n) (hn2 : n ≤ r) (heq : Lib.decDigits n.toNat = pre) :
    Calls Tryd.prog 11 #[.agg #[.int .i64 r, .int .i64 wd, .slice A zs.length c], .string (glued pre b)] w fun e w' => e = .returned (.tuple #[.int .i64 ((n - 1) * wd + colI wd b), .int .i64 0]) ∧ Below w.heap.size w w' := by
  have HI := Lib.hid (hI.keep (ext_alloc (Below.refl _ w) (.cells #[.int .i64 r, .int .i64 wd, .slice A zs.length c] 24)))
  have HOK := Lib.hid hok
  obtain ⟨⟨o1, o2, o3, o4⟩, _⟩ := okC_yes hok
  have HEV := Lib.hid hev
  clear hI hok hev
  obtain ⟨S, hS⟩ : ∃ S, glued pre b = S := ⟨_, rfl⟩
  have hsz : (S.size : Int) = (pre.length : Int) + 1 := by rw [← hS, glued_size]; omega
  have hix := glued_last pre b
  have hsx := glued_ahead pre b
  rw [hS] at hix hsx ⊢
  obtain ⟨m, hm⟩ : ∃ m, pre.length = m := ⟨_, rfl⟩
  rw [hm] at hp1 hp2 hsz hix hsx
  have HM := Lib.hid hm; have HS := Lib.hid hS
  clear hm hS
  obtain ⟨ci, hci⟩ : ∃ ci, colI wd b = ci := ⟨_, rfl⟩
  have hbd := colI_bd (by omega) o4 b
  rw [hci] at hbd
  obtain ⟨hc1, hc2, _⟩ := hbd
  have hlet : ∀ W : World, (Instr.slice 9 (.string (ByteArray.mk #[65, 66, 67, 68, 69, 70, 71, 72, 74, 75, 76, 77, 78, 79, 80, 81])) none (some (.int .i64 wd)) none).run Tryd.prog W = .ok (.string ⟨(lets.take wd.toNat).toArray⟩) W := fun W => by
    have h16 : ((ByteArray.mk #[65, 66, 67, 68, 69, 70, 71, 72, 74, 75, 76, 77, 78, 79, 80, 81]).size : Int) = 16 := by decide
    rw [run_slice_string_h (P := Tryd.prog) W 9 (ByteArray.mk #[65, 66, 67, 68, 69, 70, 71, 72, 74, 75, 76, 77, 78, 79, 80, 81]) Tryd.underlying9 .i64 _ (by omega) (by rw [h16]; omega)]
    congr 2
    apply ByteArray.ext
    rw [ByteArray.data_extract]
    show (lets.toArray).extract 0 wd.toNat = _
    simp
  have hidx : ∀ W n, Calls Tryd.prog 35 #[.string ⟨(lets.take wd.toNat).toArray⟩, .int .u8 (b.toNat : Nat)] (World.drewN W n) fun e w' => e = .returned (.int .i64 ci) ∧ w' = World.drewN W n := fun W n =>
    (Tryd.strings_IndexByte _ (b.toNat : Nat) _).mono fun e w' ⟨h1, h2⟩ => ⟨by rw [h1, ← hci]; unfold colI; congr 3; simp, h2⟩
  have HIDX := Lib.hid hidx
  have HCI := Lib.hid hci
  clear hidx hci
  have v1 : IntKind.i64.wrap ((m : Int) + 1 - 1) = (m : Int) := by rw [show (m : Int) + 1 - 1 = (m : Int) from by omega]; exact IntWalk.i64_in _ (by omega)
  have HAT := Lib.hid hat; clear hat
  rw [HCI.out] at hneg
  have q1 : 0 ≤ (n - 1) * wd := Int.mul_nonneg (by omega) (by omega)
  have q2 : (n - 1) * wd ≤ 64 * 16 := Int.mul_le_mul (by omega) (by omega) (by omega) (by omega)
  have HQ : ∀ W n', Calls Tryd.prog 37 #[.int .i64 n] (World.drewN W n') fun e w' => e = .returned (.string ⟨(Lib.decDigits n.toNat).toArray⟩) ∧ w' = World.drewN W n' := fun W n' => by
    have h := Tryd.strconv_Itoa_small n.toNat (by omega) (World.drewN W n')
    rwa [show ((n.toNat : Nat) : Int) = n from by omega] at h
  have HQ := Lib.hid HQ
  have hd1 : decide (ci < 0) = false := by rw [decide_eq_false_iff_not]; omega
  have hd2 : decide (n < 1) = false := by rw [decide_eq_false_iff_not]; omega
  have hd3 : decide (r < n) = false := by rw [decide_eq_false_iff_not]; omega
  rw [heq] at HQ
  clear heq
  go_enter Tryd.func11, Tryd.ntmps11
  go_wp2_with fail
  refine (Check_yes r wd zs A c _ HI.out hlen HOK.out).mono ?_
  rintro e w1 ⟨rfl, hb⟩
  have hbw := ext_trans (ext_alloc (Below.refl _ w) _) hb
  have x0 : w1.cell? ⟨w.heap.size, 0, none⟩ = some (.int .i64 r) := by
    rw [hb.cell (p := ⟨w.heap.size, 0, none⟩) (by simp)]; simp
  have x1 : w1.cell? ⟨w.heap.size, 1, none⟩ = some (.int .i64 wd) := by
    rw [hb.cell (p := ⟨w.heap.size, 1, none⟩) (by simp)]; simp
  have hz1 : w.heap.size < w1.heap.size := by have := hb.size; simp at this; omega
  clear hb
  go_wp2_with fail
  refine wp_region_quiet_lit (by kernel_rfl) (by kernel_rfl) ?_
  repeat (first | go_big_quiet_step ((go_at_call 35; exact Calls.quiet_of_same (HIDX.out _ _))) | quiet_step ((go_at_call 35; exact Calls.quiet_of_same (HIDX.out _ _))))
  refine wpQuiet_nil ?_
  intro _ hw'
  obtain ⟨nq, hw''⟩ := hw'
  subst hw''
  go_wp2_with fail
  have hsz2 : (ByteArray.mk pre.toArray).size ≤ 18 := by show pre.toArray.size ≤ 18; rw [List.size_toArray, HM.out]; omega
  refine (atoi_good ⟨pre.toArray⟩ n hsz2 HAT.out _).mono ?_
  rintro e w2 ⟨rfl, hb2⟩
  have hbx := ext_trans (ext_drewN hbw nq) hb2
  have y0 : w2.cell? ⟨w.heap.size, 0, none⟩ = some (.int .i64 r) := by
    rw [hb2.cell (p := ⟨w.heap.size, 0, none⟩) hz1]; exact x0
  have y1 : w2.cell? ⟨w.heap.size, 1, none⟩ = some (.int .i64 wd) := by
    rw [hb2.cell (p := ⟨w.heap.size, 1, none⟩) hz1]; exact x1
  clear hb2 hsz2
  go_wp2_with fail
  refine wp_region_quiet_lit (by kernel_rfl) (by kernel_rfl) ?_
  repeat (first | go_big_quiet_step ((go_at_call 37; exact Calls.quiet_of_same (HQ.out _ _))) | quiet_step ((go_at_call 37; exact Calls.quiet_of_same (HQ.out _ _))))
  refine wpQuiet_nil ?_
  intro _ hw'
  obtain ⟨nq, hw''⟩ := hw'
  subst hw''
  go_wp2_with fail
  go_ret2
  exact ⟨by rw [HCI.out]; rfl, ext_drewN hbx _⟩

set_option maxRecDepth 100000 in
set_option maxHeartbeats 1000000 in
theorem Parse_len (r wd : Int) (zs : List Int) (A : Option Addr) (c : Nat) (s : ByteArray) (w : World) (hI : Ints w A zs) (hlen : zs.length ≤ 20000000000000) (hok : okC r wd zs = true) (hs : s.size < 2 ∨ 3 < s.size) :
    Calls Tryd.prog 11 #[.agg #[.int .i64 r, .int .i64 wd, .slice A zs.length c], .string s] w fun e w' => e = .returned (.tuple #[.int .i64 0, .int .i64 140]) ∧ Below w.heap.size w w' := by
  have HI := Lib.hid (hI.keep (ext_alloc (Below.refl _ w) (.cells #[.int .i64 r, .int .i64 wd, .slice A zs.length c] 24)))
  have HOK := Lib.hid hok
  have HS := Lib.hid hs
  clear hI hok hs
  by_cases g : (s.size : Int) < 2
  · go_enter Tryd.func11, Tryd.ntmps11
    go_wp2_with fail
    refine (Check_yes r wd zs A c _ HI.out hlen HOK.out).mono ?_
    rintro e w1 ⟨rfl, hb⟩
    have hbw := ext_trans (ext_alloc (Below.refl _ w) _) hb
    go_wp2_with fail
    go_ret2
    exact ⟨rfl, hbw⟩
  · have g2 : 3 < (s.size : Int) := by have := HS.out; omega
    go_enter Tryd.func11, Tryd.ntmps11
    go_wp2_with fail
    refine (Check_yes r wd zs A c _ HI.out hlen HOK.out).mono ?_
    rintro e w1 ⟨rfl, hb⟩
    have hbw := ext_trans (ext_alloc (Below.refl _ w) _) hb
    go_wp2_with fail
    go_ret2
    exact ⟨rfl, hbw⟩
set_option maxRecDepth 100000 in
set_option maxHeartbeats 1000000 in
theorem Parse_no (r wd : Int) (zs : List Int) (A : Option Addr) (c : Nat) (s : ByteArray) (w : World) (hI : Ints w A zs) (hlen : zs.length ≤ 20000000000000) (hok : okC r wd zs = false) :
    Calls Tryd.prog 11 #[.agg #[.int .i64 r, .int .i64 wd, .slice A zs.length c], .string s] w fun e w' => e = .returned (.tuple #[.int .i64 0, .int .i64 2]) ∧ Below w.heap.size w w' := by
  have HI := Lib.hid (hI.keep (ext_alloc (Below.refl _ w) (.cells #[.int .i64 r, .int .i64 wd, .slice A zs.length c] 24)))
  have HOK := Lib.hid hok
  clear hI hok
  go_enter Tryd.func11, Tryd.ntmps11
  go_wp2_with fail
  refine (Check_no r wd zs A c _ HI.out hlen HOK.out).mono ?_
  rintro e w1 ⟨rfl, hb⟩
  have hbw := ext_trans (ext_alloc (Below.refl _ w) _) hb
  go_wp2_with fail
  go_ret2
  exact ⟨rfl, hbw⟩

end Go.Proofs.YtablpncipkbfhaaDoor.Cab
