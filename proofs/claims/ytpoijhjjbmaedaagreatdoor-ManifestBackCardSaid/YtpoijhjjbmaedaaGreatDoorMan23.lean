/- manifest.Of where it refuses; the reference's Of. -/
import Derived.Test.YtpoijhjjbmaedaaGreatDoorMan22
import Derived.Test.YtpoijhjjbmaedaaGreatDoorManB
import Derived.Test.YtpoijhjjbmaedaaGreatDoorCodB
set_option linter.unusedVariables false
set_option linter.unusedSimpArgs false
namespace Go.Proofs.YtpoijhjjbmaedaaGreatDoor.Man
open Go.RowKit
open Go.Proofs.YtpoijhjjbmaedaaGreatDoor.Bit (hasB)
open Go.Proofs.YtpoijhjjbmaedaaGreatDoor.Bk (Bkg Raw rawL Raws bookOf ofR mayR toB BookAt Parts Comp)

-- manifest.Of, a cabin that may not be
set_option maxRecDepth 100000 in
set_option maxHeartbeats 4000000 in
theorem Of_bad (r wd : Int) (zs : List Int) (A : Option Addr) (c : Nat) (p : Option Addr) (w : World) (hI : Cab.Ints w A zs) (hlen : zs.length ≤ 20000000000000) (hok : Cab.okC r wd zs = false) :
    Calls Tryz.prog 15 #[.agg #[.int .i64 r, .int .i64 wd, .slice A zs.length c], .pointer p] w fun e w' => e = .returned (.tuple #[.slice none 0 0, .int .i64 2]) ∧ Below w.heap.size w w' := by
  have HI := Lib.hid hI; have HOK := Lib.hid hok
  clear hI hok
  go_enter Tryz.func15, Tryz.ntmps15
  go_wp2_with fail
  have hb1 : Below w.heap.size w (w.alloc (.cells #[.int .i64 r, .int .i64 wd, .slice A zs.length c] 24)) := ext_alloc (Below.refl _ _) _
  have hA1 := Arr.fresh w 24 #[.int .i64 r, .int .i64 wd, .slice A zs.length c]
  obtain ⟨w1, hw1⟩ : ∃ w1, w.alloc (.cells #[.int .i64 r, .int .i64 wd, .slice A zs.length c] 24) = w1 := ⟨_, rfl⟩
  obtain ⟨cb, hcb⟩ : ∃ cb, w.heap.size = cb := ⟨_, rfl⟩
  rw [hw1] at hb1 hA1 ⊢
  have HB1 := Lib.hid hb1
  rw [hcb] at hA1 ⊢
  have HCB := Lib.hid hcb
  clear hw1 hcb
  refine (Cab.Seats_no r wd zs A c w1 (HI.out.keep hb1) hlen HOK.out).mono ?_
  rintro e w2 ⟨rfl, hb2⟩
  have HB2 := Lib.hid (ext_trans HB1.out hb2)
  clear hb1 hb2
  go_wp2_with fail
  go_ret2
  exact ⟨rfl, HB2.out⟩
-- manifest.Of, no book
set_option maxRecDepth 100000 in
set_option maxHeartbeats 4000000 in
theorem Of_none (r wd : Int) (zs : List Int) (A : Option Addr) (c : Nat) (p : Option Addr) (w : World) (hI : Cab.Ints w A zs) (hlen : zs.length ≤ 20000000000000) (hok : Cab.okC r wd zs = true) (hp : p = none ∨ ∃ b, p = some ⟨b, 0, none⟩ ∧ w.cell? ⟨b, 3, none⟩ = some (.bool false)) :
    Calls Tryz.prog 15 #[.agg #[.int .i64 r, .int .i64 wd, .slice A zs.length c], .pointer p] w fun e w' => e = .returned (.tuple #[.slice none 0 0, .int .i64 1]) ∧ Below w.heap.size w w' := by
  have hsf := shape_field
  have HP := Lib.hid (show ∀ W, Below w.heap.size w W → p = none ∨ ∃ b, p = some ⟨b, 0, none⟩ ∧ W.cell? ⟨b, 3, none⟩ = some (.bool false) from fun W hW => by
    rcases hp with h | ⟨b, h1, h2⟩
    · exact .inl h
    · exact .inr ⟨b, h1, (hW.cell (p := ⟨b, 3, none⟩) (World.block_lt_of_cell? w _ h2)).trans h2⟩)
  have HI := Lib.hid hI; have HOK := Lib.hid hok
  clear hI hok hp
  go_enter Tryz.func15, Tryz.ntmps15
  go_wp2_with fail
  have hb1 : Below w.heap.size w (w.alloc (.cells #[.int .i64 r, .int .i64 wd, .slice A zs.length c] 24)) := ext_alloc (Below.refl _ _) _
  have hA1 := Arr.fresh w 24 #[.int .i64 r, .int .i64 wd, .slice A zs.length c]
  obtain ⟨w1, hw1⟩ : ∃ w1, w.alloc (.cells #[.int .i64 r, .int .i64 wd, .slice A zs.length c] 24) = w1 := ⟨_, rfl⟩
  obtain ⟨cb, hcb⟩ : ∃ cb, w.heap.size = cb := ⟨_, rfl⟩
  rw [hw1] at hb1 hA1 ⊢
  have HB1 := Lib.hid hb1
  rw [hcb] at hA1 ⊢
  have HCB := Lib.hid hcb
  clear hw1 hcb
  refine (Cab.Seats_yes r wd zs A c w1 (HI.out.keep hb1) hlen HOK.out).mono ?_
  rintro e w2 ⟨rfl, hb2⟩
  have HB2 := Lib.hid (ext_trans HB1.out hb2)
  clear hb1 hb2
  go_wp2_with fail
  refine (Bk.Shape_none p w2 (HP.out _ HB2.out)).mono ?_
  rintro e w3 ⟨rfl, hb3⟩
  have HB3 := Lib.hid (ext_trans HB2.out hb3)
  clear hb3
  go_wp2_with fail
  go_ret2
  exact ⟨rfl, HB3.out⟩
-- manifest.Of, another cabin
set_option maxRecDepth 100000 in
set_option maxHeartbeats 4000000 in
theorem Of_long (S : Nat → Prop) (b n codes : Nat) (group next clock : Int) (L : List Bkg) (q : Parts) (r wd : Int) (zs : List Int) (A : Option Addr) (c : Nat) (w : World) (h : BookAt S w b n codes group next clock L q) (hI : Cab.Ints w A zs) (hlen : zs.length ≤ 20000000000000) (hok : Cab.okC r wd zs = true) (hn : (n : Int) ≠ r * wd) :
    Calls Tryz.prog 15 #[.agg #[.int .i64 r, .int .i64 wd, .slice A zs.length c], .pointer (some ⟨b, 0, none⟩)] w fun e w' => e = .returned (.tuple #[.slice none 0 0, .int .i64 3]) ∧ Below w.heap.size w w' := by
  have hsf := shape_field
  have hn2 := h.small.2.2.2
  obtain ⟨m, hm⟩ : ∃ m, r * wd = m := ⟨_, rfl⟩
  have HH := Lib.hid h; have HI := Lib.hid hI; have HOK := Lib.hid hok; have HM := Lib.hid hm
  rw [hm] at hn
  have hnn : ((n : Int) != m) = true := by simpa using hn
  have hnz : ¬ (n : Int) = 0 := by omega
  have hnzb : ((n : Int) == 0) = false := by simp; omega
  clear h hI hok hm
  go_enter Tryz.func15, Tryz.ntmps15
  go_wp2_with fail
  have hb1 : Below w.heap.size w (w.alloc (.cells #[.int .i64 r, .int .i64 wd, .slice A zs.length c] 24)) := ext_alloc (Below.refl _ _) _
  have hA1 := Arr.fresh w 24 #[.int .i64 r, .int .i64 wd, .slice A zs.length c]
  obtain ⟨w1, hw1⟩ : ∃ w1, w.alloc (.cells #[.int .i64 r, .int .i64 wd, .slice A zs.length c] 24) = w1 := ⟨_, rfl⟩
  obtain ⟨cb, hcb⟩ : ∃ cb, w.heap.size = cb := ⟨_, rfl⟩
  rw [hw1] at hb1 hA1 ⊢
  have HB1 := Lib.hid hb1
  rw [hcb] at hA1 ⊢
  have HCB := Lib.hid hcb
  clear hw1 hcb
  refine (Cab.Seats_yes r wd zs A c w1 (HI.out.keep hb1) hlen HOK.out).mono ?_
  rintro e w2 ⟨rfl, hb2⟩
  rw [HM.out]
  have HB2 := Lib.hid (ext_trans HB1.out hb2)
  clear hb1 hb2
  go_wp2_with fail
  refine (Bk.Shape_in (HH.out.comp.below HB2.out)).mono ?_
  rintro e w3 ⟨rfl, hb3⟩
  have HB3 := Lib.hid (ext_trans HB2.out hb3)
  clear hb3
  go_wp2_with fail
  refine (Bk.Shape_in (HH.out.comp.below HB3.out)).mono ?_
  rintro e w4 ⟨rfl, hb4⟩
  have HB4 := Lib.hid (ext_trans HB3.out hb4)
  clear hb4
  go_wp2_with fail
  go_ret2
  exact ⟨rfl, HB4.out⟩

-- gangwayref29.Of, a cabin that may not be
set_option maxRecDepth 100000 in
set_option maxHeartbeats 4000000 in
theorem rOf29_bad (r wd : Int) (zs : List Int) (A : Option Addr) (c : Nat) (p : Option Addr) (w : World) (hI : Cab.Ints w A zs) (hlen : zs.length ≤ 20000000000000) (hok : Cab.okC r wd zs = false) :
    Calls Tryz.prog 16 #[.agg #[.int .i64 r, .int .i64 wd, .slice A zs.length c], .pointer p] w fun e w' => e = .returned (.tuple #[.slice none 0 0, .int .i64 2]) ∧ Below w.heap.size w w' := by
  have HI := Lib.hid hI; have HOK := Lib.hid hok
  clear hI hok
  go_enter Tryz.func16, Tryz.ntmps16
  go_wp2_with fail
  have hb1 : Below w.heap.size w (w.alloc (.cells #[.int .i64 r, .int .i64 wd, .slice A zs.length c] 24)) := ext_alloc (Below.refl _ _) _
  have hA1 := Arr.fresh w 24 #[.int .i64 r, .int .i64 wd, .slice A zs.length c]
  obtain ⟨w1, hw1⟩ : ∃ w1, w.alloc (.cells #[.int .i64 r, .int .i64 wd, .slice A zs.length c] 24) = w1 := ⟨_, rfl⟩
  obtain ⟨cb, hcb⟩ : ∃ cb, w.heap.size = cb := ⟨_, rfl⟩
  rw [hw1] at hb1 hA1 ⊢
  have HB1 := Lib.hid hb1
  rw [hcb] at hA1 ⊢
  have HCB := Lib.hid hcb
  clear hw1 hcb
  refine (Cab.rCheck_no r wd zs A c w1 (HI.out.keep hb1) hlen HOK.out).mono ?_
  rintro e w2 ⟨rfl, hb2⟩
  have HB2 := Lib.hid (ext_trans HB1.out hb2)
  clear hb1 hb2
  go_wp2_with fail
  go_ret2
  exact ⟨rfl, HB2.out⟩
-- gangwayref29.Of, no book
set_option maxRecDepth 100000 in
set_option maxHeartbeats 4000000 in
theorem rOf29_none (r wd : Int) (zs : List Int) (A : Option Addr) (c : Nat) (b : Nat) (w : World) (hI : Cab.Ints w A zs) (hlen : zs.length ≤ 20000000000000) (hok : Cab.okC r wd zs = true) (hp : Arr w b 52 rb0) :
    Calls Tryz.prog 16 #[.agg #[.int .i64 r, .int .i64 wd, .slice A zs.length c], .pointer (some ⟨b, 0, none⟩)] w fun e w' => e = .returned (.tuple #[.slice none 0 0, .int .i64 1]) ∧ Below w.heap.size w w' := by
  have HI := Lib.hid hI; have HOK := Lib.hid hok; have HP := Lib.hid hp
  clear hI hok hp
  go_enter Tryz.func16, Tryz.ntmps16
  go_wp2_with fail
  have hb1 : Below w.heap.size w (w.alloc (.cells #[.int .i64 r, .int .i64 wd, .slice A zs.length c] 24)) := ext_alloc (Below.refl _ _) _
  have hA1 := Arr.fresh w 24 #[.int .i64 r, .int .i64 wd, .slice A zs.length c]
  obtain ⟨w1, hw1⟩ : ∃ w1, w.alloc (.cells #[.int .i64 r, .int .i64 wd, .slice A zs.length c] 24) = w1 := ⟨_, rfl⟩
  obtain ⟨cb, hcb⟩ : ∃ cb, w.heap.size = cb := ⟨_, rfl⟩
  rw [hw1] at hb1 hA1 ⊢
  have HB1 := Lib.hid hb1
  rw [hcb] at hA1 ⊢
  have HCB := Lib.hid hcb
  clear hw1 hcb
  refine (Cab.rCheck_yes r wd zs A c w1 (HI.out.keep hb1) hlen HOK.out).mono ?_
  rintro e w2 ⟨rfl, hb2⟩
  have HB2 := Lib.hid (ext_trans HB1.out hb2)
  have y0 : w2.cell? ⟨b, 0, none⟩ = some (.bool false) := (HP.out.keep HB2.out).cell 0
  clear hb1 hb2
  go_wp2_with fail
  go_ret2
  exact ⟨rfl, HB2.out⟩
-- gangwayref29.Of, another cabin
set_option maxRecDepth 100000 in
set_option maxHeartbeats 4000000 in
theorem rOf29_long (b n codes : Nat) (group next clock : Int) (l : List Raw) (VB : Option Addr) (vb : Nat) (r wd : Int) (zs : List Int) (A : Option Addr) (c : Nat) (w : World) (h : RBk w b n codes group next clock l VB vb) (hI : Cab.Ints w A zs) (hlen : zs.length ≤ 20000000000000) (hok : Cab.okC r wd zs = true) (hn : (n : Int) ≠ r * wd) (hn2 : n ≤ 1024) :
    Calls Tryz.prog 16 #[.agg #[.int .i64 r, .int .i64 wd, .slice A zs.length c], .pointer (some ⟨b, 0, none⟩)] w fun e w' => e = .returned (.tuple #[.slice none 0 0, .int .i64 3]) ∧ Below w.heap.size w w' := by
  obtain ⟨⟨o1, o2, o3, o4⟩, _⟩ := Cab.okC_yes hok
  have q1 : 0 ≤ r * wd := Int.mul_nonneg (by omega) (by omega)
  have q2 : r * wd ≤ 64 * 16 := Int.mul_le_mul (by omega) (by omega) (by omega) (by omega)
  obtain ⟨m, hm⟩ : ∃ m, r * wd = m := ⟨_, rfl⟩
  rw [hm] at q1 q2 hn
  have hnn : (m != (n : Int)) = true := by simpa using fun e => hn e.symm
  have hnn2 : (m == (n : Int)) = false := by simpa using fun e => hn e.symm
  have HH := Lib.hid h; have HI := Lib.hid hI; have HOK := Lib.hid hok
  clear h hI hok
  go_enter Tryz.func16, Tryz.ntmps16
  go_wp2_with fail
  have hb1 : Below w.heap.size w (w.alloc (.cells #[.int .i64 r, .int .i64 wd, .slice A zs.length c] 24)) := ext_alloc (Below.refl _ _) _
  have hA1 := Arr.fresh w 24 #[.int .i64 r, .int .i64 wd, .slice A zs.length c]
  obtain ⟨w1, hw1⟩ : ∃ w1, w.alloc (.cells #[.int .i64 r, .int .i64 wd, .slice A zs.length c] 24) = w1 := ⟨_, rfl⟩
  obtain ⟨cb, hcb⟩ : ∃ cb, w.heap.size = cb := ⟨_, rfl⟩
  rw [hw1] at hb1 hA1 ⊢
  have HB1 := Lib.hid hb1
  rw [hcb] at hA1 ⊢
  have HCB := Lib.hid hcb
  clear hw1 hcb
  refine (Cab.rCheck_yes r wd zs A c w1 (HI.out.keep hb1) hlen HOK.out).mono ?_
  rintro e w2 ⟨rfl, hb2⟩
  have HB2 := Lib.hid (ext_trans HB1.out hb2)
  have HA2 := Lib.hid (hA1.keep hb2)
  have hH2 := HH.out.keep HB2.out
  have y0 : w2.cell? ⟨b, 0, none⟩ = some (.bool true) := hH2.arr.cell 0
  have y1 : w2.cell? ⟨b, 1, none⟩ = some (.int .i64 n) := hH2.arr.cell 1
  have z0 : w2.cell? ⟨cb, 0, none⟩ = some (.int .i64 r) := HA2.out.cell 0
  have z1 : w2.cell? ⟨cb, 1, none⟩ = some (.int .i64 wd) := HA2.out.cell 1
  clear hb1 hb2 hA1 hH2
  go_wp2_with fail
  refine wp_region_quiet_lit (by kernel_rfl) (by kernel_rfl) ?_
  repeat (first | go_big_quiet_step ((fail)) | quiet_step ((fail)))
  refine wpQuiet_nil ?_
  intro _ hw'
  obtain ⟨nq, hw''⟩ := hw'
  subst hw''
  clear y0 y1 z0 z1
  go_wp2_with fail
  go_ret2
  exact ⟨rfl, by first | exact ext_drewN HB2.out _ | exact ext_drew HB2.out⟩
-- gangwayref29.Of
set_option maxRecDepth 100000 in
set_option maxHeartbeats 4000000 in
theorem rOf29_in (b n codes : Nat) (group next clock : Int) (l : List Raw) (VB : Option Addr) (vb : Nat) (r wd : Int) (zs : List Int) (A : Option Addr) (c : Nat) (w : World) (h : RBk w b n codes group next clock l VB vb) (hI : Cab.Ints w A zs) (hlen : zs.length ≤ 20000000000000) (hok : Cab.okC r wd zs = true) (hn : (n : Int) = r * wd) (hn2 : n ≤ 1024) (hl : l.length ≤ 1000000) (ws : Nat → Nat) (sb : Nat → Bkg)
    (hbits : ∀ k, k < n → (hasB ws k = true ↔ ∃ i, i < l.length ∧ (l.getD i r0).seat = (k : Int))) (hlies : ∀ i k : Nat, i < l.length → (l.getD i r0).seat = (k : Int) → sb k = toB (l.getD i r0)) (hids : ∀ x ∈ l, 0 ≤ x.id ∧ x.id < 4294967296) :
    Calls Tryz.prog 16 #[.agg #[.int .i64 r, .int .i64 wd, .slice A zs.length c], .pointer (some ⟨b, 0, none⟩)] w (OfOut (linesTo wd ws sb n) w) := by
  obtain ⟨i0, hi, hz0, hz1, hz2⟩ := info_parts line_info
  have hm : r * wd = (n : Int) := hn.symm
  have hnn : ((n : Int) != (n : Int)) = false := by simp
  have HH := Lib.hid h; have HI := Lib.hid hI; have HOK := Lib.hid hok; have HNN := Lib.hid hn; have HIDS := Lib.hid hids; have HBITS := Lib.hid hbits; have HLIES := Lib.hid hlies
  clear h hI hok hn hids hbits hlies
  go_enter Tryz.func16, Tryz.ntmps16
  go_wp2_with fail
  have hb1 : Below w.heap.size w (w.alloc (.cells #[.int .i64 r, .int .i64 wd, .slice A zs.length c] 24)) := ext_alloc (Below.refl _ _) _
  have hA1 := Arr.fresh w 24 #[.int .i64 r, .int .i64 wd, .slice A zs.length c]
  obtain ⟨w1, hw1⟩ : ∃ w1, w.alloc (.cells #[.int .i64 r, .int .i64 wd, .slice A zs.length c] 24) = w1 := ⟨_, rfl⟩
  obtain ⟨cb, hcb⟩ : ∃ cb, w.heap.size = cb := ⟨_, rfl⟩
  rw [hw1] at hb1 hA1 ⊢
  have HB1 := Lib.hid hb1
  rw [hcb] at hA1 ⊢
  have HCB := Lib.hid hcb
  clear hw1 hcb
  refine (Cab.rCheck_yes r wd zs A c w1 (HI.out.keep hb1) hlen HOK.out).mono ?_
  rintro e w2 ⟨rfl, hb2⟩
  have HB2 := Lib.hid (ext_trans HB1.out hb2)
  have HA2 := Lib.hid (hA1.keep hb2)
  have hH2 := HH.out.keep HB2.out
  have y0 : w2.cell? ⟨b, 0, none⟩ = some (.bool true) := hH2.arr.cell 0
  have y1 : w2.cell? ⟨b, 1, none⟩ = some (.int .i64 n) := hH2.arr.cell 1
  have z0 : w2.cell? ⟨cb, 0, none⟩ = some (.int .i64 r) := HA2.out.cell 0
  have z1 : w2.cell? ⟨cb, 1, none⟩ = some (.int .i64 wd) := HA2.out.cell 1
  clear hb1 hb2 hA1 hH2
  go_wp2_with fail
  refine wp_region_quiet_lit (by kernel_rfl) (by kernel_rfl) ?_
  repeat (first | go_big_quiet_step ((fail)) | quiet_step ((fail)))
  refine wpQuiet_nil ?_
  intro _ hw'
  obtain ⟨nq, hw''⟩ := hw'
  subst hw''
  clear y0 y1 z0 z1
  go_wp2_with fail
  have HB4 := Lib.hid (ext_drewN HB2.out nq)
  clear hm hnn
  go_loopw [7, 8] (fun v iv wr => ∃ (k : Nat) (vc : Nat) (VA : Option Addr), k ≤ n ∧ iv = .int .i64 k ∧ v = .slice VA (linesTo wd ws sb k).length vc ∧ RowIn (fun j => w.heap.size < j) wr 74 3 (.slice VA (linesTo wd ws sb k).length vc) (linesTo wd ws sb k).length (rowC (linesTo wd ws sb k)) ∧ Arr wr cb 24 #[.int .i64 r, .int .i64 wd, .slice A zs.length c] ∧ Below w.heap.size w wr) (fun _ iv _ => (n - intOf iv).toNat)
  case atStart => exact ⟨0, 0, none, Nat.zero_le _, rfl, rfl, RowIn.nil _ _ _ _ _, HA2.out.drewN _, HB4.out⟩
  case round =>
    obtain ⟨k, vc, VA, hk, rfl, rfl, hR, hA, hB⟩ := hrel
    clear HB4 HA2 HB2
    have hH := HH.out.keep hB
    have y0 : wr.cell? ⟨b, 0, none⟩ = some (.bool true) := hH.arr.cell 0
    have y1 : wr.cell? ⟨b, 1, none⟩ = some (.int .i64 n) := hH.arr.cell 1
    have HR := Lib.hid hR; have HA := Lib.hid hA; have HB := Lib.hid hB; have HH2 := Lib.hid hH
    clear hR hA hB hH
    have hlk := linesTo_len wd ws sb k
    obtain ⟨ls, hls⟩ : ∃ ls, linesTo wd ws sb k = ls := ⟨_, rfl⟩
    rw [hls] at HR hlk ⊢
    have HLE := Lib.hid hls
    clear hls
    by_cases hkl : k < n
    · have hk1 : (k : Int) < (n : Int) := by omega
      have hk0 : (0 : Int) ≤ (k : Int) := by omega
      have HLS := Lib.hid (show ls.length ≤ 1024 by omega)
      go_wp2_with fail
      clear y0 y1
      refine (rAt b n codes group next clock l VB vb k wr HH2.out hl hkl hn2).mono ?_
      rintro e w5 ⟨hat, hb5⟩
      rcases hat with ⟨rfl, hno⟩ | ⟨i, hil, hse, rfl⟩
      · have hv : hasB ws k = false := by
          cases hv : hasB ws k with
          | false => rfl
          | true =>
            obtain ⟨i, hi, e⟩ := (HBITS.out k hkl).1 hv
            exact absurd e (hno i hi)
        have HSTEP := Lib.hid (show linesTo wd ws sb (k + 1) = ls from by rw [linesTo, hv]; exact HLE.out)
        clear hv hno
        have hbn : Below wr.heap.size wr (w5.alloc (.cells #[.int .u32 0, .int .i64 0, .int .i64 0] 78)) := ext_alloc hb5 _
        have HR5 := Lib.hid (HR.out.keep hbn)
        have HA5 := Lib.hid (HA.out.keep hbn)
        have HB5 := Lib.hid (ext_trans HB.out hbn)
        clear hb5 hbn
        go_wp2_with fail
        go_roundw
        case rel => exact ⟨k + 1, vc, VA, by omega, by go_num, by rw [HSTEP.out], by rw [HSTEP.out]; exact HR5.out, HA5.out, HB5.out⟩
        case measure => simp [intOf]; omega
      · have hv : hasB ws k = true := (HBITS.out k hkl).2 ⟨i, hil, hse⟩
        have hsb := HLIES.out i k hil hse
        have hxid := HIDS.out (l.getD i r0) (by rw [List.getD_eq_getElem?_getD, List.getElem?_eq_getElem hil]; exact List.getElem_mem hil)
        obtain ⟨m, hm0⟩ : ∃ m : Nat, (l.getD i r0).id = (m : Int) := ⟨(l.getD i r0).id.toNat, by omega⟩
        have hm : m < 4294967296 := by omega
        obtain ⟨row, col, hrow, hcol, _, _, _, _, _⟩ := Cab.seat_rc HOK.out hk0 (by rw [← HNN.out]; exact hk1)
        obtain ⟨til, htil⟩ : ∃ til : Int, (l.getD i r0).til = til := ⟨_, rfl⟩
        rw [hm0, hse, htil]
        obtain ⟨hd, hhd⟩ : ∃ hd : Bool, (til != 0) = hd := ⟨_, rfl⟩
        have hline : lineAt wd k (sb k) = ⟨⟨(Cab.seatT row col).toArray⟩, ⟨(Cod.txt m).toArray⟩, hd⟩ := by
          unfold lineAt
          rw [hrow, hcol, hsb]
          simp only [toB, hm0, htil, Int.toNat_natCast]
          rw [← hhd]; rfl
        have HSTEP := Lib.hid (show linesTo wd ws sb (k + 1) = ls ++ [⟨⟨(Cab.seatT row col).toArray⟩, ⟨(Cod.txt m).toArray⟩, hd⟩] from by rw [linesTo, if_pos hv, HLE.out, hline])
        have HTX := Lib.hid (fun W (hb : Below w.heap.size w W) => Cab.rText_yes r wd zs A c k row col W (HI.out.keep hb) hlen HOK.out hk0 (by rw [← HNN.out]; exact hk1) hrow hcol)
        have LONE := Lib.hid (lineL_one ⟨⟨(Cab.seatT row col).toArray⟩, ⟨(Cod.txt m).toArray⟩, hd⟩)
        clear hv hsb hxid hm0 hrow hcol htil hline hse
        have hcA := HA.out.keep hb5
        have z0 : w5.cell? ⟨cb, 0, none⟩ = some (.int .i64 r) := hcA.cell 0
        have z1 : w5.cell? ⟨cb, 1, none⟩ = some (.int .i64 wd) := hcA.cell 1
        have z2 : w5.cell? ⟨cb, 2, none⟩ = some (.slice A zs.length c) := hcA.cell 2
        have hcbl := hcA.lt
        have hbn : Below wr.heap.size wr (w5.alloc (.cells #[.int .u32 (m : Int), .int .i64 (k : Int), .int .i64 til] 78)) := ext_alloc hb5 _
        have HBN := Lib.hid hbn
        have HZ5 := Lib.hid hb5.size
        have HZB := Lib.hid (show w.heap.size < w5.heap.size by have h1 := HA.out.lt; have h2 := hb5.size; have h3 := HCB.out; omega)
        clear hbn hcA hb5
        go_wp2_with fail
        have hA6 := Arr.fresh w5 78 #[.int .u32 (m : Int), .int .i64 (k : Int), .int .i64 til]
        have hbn := HBN.out
        obtain ⟨w6, hw6⟩ : ∃ w6, w5.alloc (.cells #[.int .u32 (m : Int), .int .i64 (k : Int), .int .i64 til] 78) = w6 := ⟨_, rfl⟩
        obtain ⟨xb, hxb⟩ : ∃ xb, w5.heap.size = xb := ⟨_, rfl⟩
        rw [hw6] at hA6 hbn ⊢
        have HZB' := Lib.hid (show w.heap.size < xb by rw [← hxb]; exact HZB.out)
        have HXB := Lib.hid (show ∀ j, (Value.slice VA ls.length vc).ownBlock = some j → j ≠ xb from fun j hj => by
          have h1 := (own_lt HR.out.own hj).1
          have h2 := HZ5.out
          omega)
        rw [hxb] at hA6 ⊢
        have hR6 := HR.out.keep hbn
        have hC6 := HA.out.keep hbn
        have hB6 := ext_trans HB.out hbn
        clear hw6 hxb z0 z1 z2 hcbl hbn
        refine (HTX.out w6 hB6).mono ?_
        rintro e w7 ⟨rfl, hb7⟩
        have HA7 := Lib.hid (hA6.keep hb7)
        have HR7 := Lib.hid (hR6.keep hb7)
        have HC7 := Lib.hid (hC6.keep hb7)
        have HB7 := Lib.hid (ext_trans hB6 hb7)
        have x0 : w7.cell? ⟨xb, 0, none⟩ = some (.int .u32 (m : Int)) := (hA6.keep hb7).cell 0
        have x2 : w7.cell? ⟨xb, 2, none⟩ = some (.int .i64 til) := (hA6.keep hb7).cell 2
        clear hA6 hR6 hC6 hB6 hb7
        go_wp2_with fail
        refine region_any_drew (by kernel_rfl) ?_
        refine AnyTill.any (S := (fun w' => w'.cell? ⟨xb, 0, none⟩ = some (.int .u32 (m : Int)) ∧ w'.cell? ⟨xb, 2, none⟩ = some (.int .i64 til))) (t := 11) _ _ _ _ ?_
        have hHeld := (show (fun w' => w'.cell? ⟨xb, 0, none⟩ = some (.int .u32 (m : Int)) ∧ w'.cell? ⟨xb, 2, none⟩ = some (.int .i64 til)) w7.drew from ⟨x0, x2⟩)
        refine till_take (i := 0) (oi := ?o1) (d := (some 57)) (v := ?v1) ?hi1 (by kernel_rfl) (by kernel_rfl) (by kernel_rfl) (by kernel_rfl) (by kernel_rfl) (fun _ _ _ h => h) ?hd1 ?hw1 ?hy1 hHeld ?_
        case hi1 => (simp only [List.getElem?_toArray, List.getElem?_cons_zero]; exact rfl)
        case hd1 => rfl
        case hw1 => rfl
        case hy1 => (intro w hSw; (try dsimp only at hSw); go_simp; try with_reducible rfl)
        try simp only [Act.put, List.setIfInBounds_toArray, List.set_cons_zero, List.set_cons_succ]
        refine till_take (i := 1) (oi := ?o2) (d := (some 58)) (v := ?v2) ?hi2 (by kernel_rfl) (by kernel_rfl) (by kernel_rfl) (by kernel_rfl) (by kernel_rfl) (fun _ _ _ h => h) ?hd2 ?hw2 ?hy2 hHeld ?_
        case hi2 => (simp only [List.getElem?_toArray, List.getElem?_cons_zero, List.getElem?_cons_succ]; exact rfl)
        case hd2 => rfl
        case hw2 => rfl
        case hy2 => (intro w hSw; (try dsimp only at hSw); go_simp; try with_reducible rfl)
        try simp only [Act.put, List.setIfInBounds_toArray, List.set_cons_zero, List.set_cons_succ]
        refine till_take (i := 2) (oi := ?o3) (d := (some 59)) (v := ?v3) ?hi3 (by kernel_rfl) (by kernel_rfl) (by kernel_rfl) (by kernel_rfl) (by kernel_rfl) (fun _ _ _ h => h) ?hd3 ?hw3 ?hy3 hHeld ?_
        case hi3 => (simp only [List.getElem?_toArray, List.getElem?_cons_zero, List.getElem?_cons_succ]; exact rfl)
        case hd3 => rfl
        case hw3 => rfl
        case hy3 => (intro w hSw; (try dsimp only at hSw); go_simp; try with_reducible rfl)
        try simp only [Act.put, List.setIfInBounds_toArray, List.set_cons_zero, List.set_cons_succ]
        refine till_take (i := 3) (oi := ?o4) (d := (some 60)) (v := ?v4) ?hi4 (by kernel_rfl) (by kernel_rfl) (by kernel_rfl) (by kernel_rfl) (by kernel_rfl) (fun _ _ _ h => h) ?hd4 ?hw4 ?hy4 hHeld ?_
        case hi4 => (simp only [List.getElem?_toArray, List.getElem?_cons_zero, List.getElem?_cons_succ]; exact rfl)
        case hd4 => rfl
        case hw4 => rfl
        case hy4 => (intro w hSw; (try dsimp only at hSw); go_simp; try with_reducible rfl)
        try simp only [Act.put, List.setIfInBounds_toArray, List.set_cons_zero, List.set_cons_succ]
        refine till_take (i := 5) (oi := ?o5) (d := (some 62)) (v := ?v5) ?hi5 (by kernel_rfl) (by kernel_rfl) (by kernel_rfl) (by kernel_rfl) (by kernel_rfl) (fun _ _ _ h => h) ?hd5 ?hw5 ?hy5 hHeld ?_
        case hi5 => (simp only [List.getElem?_toArray, List.getElem?_cons_zero, List.getElem?_cons_succ]; exact rfl)
        case hd5 => rfl
        case hw5 => rfl
        case hy5 => (intro w hSw; (try dsimp only at hSw); go_simp; try with_reducible rfl)
        try simp only [Act.put, List.setIfInBounds_toArray, List.set_cons_zero, List.set_cons_succ]
        refine till_take (i := 6) (oi := ?o6) (d := (some 63)) (v := ?v6) ?hi6 (by kernel_rfl) (by kernel_rfl) (by kernel_rfl) (by kernel_rfl) (by kernel_rfl) (fun _ _ _ h => h) ?hd6 ?hw6 ?hy6 hHeld ?_
        case hi6 => (simp only [List.getElem?_toArray, List.getElem?_cons_zero, List.getElem?_cons_succ]; exact rfl)
        case hd6 => rfl
        case hw6 => rfl
        case hy6 => (intro w hSw; (try dsimp only at hSw); go_simp; try with_reducible rfl)
        try simp only [Act.put, List.setIfInBounds_toArray, List.set_cons_zero, List.set_cons_succ]
        refine till_take (i := 7) (oi := ?o7) (d := (some 64)) (v := ?v7) ?hi7 (by kernel_rfl) (by kernel_rfl) (by kernel_rfl) (by kernel_rfl) (by kernel_rfl) (fun _ _ _ h => h) ?hd7 ?hw7 ?hy7 hHeld ?_
        case hi7 => (simp only [List.getElem?_toArray, List.getElem?_cons_zero, List.getElem?_cons_succ]; exact rfl)
        case hd7 => rfl
        case hw7 => rfl
        case hy7 => (intro w hSw; (try dsimp only at hSw); go_simp; try with_reducible rfl)
        try simp only [Act.put, List.setIfInBounds_toArray, List.set_cons_zero, List.set_cons_succ]
        refine AnyTill.step (i := 4) (by kernel_rfl) (by kernel_rfl) rfl (fun K hK => ?_)
        go_simp
        refine (Cod.rText m hm w7.drew).mono ?_
        rintro e w8 ⟨rfl, hb8⟩
        have hA8 := (HA7.out.drew).keep hb8
        have y0 : w8.cell? ⟨xb, 0, none⟩ = some (.int .u32 (m : Int)) := hA8.cell 0
        have y2 : w8.cell? ⟨xb, 2, none⟩ = some (.int .i64 til) := hA8.cell 2
        have hR8 := (HR7.out.keep (ext_trans (ext_drew (Below.refl _ _)) hb8))
        have HB8 := Lib.hid (ext_trans HB7.out (ext_trans (ext_drew (Below.refl _ _)) hb8))
        have hbn : Below w8.heap.size w8 (w8.alloc (.cells #[.string ⟨(Cab.seatT row col).toArray⟩, .string ⟨(Cod.txt m).toArray⟩, .bool hd] 74)) := ext_alloc (Below.refl _ _) _
        have HA9 := Lib.hid (hA8.keep hbn)
        have HR9 := Lib.hid (hR8.keep hbn)
        have HB9 := Lib.hid (ext_trans HB8.out hbn)
        have HB79 := Lib.hid (ext_trans (ext_trans (ext_drew (Below.refl w7.heap.size w7)) hb8) hbn)
        have HZ8 := Lib.hid (show w7.heap.size ≤ w8.heap.size from hb8.size)
        have HNW := Lib.hid (news_any w8 [.string ⟨(Cab.seatT row col).toArray⟩, .string ⟨(Cod.txt m).toArray⟩, .bool hd] 74)
        clear hb8 hA8 hR8 hbn
        go_wp2_with fail
        refine hK.out _ _ (by first | exact ⟨y0', y2'⟩ | exact ⟨y0, y2⟩ | exact ⟨HA9.out.cell 0, HA9.out.cell 2⟩) (fun hHeld4 => ?_)
        clear hK K
        try simp only [Act.put, List.setIfInBounds_toArray, List.set_cons_zero, List.set_cons_succ]
        refine till_pure (i := 8) (oi := ?o8) (d := (some 65)) (v := ?v8) ?hi8 (by kernel_rfl) (by kernel_rfl) (by kernel_rfl) (by kernel_rfl) (fun _ _ _ h => h) ?hd8 ?hw8 ?hy8 hHeld4 ?_
        case hi8 => (simp only [List.getElem?_toArray, List.getElem?_cons_zero, List.getElem?_cons_succ]; exact rfl)
        case hd8 => rfl
        case hw8 => rfl
        case hy8 => (intro w; go_simp; try with_reducible rfl)
        try simp only [Act.put, List.setIfInBounds_toArray, List.set_cons_zero, List.set_cons_succ]
        refine AnyTill.step (i := 9) (by kernel_rfl) (by kernel_rfl) rfl (fun K hK => ?_)
        go_simp
        go_wp2_with fail
        refine hK.out _ _ (by first | exact ⟨y0', y2'⟩ | exact ⟨y0, y2⟩ | exact ⟨HA9.out.cell 0, HA9.out.cell 2⟩) (fun hHeld9 => ?_)
        clear hK K
        try simp only [Act.put, List.setIfInBounds_toArray, List.set_cons_zero, List.set_cons_succ]
        refine AnyTill.step (i := 10) (by kernel_rfl) (by kernel_rfl) rfl (fun K hK => ?_)
        rw [if_pos (by rfl)]
        refine wp_append_elem _ (.tmp 57) (.tmp 66) 39 rfl 74 i0 (.agg #[.string ⟨#[]⟩, .string ⟨#[]⟩, .bool false]) 3 40 Tryz.underlying39 hi hz0 hz1 hz2 rfl (by decide) (.slice VA ls.length vc) ls.length (rowC ls) rfl HR9.out ⟨w8.heap.size, 0, none⟩ 1 [.string ⟨(Cab.seatT row col).toArray⟩, .string ⟨(Cod.txt m).toArray⟩, .bool hd] rfl rfl HNW.out LONE.out (by have := HLS.out; unfold maxLen; omega) (by have := HLS.out; omega) ?_
        intro g2 cp2 w10 hr10 hg10
        have hA10 := (hg10.block xb HA9.out.lt (fun e => by
          exact HXB.out xb e.symm rfl)).trans HA9.out
        have y0' : w10.cell? ⟨xb, 0, none⟩ = some (.int .u32 (m : Int)) := Arr.cell hA10 0
        have y2' : w10.cell? ⟨xb, 2, none⟩ = some (.int .i64 til) := Arr.cell hA10 2
        have HR10 := Lib.hid hr10
        have HG10 := Lib.hid hg10
        clear hr10 hg10 hA10
        refine hK.out _ _ (by first | exact ⟨y0', y2'⟩ | exact ⟨y0, y2⟩ | exact ⟨HA9.out.cell 0, HA9.out.cell 2⟩) (fun hHeld10 => ?_)
        clear hK K
        try simp only [Act.put, List.setIfInBounds_toArray, List.set_cons_zero, List.set_cons_succ]
        refine AnyTill.last (by kernel_rfl) ?_
        refine any_drop 11 (by kernel_rfl) (by kernel_rfl) ?_
        simp only [List.drop_succ_cons, List.drop_zero]
        go_wp2_with fail
        have hC9 := HC7.out.keep (HB79.out)
        have hS9 : ∀ j, (Value.slice VA ls.length vc).ownBlock = some j → w.heap.size < j := fun j hj => HR9.out.block j hj
        have hC10 := (HG10.out.block cb hC9.lt (fun e => by have h1 := hS9 cb e.symm; have h2 := HCB.out; omega)).trans hC9
        have hB10 : Below w.heap.size w w10 := HB9.out.grown HG10.out HB9.out.size (fun j hj => Nat.le_of_lt (hS9 j hj))
        have hr10 := HR10.out
        have hrs : setL (rowC ls) ls.length [.string ⟨(Cab.seatT row col).toArray⟩, .string ⟨(Cod.txt m).toArray⟩, .bool hd] = rowC (ls ++ [⟨⟨(Cab.seatT row col).toArray⟩, ⟨(Cod.txt m).toArray⟩, hd⟩]) := rowC_snoc ls ⟨⟨(Cab.seatT row col).toArray⟩, ⟨(Cod.txt m).toArray⟩, hd⟩
        rw [hrs] at hr10
        have hr11 := hr10.mono (T := fun j => w.heap.size < j) (fun j hj _ => by
          rcases hj with hj | hj
          · exact hj
          · have h1 := HB8.out.size
            have h2 : w.heap.size < xb := HZB'.out
            have h6 := HA7.out.lt
            have h5 := HZ8.out
            simp at hj
            omega)
        have HR11 := Lib.hid hr11; have HC11 := Lib.hid hC10; have HB11 := Lib.hid hB10
        clear hC9 hS9 hC10 hB10 hr10 hrs hr11
        go_roundw
        case rel => exact ⟨k + 1, cp2, some ⟨g2, 0, none⟩, by omega, by go_num, by rw [HSTEP.out]; simp, by rw [HSTEP.out, List.length_append]; exact HR11.out, HC11.out, HB11.out⟩
        case measure => simp [intOf]; omega
    · obtain rfl : k = n := by omega
      go_wp2_with fail
      go_ret2
      refine ⟨_, rfl, ?_, HB.out⟩
      rw [HLE.out]
      exact HR.out.mono fun j hj _ => Nat.le_of_lt hj


end Go.Proofs.YtpoijhjjbmaedaaGreatDoor.Man
