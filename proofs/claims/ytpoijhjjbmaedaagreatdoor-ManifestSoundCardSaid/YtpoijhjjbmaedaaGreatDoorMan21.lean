/- The reference's Sound; the law of any bookings. -/
import Derived.Test.YtpoijhjjbmaedaaGreatDoorMan18
import Derived.Test.YtpoijhjjbmaedaaGreatDoorMan19
import Derived.Test.YtpoijhjjbmaedaaGreatDoorManB
set_option linter.unusedVariables false
set_option linter.unusedSimpArgs false
namespace Go.Proofs.YtpoijhjjbmaedaaGreatDoor.Man
open Go.RowKit
open Go.Proofs.YtpoijhjjbmaedaaGreatDoor.Bk (Bkg Raw rawL Raws bookOf ofR mayR toB)

set_option maxRecDepth 100000 in
set_option maxHeartbeats 1000000 in
theorem rSound_shape (a b c clock : Int) (A : Option Addr) (len cap : Nat) (w : World) (h : Geo.okS a b c = false) : Calls Tryz.prog 27 #[.agg #[.int .i64 a, .int .i64 b, .int .i64 c], .slice A len cap, .int .i64 clock] w fun e w' => e = .returned (.bool false) ∧ Below w.heap.size w w' := by
  have HC := Lib.hid (fun W => Geo.rcheck_no a b c W h)
  clear h
  go_enter Tryz.func27, Tryz.ntmps27
  go_wp2_with fail
  refine (HC.out _).mono ?_
  rintro e w1 ⟨rfl, hb⟩
  have HB := Lib.hid (ext_trans (ext_alloc (Below.refl w.heap.size w) (.cells #[.int .i64 a, .int .i64 b, .int .i64 c] 26)) hb)
  clear hb
  go_wp2_with fail
  go_ret
  exact ⟨rfl, HB.out⟩

set_option maxRecDepth 100000 in
set_option maxHeartbeats 1000000 in
theorem rSound_in (n codes : Nat) (group clock : Int) (l : List Raw) (A : Option Addr) (cap : Nat) (w : World) (h : Geo.okS n codes group = true) (hr : Raws w A l) (hl : l.length ≤ 17592186043904) (hids : ∀ x ∈ l, 0 ≤ x.id ∧ x.id < 4294967296) :
    Calls Tryz.prog 27 #[.agg #[.int .i64 n, .int .i64 codes, .int .i64 group], .slice A l.length cap, .int .i64 clock] w fun e w' => e = .returned (.bool (bookOf n codes 4294967295 clock l).isSome) ∧ Below w.heap.size w w' := by
  have hok := Geo.okS_yes h
  have hn : n ≤ 1024 := by omega
  have hcd : codes ≤ 4096 := by omega
  have HC := Lib.hid (fun W => Geo.rcheck_yes n codes group W h)
  have hb0 := ext_alloc (Below.refl w.heap.size w) (.cells #[.int .i64 n, .int .i64 codes, .int .i64 group] 26)
  have hA0 := Arr.fresh w 26 #[.int .i64 n, .int .i64 codes, .int .i64 group]
  have HB0 := Lib.hid hb0; have HA0 := Lib.hid hA0; have HR := Lib.hid hr; have HIDS := Lib.hid hids
  clear h hok hb0 hA0 hr hids
  go_enter Tryz.func27, Tryz.ntmps27
  go_wp2_with fail
  refine (HC.out _).mono ?_
  rintro e w1 ⟨rfl, hb1⟩
  have hA1 := HA0.out.keep hb1
  have HB1 := Lib.hid (ext_trans HB0.out hb1)
  have x0 : w1.cell? ⟨w.heap.size, 0, none⟩ = some (.int .i64 n) := hA1.cell 0
  have x1 : w1.cell? ⟨w.heap.size, 1, none⟩ = some (.int .i64 codes) := hA1.cell 1
  have x2 : w1.cell? ⟨w.heap.size, 2, none⟩ = some (.int .i64 group) := hA1.cell 2
  clear hb1 hA1
  go_wp2_with fail
  have hb2 := ext_alloc (Below.refl w1.heap.size w1) (.cells #[.bool true, .int .i64 n, .int .i64 codes, .int .i64 group, .slice A l.length cap, .int .u32 4294967295, .int .i64 clock] 52)
  have HB2 := Lib.hid (ext_trans HB1.out hb2)
  refine (rMay_in w1.heap.size n codes group 4294967295 clock l A cap _ (Arr.fresh w1 52 _) (HR.out.keep HB2.out) hn hcd hl (by omega) HIDS.out).mono ?_
  rintro e w3 ⟨rfl, hb3⟩
  go_wp2_with fail
  go_ret
  exact ⟨rfl, ext_trans HB2.out hb3⟩

set_option maxRecDepth 100000 in
set_option maxHeartbeats 2000000 in
theorem SoundLaw_in (a b c clock : Int) (l : List Raw) (A : Option Addr) (cap : Nat) (w : World) (hw : Wd w) (h : Raws w A l) (hA : A = none → l = [] ∧ cap = 0) (hl24 : l.length * 24 ≤ 140737488351232) (hids : ∀ x ∈ l, 0 ≤ x.id ∧ x.id < 4294967296) :
    Calls Tryz.prog 6 #[.agg #[.int .i64 a, .int .i64 b, .int .i64 c], .slice A l.length cap, .int .i64 clock] w fun e w' => e = .returned (.bool true) ∧ Below w.heap.size w w' := by
  have hll : l.length ≤ 17592186043904 := by omega
  have hb0 := ext_alloc (Below.refl w.heap.size w) (.cells #[.int .i64 a, .int .i64 b, .int .i64 c] 26)
  have hA0 := Arr.fresh w 26 #[.int .i64 a, .int .i64 b, .int .i64 c]
  have HB0 := Lib.hid hb0; have HA0 := Lib.hid hA0
  have HW := Lib.hid hw
  have HH := Lib.hid h
  have HAA := Lib.hid hA
  have HIDS := Lib.hid hids
  clear hw h hA hb0 hA0 hids
  go_enter Tryz.func6, Tryz.ntmps6
  go_wp2_with fail
  refine (awake_in _ (HW.out.keep HB0.out)).mono ?_
  rintro e w1 ⟨rfl, hb1⟩
  have HB1 := Lib.hid (ext_trans HB0.out hb1)
  have HA1 := Lib.hid (HA0.out.keep hb1)
  clear hb1
  by_cases hbig : (1100 : Int) < (l.length : Int)
  · go_wp2_with fail
    go_ret
    exact ⟨rfl, HB1.out⟩
  have hle : (l.length : Int) ≤ 1100 := by omega
  go_wp2_with fail
  refine (LentBookings_in l A cap w1 (HH.out.keep HB1.out) HAA.out hl24).mono ?_
  rintro e w2 ⟨g, cap2, rfl, hr2, hb2⟩
  have HB2 := Lib.hid (ext_trans HB1.out hb2)
  have hA2 := HA1.out.keep hb2
  have HR2 := Lib.hid hr2
  have hl2 : Raws w2 (some ⟨g, 0, none⟩) l := fun _ => ⟨g, 0, rfl, (own_lt hr2.own rfl).1, fun k hk => by
    have := hr2.range (rowR_len _) (i := k) (by omega)
    rw [rowR_left hk] at this
    rw [Nat.zero_add]; exact this⟩
  have HL2 := Lib.hid hl2
  have x0 : w2.cell? ⟨w.heap.size, 0, none⟩ = some (.int .i64 a) := hA2.cell 0
  have x1 : w2.cell? ⟨w.heap.size, 1, none⟩ = some (.int .i64 b) := hA2.cell 1
  have x2 : w2.cell? ⟨w.heap.size, 2, none⟩ = some (.int .i64 c) := hA2.cell 2
  have HA2 := Lib.hid hA2
  clear hb2 hr2 hl2 hA2
  have hans : ∃ r : Bool, (∀ W, Below w2.heap.size w2 W → Calls Tryz.prog 26 #[.agg #[.int .i64 a, .int .i64 b, .int .i64 c], .slice (some ⟨g, 0, none⟩) l.length cap2, .int .i64 clock] W fun e w' => e = .returned (.bool r) ∧ Below W.heap.size W w') ∧
      (∀ W, Below w2.heap.size w2 W → Calls Tryz.prog 27 #[.agg #[.int .i64 a, .int .i64 b, .int .i64 c], .slice A l.length cap, .int .i64 clock] W fun e w' => e = .returned (.bool r) ∧ Below W.heap.size W w') := by
    cases hok : Geo.okS a b c with
    | false => exact ⟨false, fun W _ => Sound_shape a b c clock _ _ _ W hok, fun W _ => rSound_shape a b c clock _ _ _ W hok⟩
    | true =>
      have h9 := Geo.okS_yes hok
      obtain ⟨n, rfl⟩ : ∃ n : Nat, a = (n : Int) := ⟨a.toNat, by omega⟩
      obtain ⟨codes, rfl⟩ : ∃ n : Nat, b = (n : Int) := ⟨b.toNat, by omega⟩
      exact ⟨_, fun W hW => Sound_in n codes c clock l _ _ W hok (HL2.out.keep hW) hll HIDS.out, fun W hW => rSound_in n codes c clock l _ _ W hok (HH.out.keep (ext_trans HB2.out hW)) hll HIDS.out⟩
  obtain ⟨r, hs1, hs2⟩ := hans
  have HS1 := Lib.hid hs1; have HS2 := Lib.hid hs2
  clear hs1 hs2
  go_wp2_with fail
  refine (HS1.out _ (Below.refl _ _)).mono ?_
  rintro e w3 ⟨rfl, hb3⟩
  have HB3 := Lib.hid hb3
  have hA3 := HA2.out.keep hb3
  have y0 : w3.cell? ⟨w.heap.size, 0, none⟩ = some (.int .i64 a) := hA3.cell 0
  have y1 : w3.cell? ⟨w.heap.size, 1, none⟩ = some (.int .i64 b) := hA3.cell 1
  have y2 : w3.cell? ⟨w.heap.size, 2, none⟩ = some (.int .i64 c) := hA3.cell 2
  clear hb3 hA3 x0 x1 x2
  go_wp2_with fail
  refine (HS2.out _ HB3.out).mono ?_
  rintro e w4 ⟨rfl, hb4⟩
  have HB4 := Lib.hid (ext_trans HB3.out hb4)
  clear hb4
  go_wp2_with fail
  refine (KeptBookings_in _ l g cap2 A cap w4 (HR2.out.keep HB4.out) (HH.out.keep (ext_trans HB2.out HB4.out)) hl24).mono ?_
  rintro e w5 ⟨rfl, hb5⟩
  go_wp2_with fail
  go_ret
  exact ⟨rfl, ext_trans (ext_trans HB2.out HB4.out) hb5⟩

end Go.Proofs.YtpoijhjjbmaedaaGreatDoor.Man
