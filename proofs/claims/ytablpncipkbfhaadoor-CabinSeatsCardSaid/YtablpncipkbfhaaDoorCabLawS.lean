/- CabinSeats: every two seats of every cabin. -/
import Derived.Test.YtablpncipkbfhaaDoorCabAw
import Derived.Test.YtablpncipkbfhaaDoorCab10
namespace Go.Proofs.YtablpncipkbfhaaDoor.Cab
open Go.RowKit

set_option maxRecDepth 100000 in
set_option maxHeartbeats 1000000 in
theorem Seats_bad2 (r wd : Int) (zs : List Int) (A : Option Addr) (c : Nat) (a b : Int)  (w : World) (hI : Ints w A zs) (hN : A = none → zs = [] ∧ c = 0) (hlen : zs.length ≤ 17592186043904) (hev : EV w)
    (hp1 : ∀ A c w, Ints w A zs → Calls Tryd.prog 16 #[.agg #[.int .i64 r, .int .i64 wd, .slice A zs.length c], .int .i64 a] w fun e w' => e = .returned (.tuple #[.string ⟨#[]⟩, .int .i64 2]) ∧ Below w.heap.size w w')
    (hp2 : ∀ A c w, Ints w A zs → Calls Tryd.prog 17 #[.agg #[.int .i64 r, .int .i64 wd, .slice A zs.length c], .int .i64 a] w fun e w' => e = .returned (.tuple #[.int .i64 0, .int .i64 0, .int .i64 2]) ∧ Below w.heap.size w w')
    (hp3 : ∀ A c w, Ints w A zs → Calls Tryd.prog 20 #[.agg #[.int .i64 r, .int .i64 wd, .slice A zs.length c], .int .i64 a] w fun e w' => e = .returned (.tuple #[.bool false, .bool false, .int .i64 2]) ∧ Below w.heap.size w w')
    (hp4 : ∀ A c w, Ints w A zs → Calls Tryd.prog 19 #[.agg #[.int .i64 r, .int .i64 wd, .slice A zs.length c], .int .i64 a, .int .i64 b] w fun e w' => e = .returned (.tuple #[.bool false, .int .i64 2]) ∧ Below w.heap.size w w')
    (hp5 : ∀ A c w, Ints w A zs → Calls Tryd.prog 21 #[.agg #[.int .i64 r, .int .i64 wd, .slice A zs.length c], .int .i64 a] w fun e w' => e = .returned (.tuple #[.string ⟨#[]⟩, .int .i64 2]) ∧ Below w.heap.size w w')
    (hp6 : ∀ A c w, Ints w A zs → Calls Tryd.prog 22 #[.agg #[.int .i64 r, .int .i64 wd, .slice A zs.length c], .int .i64 a] w fun e w' => e = .returned (.tuple #[.bool false, .bool false, .int .i64 2]) ∧ Below w.heap.size w w')
    (hp7 : ∀ A c w, Ints w A zs → Calls Tryd.prog 23 #[.agg #[.int .i64 r, .int .i64 wd, .slice A zs.length c], .int .i64 a, .int .i64 b] w fun e w' => e = .returned (.tuple #[.bool false, .int .i64 2]) ∧ Below w.heap.size w w') :
    Calls Tryd.prog 6 #[.agg #[.int .i64 r, .int .i64 wd, .slice A zs.length c], .int .i64 a, .int .i64 b] w fun e w' => e = .returned (.bool true) ∧ Below w.heap.size w w' := by
  have HE := Lib.hid (hev.keep (ext_alloc (Below.refl _ w) (.cells #[.int .i64 r, .int .i64 wd, .slice A zs.length c] 24)))
  have HI := Lib.hid hI
  have HN := Lib.hid hN
  have H1 := Lib.hid hp1
  have H2 := Lib.hid hp2
  have H3 := Lib.hid hp3
  have H4 := Lib.hid hp4
  have H5 := Lib.hid hp5
  have H6 := Lib.hid hp6
  have H7 := Lib.hid hp7
  clear hI hev hN hp1 hp2 hp3 hp4 hp5 hp6 hp7
  go_enter Tryd.func6, Tryd.ntmps6
  go_wp2_with fail
  refine (Awake _ HE.out).mono ?_
  rintro e w1 ⟨rfl, hb⟩
  have hA1 := (Arr.fresh w 24 #[.int .i64 r, .int .i64 wd, .slice A zs.length c]).keep hb
  have hb1 := ext_trans (ext_alloc (Below.refl _ w) _) hb
  clear hb HE
  have x0 : w1.cell? ⟨w.heap.size, 0, none⟩ = some (.int .i64 r) := hA1.cell 0
  have x1 : w1.cell? ⟨w.heap.size, 1, none⟩ = some (.int .i64 wd) := hA1.cell 1
  have x2 : w1.cell? ⟨w.heap.size, 2, none⟩ = some (.slice A zs.length c) := hA1.cell 2
  go_wp2_with fail
  refine (CopyCabin r wd zs A c _ (HI.out.keep hb1) HN.out hlen).mono ?_
  rintro e w2 ⟨A2, c2, rfl, hi, hb⟩
  have hA2 := hA1.keep hb
  have hb2 := ext_trans hb1 hb
  have I2 := Lib.hid hi
  clear hi hb hA1 hb1 x0 x1 x2
  go_wp2_with fail
  refine (H1.out _ _ _ I2.out).mono ?_
  rintro e w3 ⟨rfl, hb⟩
  have hA3 := hA2.keep hb
  have hb3 := ext_trans hb2 hb
  clear hb hA2 hb2 I2
  have x0 : w3.cell? ⟨w.heap.size, 0, none⟩ = some (.int .i64 r) := hA3.cell 0
  have x1 : w3.cell? ⟨w.heap.size, 1, none⟩ = some (.int .i64 wd) := hA3.cell 1
  have x2 : w3.cell? ⟨w.heap.size, 2, none⟩ = some (.slice A zs.length c) := hA3.cell 2
  go_wp2_with fail
  refine (CopyCabin r wd zs A c _ (HI.out.keep hb3) HN.out hlen).mono ?_
  rintro e w4 ⟨A4, c4, rfl, hi, hb⟩
  have hA4 := hA3.keep hb
  have hb4 := ext_trans hb3 hb
  have I4 := Lib.hid hi
  clear hi hb hA3 hb3 x0 x1 x2
  go_wp2_with fail
  refine (H2.out _ _ _ I4.out).mono ?_
  rintro e w5 ⟨rfl, hb⟩
  have hA5 := hA4.keep hb
  have hb5 := ext_trans hb4 hb
  clear hb hA4 hb4 I4
  have x0 : w5.cell? ⟨w.heap.size, 0, none⟩ = some (.int .i64 r) := hA5.cell 0
  have x1 : w5.cell? ⟨w.heap.size, 1, none⟩ = some (.int .i64 wd) := hA5.cell 1
  have x2 : w5.cell? ⟨w.heap.size, 2, none⟩ = some (.slice A zs.length c) := hA5.cell 2
  go_wp2_with fail
  refine (CopyCabin r wd zs A c _ (HI.out.keep hb5) HN.out hlen).mono ?_
  rintro e w6 ⟨A6, c6, rfl, hi, hb⟩
  have hA6 := hA5.keep hb
  have hb6 := ext_trans hb5 hb
  have I6 := Lib.hid hi
  clear hi hb hA5 hb5 x0 x1 x2
  go_wp2_with fail
  refine (H3.out _ _ _ I6.out).mono ?_
  rintro e w7 ⟨rfl, hb⟩
  have hA7 := hA6.keep hb
  have hb7 := ext_trans hb6 hb
  clear hb hA6 hb6 I6
  have x0 : w7.cell? ⟨w.heap.size, 0, none⟩ = some (.int .i64 r) := hA7.cell 0
  have x1 : w7.cell? ⟨w.heap.size, 1, none⟩ = some (.int .i64 wd) := hA7.cell 1
  have x2 : w7.cell? ⟨w.heap.size, 2, none⟩ = some (.slice A zs.length c) := hA7.cell 2
  go_wp2_with fail
  refine (CopyCabin r wd zs A c _ (HI.out.keep hb7) HN.out hlen).mono ?_
  rintro e w8 ⟨A8, c8, rfl, hi, hb⟩
  have hA8 := hA7.keep hb
  have hb8 := ext_trans hb7 hb
  have I8 := Lib.hid hi
  clear hi hb hA7 hb7 x0 x1 x2
  go_wp2_with fail
  refine (H4.out _ _ _ I8.out).mono ?_
  rintro e w9 ⟨rfl, hb⟩
  have hA9 := hA8.keep hb
  have hb9 := ext_trans hb8 hb
  clear hb hA8 hb8 I8
  have x0 : w9.cell? ⟨w.heap.size, 0, none⟩ = some (.int .i64 r) := hA9.cell 0
  have x1 : w9.cell? ⟨w.heap.size, 1, none⟩ = some (.int .i64 wd) := hA9.cell 1
  have x2 : w9.cell? ⟨w.heap.size, 2, none⟩ = some (.slice A zs.length c) := hA9.cell 2
  go_wp2_with fail
  refine (H5.out _ _ _ (HI.out.keep hb9)).mono ?_
  rintro e w10 ⟨rfl, hb⟩
  have hA10 := hA9.keep hb
  have hb10 := ext_trans hb9 hb
  clear hb hA9 hb9 x0 x1 x2
  have x0 : w10.cell? ⟨w.heap.size, 0, none⟩ = some (.int .i64 r) := hA10.cell 0
  have x1 : w10.cell? ⟨w.heap.size, 1, none⟩ = some (.int .i64 wd) := hA10.cell 1
  have x2 : w10.cell? ⟨w.heap.size, 2, none⟩ = some (.slice A zs.length c) := hA10.cell 2
  go_wp2_with fail
  refine (H6.out _ _ _ (HI.out.keep hb10)).mono ?_
  rintro e w11 ⟨rfl, hb⟩
  have hA11 := hA10.keep hb
  have hb11 := ext_trans hb10 hb
  clear hb hA10 hb10 x0 x1 x2
  have x0 : w11.cell? ⟨w.heap.size, 0, none⟩ = some (.int .i64 r) := hA11.cell 0
  have x1 : w11.cell? ⟨w.heap.size, 1, none⟩ = some (.int .i64 wd) := hA11.cell 1
  have x2 : w11.cell? ⟨w.heap.size, 2, none⟩ = some (.slice A zs.length c) := hA11.cell 2
  go_wp2_with fail
  refine (H7.out _ _ _ (HI.out.keep hb11)).mono ?_
  rintro e w12 ⟨rfl, hb⟩
  have hA12 := hA11.keep hb
  have hb12 := ext_trans hb11 hb
  clear hb hA11 hb11 x0 x1 x2
  have x0 : w12.cell? ⟨w.heap.size, 0, none⟩ = some (.int .i64 r) := hA12.cell 0
  have x1 : w12.cell? ⟨w.heap.size, 1, none⟩ = some (.int .i64 wd) := hA12.cell 1
  have x2 : w12.cell? ⟨w.heap.size, 2, none⟩ = some (.slice A zs.length c) := hA12.cell 2
  go_wp2_with fail
  go_ret
  exact ⟨rfl, hb12⟩

set_option maxRecDepth 100000 in
set_option maxHeartbeats 1000000 in
theorem Seats_bad140 (r wd : Int) (zs : List Int) (A : Option Addr) (c : Nat) (a b : Int)  (w : World) (hI : Ints w A zs) (hN : A = none → zs = [] ∧ c = 0) (hlen : zs.length ≤ 17592186043904) (hev : EV w)
    (hp1 : ∀ A c w, Ints w A zs → Calls Tryd.prog 16 #[.agg #[.int .i64 r, .int .i64 wd, .slice A zs.length c], .int .i64 a] w fun e w' => e = .returned (.tuple #[.string ⟨#[]⟩, .int .i64 140]) ∧ Below w.heap.size w w')
    (hp2 : ∀ A c w, Ints w A zs → Calls Tryd.prog 17 #[.agg #[.int .i64 r, .int .i64 wd, .slice A zs.length c], .int .i64 a] w fun e w' => e = .returned (.tuple #[.int .i64 0, .int .i64 0, .int .i64 140]) ∧ Below w.heap.size w w')
    (hp3 : ∀ A c w, Ints w A zs → Calls Tryd.prog 20 #[.agg #[.int .i64 r, .int .i64 wd, .slice A zs.length c], .int .i64 a] w fun e w' => e = .returned (.tuple #[.bool false, .bool false, .int .i64 140]) ∧ Below w.heap.size w w')
    (hp4 : ∀ A c w, Ints w A zs → Calls Tryd.prog 19 #[.agg #[.int .i64 r, .int .i64 wd, .slice A zs.length c], .int .i64 a, .int .i64 b] w fun e w' => e = .returned (.tuple #[.bool false, .int .i64 140]) ∧ Below w.heap.size w w')
    (hp5 : ∀ A c w, Ints w A zs → Calls Tryd.prog 21 #[.agg #[.int .i64 r, .int .i64 wd, .slice A zs.length c], .int .i64 a] w fun e w' => e = .returned (.tuple #[.string ⟨#[]⟩, .int .i64 140]) ∧ Below w.heap.size w w')
    (hp6 : ∀ A c w, Ints w A zs → Calls Tryd.prog 22 #[.agg #[.int .i64 r, .int .i64 wd, .slice A zs.length c], .int .i64 a] w fun e w' => e = .returned (.tuple #[.bool false, .bool false, .int .i64 140]) ∧ Below w.heap.size w w')
    (hp7 : ∀ A c w, Ints w A zs → Calls Tryd.prog 23 #[.agg #[.int .i64 r, .int .i64 wd, .slice A zs.length c], .int .i64 a, .int .i64 b] w fun e w' => e = .returned (.tuple #[.bool false, .int .i64 140]) ∧ Below w.heap.size w w') :
    Calls Tryd.prog 6 #[.agg #[.int .i64 r, .int .i64 wd, .slice A zs.length c], .int .i64 a, .int .i64 b] w fun e w' => e = .returned (.bool true) ∧ Below w.heap.size w w' := by
  have HE := Lib.hid (hev.keep (ext_alloc (Below.refl _ w) (.cells #[.int .i64 r, .int .i64 wd, .slice A zs.length c] 24)))
  have HI := Lib.hid hI
  have HN := Lib.hid hN
  have H1 := Lib.hid hp1
  have H2 := Lib.hid hp2
  have H3 := Lib.hid hp3
  have H4 := Lib.hid hp4
  have H5 := Lib.hid hp5
  have H6 := Lib.hid hp6
  have H7 := Lib.hid hp7
  clear hI hev hN hp1 hp2 hp3 hp4 hp5 hp6 hp7
  go_enter Tryd.func6, Tryd.ntmps6
  go_wp2_with fail
  refine (Awake _ HE.out).mono ?_
  rintro e w1 ⟨rfl, hb⟩
  have hA1 := (Arr.fresh w 24 #[.int .i64 r, .int .i64 wd, .slice A zs.length c]).keep hb
  have hb1 := ext_trans (ext_alloc (Below.refl _ w) _) hb
  clear hb HE
  have x0 : w1.cell? ⟨w.heap.size, 0, none⟩ = some (.int .i64 r) := hA1.cell 0
  have x1 : w1.cell? ⟨w.heap.size, 1, none⟩ = some (.int .i64 wd) := hA1.cell 1
  have x2 : w1.cell? ⟨w.heap.size, 2, none⟩ = some (.slice A zs.length c) := hA1.cell 2
  go_wp2_with fail
  refine (CopyCabin r wd zs A c _ (HI.out.keep hb1) HN.out hlen).mono ?_
  rintro e w2 ⟨A2, c2, rfl, hi, hb⟩
  have hA2 := hA1.keep hb
  have hb2 := ext_trans hb1 hb
  have I2 := Lib.hid hi
  clear hi hb hA1 hb1 x0 x1 x2
  go_wp2_with fail
  refine (H1.out _ _ _ I2.out).mono ?_
  rintro e w3 ⟨rfl, hb⟩
  have hA3 := hA2.keep hb
  have hb3 := ext_trans hb2 hb
  clear hb hA2 hb2 I2
  have x0 : w3.cell? ⟨w.heap.size, 0, none⟩ = some (.int .i64 r) := hA3.cell 0
  have x1 : w3.cell? ⟨w.heap.size, 1, none⟩ = some (.int .i64 wd) := hA3.cell 1
  have x2 : w3.cell? ⟨w.heap.size, 2, none⟩ = some (.slice A zs.length c) := hA3.cell 2
  go_wp2_with fail
  refine (CopyCabin r wd zs A c _ (HI.out.keep hb3) HN.out hlen).mono ?_
  rintro e w4 ⟨A4, c4, rfl, hi, hb⟩
  have hA4 := hA3.keep hb
  have hb4 := ext_trans hb3 hb
  have I4 := Lib.hid hi
  clear hi hb hA3 hb3 x0 x1 x2
  go_wp2_with fail
  refine (H2.out _ _ _ I4.out).mono ?_
  rintro e w5 ⟨rfl, hb⟩
  have hA5 := hA4.keep hb
  have hb5 := ext_trans hb4 hb
  clear hb hA4 hb4 I4
  have x0 : w5.cell? ⟨w.heap.size, 0, none⟩ = some (.int .i64 r) := hA5.cell 0
  have x1 : w5.cell? ⟨w.heap.size, 1, none⟩ = some (.int .i64 wd) := hA5.cell 1
  have x2 : w5.cell? ⟨w.heap.size, 2, none⟩ = some (.slice A zs.length c) := hA5.cell 2
  go_wp2_with fail
  refine (CopyCabin r wd zs A c _ (HI.out.keep hb5) HN.out hlen).mono ?_
  rintro e w6 ⟨A6, c6, rfl, hi, hb⟩
  have hA6 := hA5.keep hb
  have hb6 := ext_trans hb5 hb
  have I6 := Lib.hid hi
  clear hi hb hA5 hb5 x0 x1 x2
  go_wp2_with fail
  refine (H3.out _ _ _ I6.out).mono ?_
  rintro e w7 ⟨rfl, hb⟩
  have hA7 := hA6.keep hb
  have hb7 := ext_trans hb6 hb
  clear hb hA6 hb6 I6
  have x0 : w7.cell? ⟨w.heap.size, 0, none⟩ = some (.int .i64 r) := hA7.cell 0
  have x1 : w7.cell? ⟨w.heap.size, 1, none⟩ = some (.int .i64 wd) := hA7.cell 1
  have x2 : w7.cell? ⟨w.heap.size, 2, none⟩ = some (.slice A zs.length c) := hA7.cell 2
  go_wp2_with fail
  refine (CopyCabin r wd zs A c _ (HI.out.keep hb7) HN.out hlen).mono ?_
  rintro e w8 ⟨A8, c8, rfl, hi, hb⟩
  have hA8 := hA7.keep hb
  have hb8 := ext_trans hb7 hb
  have I8 := Lib.hid hi
  clear hi hb hA7 hb7 x0 x1 x2
  go_wp2_with fail
  refine (H4.out _ _ _ I8.out).mono ?_
  rintro e w9 ⟨rfl, hb⟩
  have hA9 := hA8.keep hb
  have hb9 := ext_trans hb8 hb
  clear hb hA8 hb8 I8
  have x0 : w9.cell? ⟨w.heap.size, 0, none⟩ = some (.int .i64 r) := hA9.cell 0
  have x1 : w9.cell? ⟨w.heap.size, 1, none⟩ = some (.int .i64 wd) := hA9.cell 1
  have x2 : w9.cell? ⟨w.heap.size, 2, none⟩ = some (.slice A zs.length c) := hA9.cell 2
  go_wp2_with fail
  refine (H5.out _ _ _ (HI.out.keep hb9)).mono ?_
  rintro e w10 ⟨rfl, hb⟩
  have hA10 := hA9.keep hb
  have hb10 := ext_trans hb9 hb
  clear hb hA9 hb9 x0 x1 x2
  have x0 : w10.cell? ⟨w.heap.size, 0, none⟩ = some (.int .i64 r) := hA10.cell 0
  have x1 : w10.cell? ⟨w.heap.size, 1, none⟩ = some (.int .i64 wd) := hA10.cell 1
  have x2 : w10.cell? ⟨w.heap.size, 2, none⟩ = some (.slice A zs.length c) := hA10.cell 2
  go_wp2_with fail
  refine (H6.out _ _ _ (HI.out.keep hb10)).mono ?_
  rintro e w11 ⟨rfl, hb⟩
  have hA11 := hA10.keep hb
  have hb11 := ext_trans hb10 hb
  clear hb hA10 hb10 x0 x1 x2
  have x0 : w11.cell? ⟨w.heap.size, 0, none⟩ = some (.int .i64 r) := hA11.cell 0
  have x1 : w11.cell? ⟨w.heap.size, 1, none⟩ = some (.int .i64 wd) := hA11.cell 1
  have x2 : w11.cell? ⟨w.heap.size, 2, none⟩ = some (.slice A zs.length c) := hA11.cell 2
  go_wp2_with fail
  refine (H7.out _ _ _ (HI.out.keep hb11)).mono ?_
  rintro e w12 ⟨rfl, hb⟩
  have hA12 := hA11.keep hb
  have hb12 := ext_trans hb11 hb
  clear hb hA11 hb11 x0 x1 x2
  have x0 : w12.cell? ⟨w.heap.size, 0, none⟩ = some (.int .i64 r) := hA12.cell 0
  have x1 : w12.cell? ⟨w.heap.size, 1, none⟩ = some (.int .i64 wd) := hA12.cell 1
  have x2 : w12.cell? ⟨w.heap.size, 2, none⟩ = some (.slice A zs.length c) := hA12.cell 2
  go_wp2_with fail
  go_ret
  exact ⟨rfl, hb12⟩

set_option maxRecDepth 100000 in
set_option maxHeartbeats 1000000 in
theorem Seats_good (r wd : Int) (zs : List Int) (A : Option Addr) (c : Nat) (a b : Int) (ts : ByteArray) (x y z : Bool) (e0 : Int) (w : World) (hI : Ints w A zs) (hN : A = none → zs = [] ∧ c = 0) (hlen : zs.length ≤ 17592186043904) (hev : EV w) (hw : 0 < wd) (hw2 : wd ≤ 16) (ha : 0 ≤ a) (ha2 : a ≤ 1024)
    (hp1 : ∀ A c w, Ints w A zs → Calls Tryd.prog 16 #[.agg #[.int .i64 r, .int .i64 wd, .slice A zs.length c], .int .i64 a] w fun e w' => e = .returned (.tuple #[.string ts, .int .i64 0]) ∧ Below w.heap.size w w')
    (hp2 : ∀ A c w, Ints w A zs → Calls Tryd.prog 17 #[.agg #[.int .i64 r, .int .i64 wd, .slice A zs.length c], .int .i64 a] w fun e w' => e = .returned (.tuple #[.int .i64 (a / wd), .int .i64 (a % wd), .int .i64 0]) ∧ Below w.heap.size w w')
    (hp3 : ∀ A c w, Ints w A zs → Calls Tryd.prog 20 #[.agg #[.int .i64 r, .int .i64 wd, .slice A zs.length c], .int .i64 a] w fun e w' => e = .returned (.tuple #[.bool x, .bool y, .int .i64 0]) ∧ Below w.heap.size w w')
    (hp4 : ∀ A c w, Ints w A zs → Calls Tryd.prog 19 #[.agg #[.int .i64 r, .int .i64 wd, .slice A zs.length c], .int .i64 a, .int .i64 b] w fun e w' => e = .returned (.tuple #[.bool z, .int .i64 e0]) ∧ Below w.heap.size w w')
    (hp5 : ∀ A c w, Ints w A zs → Calls Tryd.prog 21 #[.agg #[.int .i64 r, .int .i64 wd, .slice A zs.length c], .int .i64 a] w fun e w' => e = .returned (.tuple #[.string ts, .int .i64 0]) ∧ Below w.heap.size w w')
    (hp6 : ∀ A c w, Ints w A zs → Calls Tryd.prog 22 #[.agg #[.int .i64 r, .int .i64 wd, .slice A zs.length c], .int .i64 a] w fun e w' => e = .returned (.tuple #[.bool x, .bool y, .int .i64 0]) ∧ Below w.heap.size w w')
    (hp7 : ∀ A c w, Ints w A zs → Calls Tryd.prog 23 #[.agg #[.int .i64 r, .int .i64 wd, .slice A zs.length c], .int .i64 a, .int .i64 b] w fun e w' => e = .returned (.tuple #[.bool z, .int .i64 e0]) ∧ Below w.heap.size w w') :
    Calls Tryd.prog 6 #[.agg #[.int .i64 r, .int .i64 wd, .slice A zs.length c], .int .i64 a, .int .i64 b] w fun e w' => e = .returned (.bool true) ∧ Below w.heap.size w w' := by
  have HE := Lib.hid (hev.keep (ext_alloc (Below.refl _ w) (.cells #[.int .i64 r, .int .i64 wd, .slice A zs.length c] 24)))
  have HI := Lib.hid hI
  have HN := Lib.hid hN
  have H1 := Lib.hid hp1
  have H2 := Lib.hid hp2
  have H3 := Lib.hid hp3
  have H4 := Lib.hid hp4
  have H5 := Lib.hid hp5
  have H6 := Lib.hid hp6
  have H7 := Lib.hid hp7
  clear hI hev hN hp1 hp2 hp3 hp4 hp5 hp6 hp7
  have w0 : ¬ wd = 0 := by omega
  have p1 : 0 ≤ a / wd := Int.ediv_nonneg ha (by omega)
  have p2 : a / wd ≤ a := Int.ediv_le_self _ ha
  have v2 : IntKind.i64.wrap (a.tdiv wd) = a / wd := by rw [Int.tdiv_eq_ediv_of_nonneg ha]; exact IntWalk.i64_in _ (by omega)
  have v4 : a.tmod wd = a % wd := Int.tmod_eq_emod_of_nonneg ha
  have p5 := Int.emod_nonneg a (show wd ≠ 0 by omega)
  have p6 := Int.emod_lt_of_pos a (show 0 < wd by omega)
  have v5 : IntKind.i64.wrap (a % wd) = a % wd := IntWalk.i64_in _ (by omega)
  go_enter Tryd.func6, Tryd.ntmps6
  go_wp2_with fail
  refine (Awake _ HE.out).mono ?_
  rintro e w1 ⟨rfl, hb⟩
  have hA1 := (Arr.fresh w 24 #[.int .i64 r, .int .i64 wd, .slice A zs.length c]).keep hb
  have hb1 := ext_trans (ext_alloc (Below.refl _ w) _) hb
  clear hb HE
  have x0 : w1.cell? ⟨w.heap.size, 0, none⟩ = some (.int .i64 r) := hA1.cell 0
  have x1 : w1.cell? ⟨w.heap.size, 1, none⟩ = some (.int .i64 wd) := hA1.cell 1
  have x2 : w1.cell? ⟨w.heap.size, 2, none⟩ = some (.slice A zs.length c) := hA1.cell 2
  go_wp2_with fail
  refine (CopyCabin r wd zs A c _ (HI.out.keep hb1) HN.out hlen).mono ?_
  rintro e w2 ⟨A2, c2, rfl, hi, hb⟩
  have hA2 := hA1.keep hb
  have hb2 := ext_trans hb1 hb
  have I2 := Lib.hid hi
  clear hi hb hA1 hb1 x0 x1 x2
  go_wp2_with fail
  refine (H1.out _ _ _ I2.out).mono ?_
  rintro e w3 ⟨rfl, hb⟩
  have hA3 := hA2.keep hb
  have hb3 := ext_trans hb2 hb
  clear hb hA2 hb2 I2
  have x0 : w3.cell? ⟨w.heap.size, 0, none⟩ = some (.int .i64 r) := hA3.cell 0
  have x1 : w3.cell? ⟨w.heap.size, 1, none⟩ = some (.int .i64 wd) := hA3.cell 1
  have x2 : w3.cell? ⟨w.heap.size, 2, none⟩ = some (.slice A zs.length c) := hA3.cell 2
  go_wp2_with fail
  refine (CopyCabin r wd zs A c _ (HI.out.keep hb3) HN.out hlen).mono ?_
  rintro e w4 ⟨A4, c4, rfl, hi, hb⟩
  have hA4 := hA3.keep hb
  have hb4 := ext_trans hb3 hb
  have I4 := Lib.hid hi
  clear hi hb hA3 hb3 x0 x1 x2
  go_wp2_with fail
  refine (H2.out _ _ _ I4.out).mono ?_
  rintro e w5 ⟨rfl, hb⟩
  have hA5 := hA4.keep hb
  have hb5 := ext_trans hb4 hb
  clear hb hA4 hb4 I4
  have x0 : w5.cell? ⟨w.heap.size, 0, none⟩ = some (.int .i64 r) := hA5.cell 0
  have x1 : w5.cell? ⟨w.heap.size, 1, none⟩ = some (.int .i64 wd) := hA5.cell 1
  have x2 : w5.cell? ⟨w.heap.size, 2, none⟩ = some (.slice A zs.length c) := hA5.cell 2
  go_wp2_with fail
  refine (CopyCabin r wd zs A c _ (HI.out.keep hb5) HN.out hlen).mono ?_
  rintro e w6 ⟨A6, c6, rfl, hi, hb⟩
  have hA6 := hA5.keep hb
  have hb6 := ext_trans hb5 hb
  have I6 := Lib.hid hi
  clear hi hb hA5 hb5 x0 x1 x2
  go_wp2_with fail
  refine (H3.out _ _ _ I6.out).mono ?_
  rintro e w7 ⟨rfl, hb⟩
  have hA7 := hA6.keep hb
  have hb7 := ext_trans hb6 hb
  clear hb hA6 hb6 I6
  have x0 : w7.cell? ⟨w.heap.size, 0, none⟩ = some (.int .i64 r) := hA7.cell 0
  have x1 : w7.cell? ⟨w.heap.size, 1, none⟩ = some (.int .i64 wd) := hA7.cell 1
  have x2 : w7.cell? ⟨w.heap.size, 2, none⟩ = some (.slice A zs.length c) := hA7.cell 2
  go_wp2_with fail
  refine (CopyCabin r wd zs A c _ (HI.out.keep hb7) HN.out hlen).mono ?_
  rintro e w8 ⟨A8, c8, rfl, hi, hb⟩
  have hA8 := hA7.keep hb
  have hb8 := ext_trans hb7 hb
  have I8 := Lib.hid hi
  clear hi hb hA7 hb7 x0 x1 x2
  go_wp2_with fail
  refine (H4.out _ _ _ I8.out).mono ?_
  rintro e w9 ⟨rfl, hb⟩
  have hA9 := hA8.keep hb
  have hb9 := ext_trans hb8 hb
  clear hb hA8 hb8 I8
  have x0 : w9.cell? ⟨w.heap.size, 0, none⟩ = some (.int .i64 r) := hA9.cell 0
  have x1 : w9.cell? ⟨w.heap.size, 1, none⟩ = some (.int .i64 wd) := hA9.cell 1
  have x2 : w9.cell? ⟨w.heap.size, 2, none⟩ = some (.slice A zs.length c) := hA9.cell 2
  go_wp2_with fail
  refine (H5.out _ _ _ (HI.out.keep hb9)).mono ?_
  rintro e w10 ⟨rfl, hb⟩
  have hA10 := hA9.keep hb
  have hb10 := ext_trans hb9 hb
  clear hb hA9 hb9 x0 x1 x2
  have x0 : w10.cell? ⟨w.heap.size, 0, none⟩ = some (.int .i64 r) := hA10.cell 0
  have x1 : w10.cell? ⟨w.heap.size, 1, none⟩ = some (.int .i64 wd) := hA10.cell 1
  have x2 : w10.cell? ⟨w.heap.size, 2, none⟩ = some (.slice A zs.length c) := hA10.cell 2
  go_wp2_with fail
  refine (H6.out _ _ _ (HI.out.keep hb10)).mono ?_
  rintro e w11 ⟨rfl, hb⟩
  have hA11 := hA10.keep hb
  have hb11 := ext_trans hb10 hb
  clear hb hA10 hb10 x0 x1 x2
  have x0 : w11.cell? ⟨w.heap.size, 0, none⟩ = some (.int .i64 r) := hA11.cell 0
  have x1 : w11.cell? ⟨w.heap.size, 1, none⟩ = some (.int .i64 wd) := hA11.cell 1
  have x2 : w11.cell? ⟨w.heap.size, 2, none⟩ = some (.slice A zs.length c) := hA11.cell 2
  go_wp2_with fail
  refine (H7.out _ _ _ (HI.out.keep hb11)).mono ?_
  rintro e w12 ⟨rfl, hb⟩
  have hA12 := hA11.keep hb
  have hb12 := ext_trans hb11 hb
  clear hb hA11 hb11 x0 x1 x2
  have x0 : w12.cell? ⟨w.heap.size, 0, none⟩ = some (.int .i64 r) := hA12.cell 0
  have x1 : w12.cell? ⟨w.heap.size, 1, none⟩ = some (.int .i64 wd) := hA12.cell 1
  have x2 : w12.cell? ⟨w.heap.size, 2, none⟩ = some (.slice A zs.length c) := hA12.cell 2
  go_wp2_with fail
  go_ret
  exact ⟨rfl, hb12⟩

theorem Seats (r wd : Int) (zs : List Int) (A : Option Addr) (c : Nat) (a b : Int) (w : World) (hI : Ints w A zs) (hN : A = none → zs = [] ∧ c = 0) (hlen : zs.length ≤ 17592186043904) (hev : EV w) :
    Calls Tryd.prog 6 #[.agg #[.int .i64 r, .int .i64 wd, .slice A zs.length c], .int .i64 a, .int .i64 b] w fun e w' => e = .returned (.bool true) ∧ Below w.heap.size w w' := by
  have hl : zs.length ≤ 20000000000000 := by omega
  cases hok : okC r wd zs with
  | false => exact Seats_bad2 r wd zs A c a b w hI hN hlen hev (fun A c w hI => Text_no r wd zs A c a w hI hl hok) (fun A c w hI => Place_no r wd zs A c a w hI hl hok) (fun A c w hI => Window_no r wd zs A c a w hI hl hok) (fun A c w hI => Beside_no r wd zs A c a b w hI hl hok) (fun A c w hI => rText_no r wd zs A c a w hI hl hok) (fun A c w hI => rWindow_no r wd zs A c a w hI hl hok) (fun A c w hI => rBeside_no r wd zs A c a b w hI hl hok)
  | true =>
    by_cases ha : a < 0 ∨ r * wd ≤ a
    · exact Seats_bad140 r wd zs A c a b w hI hN hlen hev (fun A c w hI => Text_seat r wd zs A c a w hI hl hok ha) (fun A c w hI => Place_seat r wd zs A c a w hI hl hok ha) (fun A c w hI => Window_seat r wd zs A c a w hI hl hok ha) (fun A c w hI => Beside_seatA r wd zs A c a b w hI hl hok ha) (fun A c w hI => rText_seat r wd zs A c a w hI hl hok ha) (fun A c w hI => rWindow_seat r wd zs A c a w hI hl hok ha) (fun A c w hI => rBeside_seatA r wd zs A c a b w hI hl hok ha)
    · have ha0 : 0 ≤ a := by omega
      have ha1 : a < r * wd := by omega
      obtain ⟨⟨o1, o2, o3, o4⟩, _⟩ := okC_yes hok
      have q2 : r * wd ≤ 64 * 16 := Int.mul_le_mul (by omega) (by omega) (by omega) (by omega)
      obtain ⟨row, col, e1, e2, e3, e4, e5, e6, e7⟩ := seat_rc hok ha0 ha1
      by_cases hb : b < 0 ∨ r * wd ≤ b
      · exact Seats_good r wd zs A c a b ⟨(seatT row col).toArray⟩ _ _ false 140 w hI hN hlen hev (by omega) o4 ha0 (by omega) (fun A c w hI => Text_yes r wd zs A c a row col w hI hl hok ha0 ha1 e1 e2) (fun A c w hI => Place_yes r wd zs A c a w hI hl hok ha0 ha1) (fun A c w hI => Window_yes r wd zs A c a _ _ _ w hI hl hok ha0 ha1 rfl rfl rfl) (fun A c w hI => Beside_seatB r wd zs A c a b w hI hl hok ha0 ha1 hb) (fun A c w hI => rText_yes r wd zs A c a row col w hI hl hok ha0 ha1 e1 e2) (fun A c w hI => rWindow_yes r wd zs A c a _ _ _ w hI hl hok ha0 ha1 rfl rfl rfl) (fun A c w hI => rBeside_seatB r wd zs A c a b w hI hl hok ha0 ha1 hb)
      · have hb0 : 0 ≤ b := by omega
        have hb1 : b < r * wd := by omega
        exact Seats_good r wd zs A c a b ⟨(seatT row col).toArray⟩ _ _ (besB wd zs a b) 0 w hI hN hlen hev (by omega) o4 ha0 (by omega) (fun A c w hI => Text_yes r wd zs A c a row col w hI hl hok ha0 ha1 e1 e2) (fun A c w hI => Place_yes r wd zs A c a w hI hl hok ha0 ha1) (fun A c w hI => Window_yes r wd zs A c a _ _ _ w hI hl hok ha0 ha1 rfl rfl rfl) (fun A c w hI => Beside_yes r wd zs A c a b w hI hl hok ha0 ha1 hb0 hb1) (fun A c w hI => rText_yes r wd zs A c a row col w hI hl hok ha0 ha1 e1 e2) (fun A c w hI => rWindow_yes r wd zs A c a _ _ _ w hI hl hok ha0 ha1 rfl rfl rfl) (fun A c w hI => rBeside_yes r wd zs A c a b w hI hl hok ha0 ha1 hb0 hb1)

end Go.Proofs.YtablpncipkbfhaaDoor.Cab
