/- The laws' thirty and awake. -/
import Derived.Test.YtablpncipkbfhaaDoorCab9
namespace Go.Proofs.YtablpncipkbfhaaDoor.Cab
open Go.RowKit

def ThirtyOut (w : World) (e : Ending) (w' : World) : Prop := ∃ A c, e = .returned (.agg #[.int .i64 30, .int .i64 6, .slice A 1 c]) ∧ Ints w' A [3] ∧ Below w.heap.size w w'

-- gangwaylaw14.thirty
set_option maxRecDepth 100000 in
set_option maxHeartbeats 1000000 in
theorem Thirty (w : World) : Calls Tryd.prog 34 #[] w (ThirtyOut w) := by
  go_enter Tryd.func34, Tryd.ntmps34
  go_wp2_with fail
  have hF := (Arr.fresh w 24 #[.int .i64 30, .int .i64 6, .slice (some ⟨w.heap.size + 1, 0, none⟩) 1 1]).alloc (.cells #[.int .i64 3] 3)
  have hG := Arr.new (w := w.alloc (.cells #[.int .i64 30, .int .i64 6, .slice (some ⟨w.heap.size + 1, 0, none⟩) 1 1] 24)) (g := w.heap.size + 1) (t := 3) (cs := #[.int .i64 3]) (by simp)
  have hl := run_load_blk (P := Tryd.prog) 24 hF _ Tryd.underlying24 rfl size3
  refine bodyPost_ret (results_cell Tryd.results34 _ (by rfl) hl) rfl ⟨_, _, rfl, fun _ => ⟨w.heap.size + 1, 0, rfl, by simp, fun j hj => ?_⟩, ?_⟩
  · obtain rfl : j = 0 := by simpa using hj
    exact hG.cell 0
  · exact ext_alloc (ext_alloc (Below.refl _ w) _) _

theorem ok30 : okC 30 6 [3] = true := by decide
theorem t2C : seatT 1 2 = [50, 67] := by decide +kernel
theorem t30F : seatT 29 5 = [51, 48, 70] := by decide +kernel
theorem no31A_all : ∀ a : Fin 30, ∀ b : Fin 6, seatT a.val b.val ≠ [51, 49, 65] := by decide +kernel
theorem Text30 (A : Option Addr) (c : Nat) (w : World) (hI : Ints w A [3]) :
    Calls Tryd.prog 16 #[.agg #[.int .i64 30, .int .i64 6, .slice A 1 c], .int .i64 8] w fun e w' => e = .returned (.tuple #[.string ⟨#[50, 67]⟩, .int .i64 0]) ∧ Below w.heap.size w w' := by
  have h := Text_yes 30 6 [3] A c 8 1 2 w hI (by decide) ok30 (by decide) (by decide) (by decide) (by decide)
  rw [t2C] at h; exact h
theorem Parse30F (A : Option Addr) (c : Nat) (w : World) (hI : Ints w A [3]) (hev : EV w) :
    Calls Tryd.prog 11 #[.agg #[.int .i64 30, .int .i64 6, .slice A 1 c], .string ⟨#[51, 48, 70]⟩] w fun e w' => e = .returned (.tuple #[.int .i64 179, .int .i64 0]) ∧ Below w.heap.size w w' := by
  have h := Parse_seat 30 6 [3] A c 29 5 w hI (by decide) ok30 hev (by decide) (by decide)
  rw [t30F] at h; exact h
theorem Parse31A (A : Option Addr) (c : Nat) (w : World) (hI : Ints w A [3]) (hev : EV w) :
    Calls Tryd.prog 11 #[.agg #[.int .i64 30, .int .i64 6, .slice A 1 c], .string ⟨#[51, 49, 65]⟩] w fun e w' => e = .returned (.tuple #[.int .i64 0, .int .i64 140]) ∧ Below w.heap.size w w' :=
  Parse_none 30 6 [3] A c ⟨#[51, 49, 65]⟩ w hI (by decide) ok30 hev (fun row col h0 h1 => no31A_all ⟨row, by omega⟩ ⟨col, by omega⟩)
theorem Bes78 (A : Option Addr) (c : Nat) (w : World) (hI : Ints w A [3]) :
    Calls Tryd.prog 19 #[.agg #[.int .i64 30, .int .i64 6, .slice A 1 c], .int .i64 7, .int .i64 8] w fun e w' => e = .returned (.tuple #[.bool true, .int .i64 0]) ∧ Below w.heap.size w w' := by
  have h := Beside_yes 30 6 [3] A c 7 8 w hI (by decide) ok30 (by decide) (by decide) (by decide) (by decide)
  rw [show besB 6 [3] 7 8 = true from by decide] at h; exact h
theorem Bes89 (A : Option Addr) (c : Nat) (w : World) (hI : Ints w A [3]) :
    Calls Tryd.prog 19 #[.agg #[.int .i64 30, .int .i64 6, .slice A 1 c], .int .i64 8, .int .i64 9] w fun e w' => e = .returned (.tuple #[.bool false, .int .i64 0]) ∧ Below w.heap.size w w' := by
  have h := Beside_yes 30 6 [3] A c 8 9 w hI (by decide) ok30 (by decide) (by decide) (by decide) (by decide)
  rw [show besB 6 [3] 8 9 = false from by decide] at h; exact h

-- gangwaylaw14.awake
set_option maxRecDepth 100000 in
set_option maxHeartbeats 1000000 in
theorem Awake (w : World) (hev : EV w) : Calls Tryd.prog 10 #[] w fun e w' => e = .returned (.bool true) ∧ Below w.heap.size w w' := by
  have HE := Lib.hid hev; clear hev
  go_enter Tryd.func10, Tryd.ntmps10
  go_wp2_with fail
  refine (Thirty _).mono ?_
  rintro e w1 ⟨A1, c1, rfl, hi1, hb1⟩
  have I1 := Lib.hid hi1; clear hi1
  go_wp2_with fail
  refine (Text30 _ _ _ I1.out).mono ?_
  rintro e w2 ⟨rfl, hb⟩
  have hb2 := ext_trans hb1 hb
  clear hb hb1 I1
  go_wp2_with fail
  refine (Thirty _).mono ?_
  rintro e w3 ⟨A3, c3, rfl, hi3, hb⟩
  have hb3 := ext_trans hb2 hb
  have I3 := Lib.hid hi3; clear hi3
  clear hb hb2
  go_wp2_with fail
  refine (Parse30F _ _ _ I3.out (HE.out.keep hb3)).mono ?_
  rintro e w4 ⟨rfl, hb⟩
  have hb4 := ext_trans hb3 hb
  clear hb hb3 I3
  go_wp2_with fail
  refine (Thirty _).mono ?_
  rintro e w5 ⟨A5, c5, rfl, hi5, hb⟩
  have hb5 := ext_trans hb4 hb
  have I5 := Lib.hid hi5; clear hi5
  clear hb hb4
  go_wp2_with fail
  refine (Bes78 _ _ _ I5.out).mono ?_
  rintro e w6 ⟨rfl, hb⟩
  have hb6 := ext_trans hb5 hb
  clear hb hb5 I5
  go_wp2_with fail
  refine (Thirty _).mono ?_
  rintro e w7 ⟨A7, c7, rfl, hi7, hb⟩
  have hb7 := ext_trans hb6 hb
  have I7 := Lib.hid hi7; clear hi7
  clear hb hb6
  go_wp2_with fail
  refine (Bes89 _ _ _ I7.out).mono ?_
  rintro e w8 ⟨rfl, hb⟩
  have hb8 := ext_trans hb7 hb
  clear hb hb7 I7
  go_wp2_with fail
  refine (Thirty _).mono ?_
  rintro e w9 ⟨A9, c9, rfl, hi9, hb⟩
  have hb9 := ext_trans hb8 hb
  have I9 := Lib.hid hi9; clear hi9
  clear hb hb8
  go_wp2_with fail
  refine (Parse31A _ _ _ I9.out (HE.out.keep hb9)).mono ?_
  rintro e w10 ⟨rfl, hb⟩
  have hb10 := ext_trans hb9 hb
  clear hb hb9 I9
  go_wp2_with fail
  go_ret
  exact ⟨rfl, hb10⟩

end Go.Proofs.YtablpncipkbfhaaDoor.Cab
