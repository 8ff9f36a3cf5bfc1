/- CabinChecks: whether a cabin may be, its seats, its blocks; it stays. -/
import Derived.Test.YtablpncipkbfhaaDoorCabLentC
import Derived.Test.YtablpncipkbfhaaDoorCabAw
namespace Go.Proofs.YtablpncipkbfhaaDoor.Cab
open Go.RowKit

theorem Blocks_at (r wd : Int) (W : Nat) (hW : wd = (W : Int)) (zs : List Int) (A : Option Addr) (c : Nat) (w : World) (hI : Ints w A zs) (hlen : zs.length ≤ 20000000000000) (hok : okC r wd zs = true) :
    Calls Tryd.prog 26 #[.agg #[.int .i64 r, .int .i64 wd, .slice A zs.length c]] w (BlocksOut (full (stB W zs) (r.toNat * W)) w) := by
  subst hW; exact Blocks_yes r W zs A c w hI hlen hok
theorem rBlocks_at (r wd : Int) (W : Nat) (hW : wd = (W : Int)) (zs : List Int) (A : Option Addr) (c : Nat) (w : World) (hI : Ints w A zs) (hlen : zs.length ≤ 20000000000000) (hok : okC r wd zs = true) :
    Calls Tryd.prog 28 #[.agg #[.int .i64 r, .int .i64 wd, .slice A zs.length c]] w (BlocksOut (full (stB W zs) (r.toNat * W)) w) := by
  subst hW; exact rBlocks_yes r W zs A c w hI hlen hok

set_option maxRecDepth 100000 in
set_option maxHeartbeats 2000000 in
theorem Checks_no (r wd : Int) (zs : List Int) (A : Option Addr) (c : Nat) (w : World) (hI : Ints w A zs) (hN : A = none → zs = [] ∧ c = 0) (hlen : zs.length ≤ 17592186043904) (hev : EV w) (hok : okC r wd zs = false) :
    Calls Tryd.prog 7 #[.agg #[.int .i64 r, .int .i64 wd, .slice A zs.length c]] w fun e w' => e = .returned (.bool true) ∧ Below w.heap.size w w' := by
  have HE := Lib.hid (hev.keep (ext_alloc (Below.refl _ w) (.cells #[.int .i64 r, .int .i64 wd, .slice A zs.length c] 24)))
  have HI := Lib.hid hI
  have HN := Lib.hid hN
  have HOK := Lib.hid hok
  have hl : zs.length ≤ 20000000000000 := by omega
  clear hI hev hN hok
  go_enter Tryd.func7, Tryd.ntmps7
  go_wp2_with fail
  refine (Awake _ HE.out).mono ?_
  rintro e w1 ⟨rfl, hb⟩
  have hA1 := (Arr.fresh w 24 #[.int .i64 r, .int .i64 wd, .slice A zs.length c]).keep hb
  have hb1 := ext_trans (ext_alloc (Below.refl _ w) _) hb
  clear hb HE
  have x0 : w1.cell? ⟨w.heap.size, 0, none⟩ = some (.int .i64 r) := hA1.cell 0
  have x1 : w1.cell? ⟨w.heap.size, 1, none⟩ = some (.int .i64 wd) := hA1.cell 1
  have x2 : w1.cell? ⟨w.heap.size, 2, none⟩ = some (.slice A zs.length c) := hA1.cell 2
  go_wp2_with fail
  refine (LentCabin r wd zs A c _ (HI.out.keep hb1) HN.out hlen).mono ?_
  rintro e w2 ⟨g, cap, rfl, hown, hb⟩
  have hA2 := hA1.keep hb
  have hb2 := ext_trans hb1 hb
  have hg1 := own_lt (g := g) hown rfl
  have hz1 := hA1.lt
  have hAa := hA2.alloc (.cells #[.int .i64 r, .int .i64 wd, .slice (some ⟨g, 0, none⟩) zs.length cap] 24)
  have hBa := Arr.fresh w2 24 #[.int .i64 r, .int .i64 wd, .slice (some ⟨g, 0, none⟩) zs.length cap]
  have hba := ext_alloc hb2 (.cells #[.int .i64 r, .int .i64 wd, .slice (some ⟨g, 0, none⟩) zs.length cap] 24)
  have HOa := Lib.hid (own_alloc hown (.cells #[.int .i64 r, .int .i64 wd, .slice (some ⟨g, 0, none⟩) zs.length cap] 24))
  clear hb hA1 hb1 hA2 hb2 hown x0 x1 x2
  go_wp2_with fail
  refine (Check_no r wd zs (some ⟨g, 0, none⟩) cap _ (fun _ => ⟨g, 0, rfl, (own_lt (g := g) HOa.out rfl).1, fun j hj => by rw [Nat.zero_add]; exact (lent_cell HOa.out).1 j hj⟩) hl HOK.out).mono ?_
  rintro e w3 ⟨rfl, hb⟩
  have hA3 := hAa.keep hb
  have hB3 := hBa.keep hb
  have hb3 := ext_trans hba hb
  have HO3 := Lib.hid (own_keep HOa.out hb)
  clear hb hAa hBa hba HOa
  have hzB3 := hB3.lt
  have x0 : w3.cell? ⟨w.heap.size, 0, none⟩ = some (.int .i64 r) := hA3.cell 0
  have x1 : w3.cell? ⟨w.heap.size, 1, none⟩ = some (.int .i64 wd) := hA3.cell 1
  have x2 : w3.cell? ⟨w.heap.size, 2, none⟩ = some (.slice A zs.length c) := hA3.cell 2
  have y0 : w3.cell? ⟨w2.heap.size, 0, none⟩ = some (.int .i64 r) := hB3.cell 0
  have y1 : w3.cell? ⟨w2.heap.size, 1, none⟩ = some (.int .i64 wd) := hB3.cell 1
  have y2 : w3.cell? ⟨w2.heap.size, 2, none⟩ = some (.slice (some ⟨g, 0, none⟩) zs.length cap) := hB3.cell 2
  go_wp2_with fail
  refine (Seats_no r wd zs (some ⟨g, 0, none⟩) cap _ (fun _ => ⟨g, 0, rfl, (own_lt (g := g) HO3.out rfl).1, fun j hj => by rw [Nat.zero_add]; exact (lent_cell HO3.out).1 j hj⟩) hl HOK.out).mono ?_
  rintro e w4 ⟨rfl, hb⟩
  have hA4 := hA3.keep hb
  have hB4 := hB3.keep hb
  have hb4 := ext_trans hb3 hb
  have HO4 := Lib.hid (own_keep HO3.out hb)
  clear hb hA3 hB3 hb3 HO3
  clear x0 x1 x2 y0 y1 y2
  have hzB4 := hB4.lt
  have x0 : w4.cell? ⟨w.heap.size, 0, none⟩ = some (.int .i64 r) := hA4.cell 0
  have x1 : w4.cell? ⟨w.heap.size, 1, none⟩ = some (.int .i64 wd) := hA4.cell 1
  have x2 : w4.cell? ⟨w.heap.size, 2, none⟩ = some (.slice A zs.length c) := hA4.cell 2
  have y0 : w4.cell? ⟨w2.heap.size, 0, none⟩ = some (.int .i64 r) := hB4.cell 0
  have y1 : w4.cell? ⟨w2.heap.size, 1, none⟩ = some (.int .i64 wd) := hB4.cell 1
  have y2 : w4.cell? ⟨w2.heap.size, 2, none⟩ = some (.slice (some ⟨g, 0, none⟩) zs.length cap) := hB4.cell 2
  go_wp2_with fail
  refine (Blocks_no r wd zs (some ⟨g, 0, none⟩) cap _ (fun _ => ⟨g, 0, rfl, (own_lt (g := g) HO4.out rfl).1, fun j hj => by rw [Nat.zero_add]; exact (lent_cell HO4.out).1 j hj⟩) hl HOK.out).mono ?_
  rintro e w5 ⟨rfl, hb⟩
  have hA5 := hA4.keep hb
  have hB5 := hB4.keep hb
  have hb5 := ext_trans hb4 hb
  have HO5 := Lib.hid (own_keep HO4.out hb)
  clear hb hA4 hB4 hb4 HO4
  clear x0 x1 x2 y0 y1 y2
  have hzB5 := hB5.lt
  have x0 : w5.cell? ⟨w.heap.size, 0, none⟩ = some (.int .i64 r) := hA5.cell 0
  have x1 : w5.cell? ⟨w.heap.size, 1, none⟩ = some (.int .i64 wd) := hA5.cell 1
  have x2 : w5.cell? ⟨w.heap.size, 2, none⟩ = some (.slice A zs.length c) := hA5.cell 2
  have y0 : w5.cell? ⟨w2.heap.size, 0, none⟩ = some (.int .i64 r) := hB5.cell 0
  have y1 : w5.cell? ⟨w2.heap.size, 1, none⟩ = some (.int .i64 wd) := hB5.cell 1
  have y2 : w5.cell? ⟨w2.heap.size, 2, none⟩ = some (.slice (some ⟨g, 0, none⟩) zs.length cap) := hB5.cell 2
  go_wp2_with fail
  refine (rCheck_no r wd zs A c _ (HI.out.keep hb5) hl HOK.out).mono ?_
  rintro e w6 ⟨rfl, hb⟩
  have hA6 := hA5.keep hb
  have hB6 := hB5.keep hb
  have hb6 := ext_trans hb5 hb
  have HO6 := Lib.hid (own_keep HO5.out hb)
  clear hb hA5 hB5 hb5 HO5
  clear x0 x1 x2 y0 y1 y2
  have hzB6 := hB6.lt
  have x0 : w6.cell? ⟨w.heap.size, 0, none⟩ = some (.int .i64 r) := hA6.cell 0
  have x1 : w6.cell? ⟨w.heap.size, 1, none⟩ = some (.int .i64 wd) := hA6.cell 1
  have x2 : w6.cell? ⟨w.heap.size, 2, none⟩ = some (.slice A zs.length c) := hA6.cell 2
  have y0 : w6.cell? ⟨w2.heap.size, 0, none⟩ = some (.int .i64 r) := hB6.cell 0
  have y1 : w6.cell? ⟨w2.heap.size, 1, none⟩ = some (.int .i64 wd) := hB6.cell 1
  have y2 : w6.cell? ⟨w2.heap.size, 2, none⟩ = some (.slice (some ⟨g, 0, none⟩) zs.length cap) := hB6.cell 2
  go_wp2_with fail
  refine (rBlocks_no r wd zs A c _ (HI.out.keep hb6) hl HOK.out).mono ?_
  rintro e w7 ⟨rfl, hb⟩
  have hA7 := hA6.keep hb
  have hB7 := hB6.keep hb
  have hb7 := ext_trans hb6 hb
  have HO7 := Lib.hid (own_keep HO6.out hb)
  clear hb hA6 hB6 hb6 HO6
  clear x0 x1 x2 y0 y1 y2
  have hzB7 := hB7.lt
  have x0 : w7.cell? ⟨w.heap.size, 0, none⟩ = some (.int .i64 r) := hA7.cell 0
  have x1 : w7.cell? ⟨w.heap.size, 1, none⟩ = some (.int .i64 wd) := hA7.cell 1
  have x2 : w7.cell? ⟨w.heap.size, 2, none⟩ = some (.slice A zs.length c) := hA7.cell 2
  have y0 : w7.cell? ⟨w2.heap.size, 0, none⟩ = some (.int .i64 r) := hB7.cell 0
  have y1 : w7.cell? ⟨w2.heap.size, 1, none⟩ = some (.int .i64 wd) := hB7.cell 1
  have y2 : w7.cell? ⟨w2.heap.size, 2, none⟩ = some (.slice (some ⟨g, 0, none⟩) zs.length cap) := hB7.cell 2
  go_wp2_with fail
  refine (KeptCabin r wd zs _ g cap A c _ HO7.out (HI.out.keep hb7) hlen).mono ?_
  rintro e w8 ⟨rfl, hb⟩
  have hA8 := hA7.keep hb
  have hB8 := hB7.keep hb
  have hb8 := ext_trans hb7 hb
  have HO8 := Lib.hid (own_keep HO7.out hb)
  clear hb hA7 hB7 hb7 HO7
  clear x0 x1 x2 y0 y1 y2
  have hzB8 := hB8.lt
  have x0 : w8.cell? ⟨w.heap.size, 0, none⟩ = some (.int .i64 r) := hA8.cell 0
  have x1 : w8.cell? ⟨w.heap.size, 1, none⟩ = some (.int .i64 wd) := hA8.cell 1
  have x2 : w8.cell? ⟨w.heap.size, 2, none⟩ = some (.slice A zs.length c) := hA8.cell 2
  have y0 : w8.cell? ⟨w2.heap.size, 0, none⟩ = some (.int .i64 r) := hB8.cell 0
  have y1 : w8.cell? ⟨w2.heap.size, 1, none⟩ = some (.int .i64 wd) := hB8.cell 1
  have y2 : w8.cell? ⟨w2.heap.size, 2, none⟩ = some (.slice (some ⟨g, 0, none⟩) zs.length cap) := hB8.cell 2
  go_wp2_with fail
  refine (OverCabin r wd zs.length _ g cap _ _ HO8.out hlen).mono ?_
  rintro e w9 ⟨⟨uu, rfl⟩, hg⟩
  have hgz := hA8.lt
  have hA9 := hA8.grown hg (by omega)
  have hb9 := ext_only hb8 hg (by omega)
  clear x0 x1 x2 y0 y1 y2 hg hA8 hB8 hb8 HO8
  have x0 : w9.cell? ⟨w.heap.size, 0, none⟩ = some (.int .i64 r) := hA9.cell 0
  have x1 : w9.cell? ⟨w.heap.size, 1, none⟩ = some (.int .i64 wd) := hA9.cell 1
  have x2 : w9.cell? ⟨w.heap.size, 2, none⟩ = some (.slice A zs.length c) := hA9.cell 2
  go_wp2_with fail
  go_ret
  exact ⟨rfl, hb9⟩

set_option maxRecDepth 100000 in
set_option maxHeartbeats 2000000 in
theorem Checks_yes (r wd : Int) (zs : List Int) (A : Option Addr) (c : Nat) (W : Nat) (w : World) (hI : Ints w A zs) (hN : A = none → zs = [] ∧ c = 0) (hlen : zs.length ≤ 17592186043904) (hev : EV w) (hok : okC r wd zs = true) (hW : wd = (W : Int)) :
    Calls Tryd.prog 7 #[.agg #[.int .i64 r, .int .i64 wd, .slice A zs.length c]] w fun e w' => e = .returned (.bool true) ∧ Below w.heap.size w w' := by
  have HE := Lib.hid (hev.keep (ext_alloc (Below.refl _ w) (.cells #[.int .i64 r, .int .i64 wd, .slice A zs.length c] 24)))
  have HI := Lib.hid hI
  have HN := Lib.hid hN
  have HOK := Lib.hid hok
  have hl : zs.length ≤ 20000000000000 := by omega
  obtain ⟨⟨o1, o2, o3, o4⟩, _⟩ := okC_yes hok
  have q1 : 0 ≤ r * wd := Int.mul_nonneg (by omega) (by omega)
  have q2 : r * wd ≤ 64 * 16 := Int.mul_le_mul (by omega) (by omega) (by omega) (by omega)
  have hm1 : r.toNat * W ≤ 64 * 16 := Nat.mul_le_mul (by omega) (by omega)
  have hfl : (full (stB W zs) (r.toNat * W)).length ≤ 100000 := by have := full_len (st := stB W zs) (r.toNat * W); omega
  have HW := Lib.hid hW
  clear hW
  clear hI hev hN hok
  go_enter Tryd.func7, Tryd.ntmps7
  go_wp2_with fail
  refine (Awake _ HE.out).mono ?_
  rintro e w1 ⟨rfl, hb⟩
  have hA1 := (Arr.fresh w 24 #[.int .i64 r, .int .i64 wd, .slice A zs.length c]).keep hb
  have hb1 := ext_trans (ext_alloc (Below.refl _ w) _) hb
  clear hb HE
  have x0 : w1.cell? ⟨w.heap.size, 0, none⟩ = some (.int .i64 r) := hA1.cell 0
  have x1 : w1.cell? ⟨w.heap.size, 1, none⟩ = some (.int .i64 wd) := hA1.cell 1
  have x2 : w1.cell? ⟨w.heap.size, 2, none⟩ = some (.slice A zs.length c) := hA1.cell 2
  go_wp2_with fail
  refine (LentCabin r wd zs A c _ (HI.out.keep hb1) HN.out hlen).mono ?_
  rintro e w2 ⟨g, cap, rfl, hown, hb⟩
  have hA2 := hA1.keep hb
  have hb2 := ext_trans hb1 hb
  have hg1 := own_lt (g := g) hown rfl
  have hz1 := hA1.lt
  have hAa := hA2.alloc (.cells #[.int .i64 r, .int .i64 wd, .slice (some ⟨g, 0, none⟩) zs.length cap] 24)
  have hBa := Arr.fresh w2 24 #[.int .i64 r, .int .i64 wd, .slice (some ⟨g, 0, none⟩) zs.length cap]
  have hba := ext_alloc hb2 (.cells #[.int .i64 r, .int .i64 wd, .slice (some ⟨g, 0, none⟩) zs.length cap] 24)
  have HOa := Lib.hid (own_alloc hown (.cells #[.int .i64 r, .int .i64 wd, .slice (some ⟨g, 0, none⟩) zs.length cap] 24))
  clear hb hA1 hb1 hA2 hb2 hown x0 x1 x2
  go_wp2_with fail
  refine (Check_yes r wd zs (some ⟨g, 0, none⟩) cap _ (fun _ => ⟨g, 0, rfl, (own_lt (g := g) HOa.out rfl).1, fun j hj => by rw [Nat.zero_add]; exact (lent_cell HOa.out).1 j hj⟩) hl HOK.out).mono ?_
  rintro e w3 ⟨rfl, hb⟩
  have hA3 := hAa.keep hb
  have hB3 := hBa.keep hb
  have hb3 := ext_trans hba hb
  have HO3 := Lib.hid (own_keep HOa.out hb)
  clear hb hAa hBa hba HOa
  have hzB3 := hB3.lt
  have x0 : w3.cell? ⟨w.heap.size, 0, none⟩ = some (.int .i64 r) := hA3.cell 0
  have x1 : w3.cell? ⟨w.heap.size, 1, none⟩ = some (.int .i64 wd) := hA3.cell 1
  have x2 : w3.cell? ⟨w.heap.size, 2, none⟩ = some (.slice A zs.length c) := hA3.cell 2
  have y0 : w3.cell? ⟨w2.heap.size, 0, none⟩ = some (.int .i64 r) := hB3.cell 0
  have y1 : w3.cell? ⟨w2.heap.size, 1, none⟩ = some (.int .i64 wd) := hB3.cell 1
  have y2 : w3.cell? ⟨w2.heap.size, 2, none⟩ = some (.slice (some ⟨g, 0, none⟩) zs.length cap) := hB3.cell 2
  go_wp2_with fail
  refine (Seats_yes r wd zs (some ⟨g, 0, none⟩) cap _ (fun _ => ⟨g, 0, rfl, (own_lt (g := g) HO3.out rfl).1, fun j hj => by rw [Nat.zero_add]; exact (lent_cell HO3.out).1 j hj⟩) hl HOK.out).mono ?_
  rintro e w4 ⟨rfl, hb⟩
  have hA4 := hA3.keep hb
  have hB4 := hB3.keep hb
  have hb4 := ext_trans hb3 hb
  have HO4 := Lib.hid (own_keep HO3.out hb)
  clear hb hA3 hB3 hb3 HO3
  clear x0 x1 x2 y0 y1 y2
  have hzB4 := hB4.lt
  have x0 : w4.cell? ⟨w.heap.size, 0, none⟩ = some (.int .i64 r) := hA4.cell 0
  have x1 : w4.cell? ⟨w.heap.size, 1, none⟩ = some (.int .i64 wd) := hA4.cell 1
  have x2 : w4.cell? ⟨w.heap.size, 2, none⟩ = some (.slice A zs.length c) := hA4.cell 2
  have y0 : w4.cell? ⟨w2.heap.size, 0, none⟩ = some (.int .i64 r) := hB4.cell 0
  have y1 : w4.cell? ⟨w2.heap.size, 1, none⟩ = some (.int .i64 wd) := hB4.cell 1
  have y2 : w4.cell? ⟨w2.heap.size, 2, none⟩ = some (.slice (some ⟨g, 0, none⟩) zs.length cap) := hB4.cell 2
  go_wp2_with fail
  refine (Blocks_at r wd W HW.out zs (some ⟨g, 0, none⟩) cap _ (fun _ => ⟨g, 0, rfl, (own_lt (g := g) HO4.out rfl).1, fun j hj => by rw [Nat.zero_add]; exact (lent_cell HO4.out).1 j hj⟩) hl HOK.out).mono ?_
  rintro e w5 ⟨v, rfl, hv, hb⟩
  have hA5 := hA4.keep hb
  have hB5 := hB4.keep hb
  have hb5 := ext_trans hb4 hb
  have HO5 := Lib.hid (own_keep HO4.out hb)
  clear hb hA4 hB4 hb4 HO4
  clear x0 x1 x2 y0 y1 y2
  have HV1 := Lib.hid hv
  clear hv
  have hzB5 := hB5.lt
  have x0 : w5.cell? ⟨w.heap.size, 0, none⟩ = some (.int .i64 r) := hA5.cell 0
  have x1 : w5.cell? ⟨w.heap.size, 1, none⟩ = some (.int .i64 wd) := hA5.cell 1
  have x2 : w5.cell? ⟨w.heap.size, 2, none⟩ = some (.slice A zs.length c) := hA5.cell 2
  have y0 : w5.cell? ⟨w2.heap.size, 0, none⟩ = some (.int .i64 r) := hB5.cell 0
  have y1 : w5.cell? ⟨w2.heap.size, 1, none⟩ = some (.int .i64 wd) := hB5.cell 1
  have y2 : w5.cell? ⟨w2.heap.size, 2, none⟩ = some (.slice (some ⟨g, 0, none⟩) zs.length cap) := hB5.cell 2
  go_wp2_with fail
  refine (rCheck_yes r wd zs A c _ (HI.out.keep hb5) hl HOK.out).mono ?_
  rintro e w6 ⟨rfl, hb⟩
  have hA6 := hA5.keep hb
  have hB6 := hB5.keep hb
  have hb6 := ext_trans hb5 hb
  have HO6 := Lib.hid (own_keep HO5.out hb)
  replace HV1 := Lib.hid (own_keep HV1.out hb)
  clear hb hA5 hB5 hb5 HO5
  clear x0 x1 x2 y0 y1 y2
  have hzB6 := hB6.lt
  have x0 : w6.cell? ⟨w.heap.size, 0, none⟩ = some (.int .i64 r) := hA6.cell 0
  have x1 : w6.cell? ⟨w.heap.size, 1, none⟩ = some (.int .i64 wd) := hA6.cell 1
  have x2 : w6.cell? ⟨w.heap.size, 2, none⟩ = some (.slice A zs.length c) := hA6.cell 2
  have y0 : w6.cell? ⟨w2.heap.size, 0, none⟩ = some (.int .i64 r) := hB6.cell 0
  have y1 : w6.cell? ⟨w2.heap.size, 1, none⟩ = some (.int .i64 wd) := hB6.cell 1
  have y2 : w6.cell? ⟨w2.heap.size, 2, none⟩ = some (.slice (some ⟨g, 0, none⟩) zs.length cap) := hB6.cell 2
  go_wp2_with fail
  refine (rBlocks_at r wd W HW.out zs A c _ (HI.out.keep hb6) hl HOK.out).mono ?_
  rintro e w7 ⟨u, rfl, hv, hb⟩
  have hA7 := hA6.keep hb
  have hB7 := hB6.keep hb
  have hb7 := ext_trans hb6 hb
  have HO7 := Lib.hid (own_keep HO6.out hb)
  replace HV1 := Lib.hid (own_keep HV1.out hb)
  clear hb hA6 hB6 hb6 HO6
  clear x0 x1 x2 y0 y1 y2
  have HV2 := Lib.hid hv
  clear hv
  have hzB7 := hB7.lt
  have x0 : w7.cell? ⟨w.heap.size, 0, none⟩ = some (.int .i64 r) := hA7.cell 0
  have x1 : w7.cell? ⟨w.heap.size, 1, none⟩ = some (.int .i64 wd) := hA7.cell 1
  have x2 : w7.cell? ⟨w.heap.size, 2, none⟩ = some (.slice A zs.length c) := hA7.cell 2
  have y0 : w7.cell? ⟨w2.heap.size, 0, none⟩ = some (.int .i64 r) := hB7.cell 0
  have y1 : w7.cell? ⟨w2.heap.size, 1, none⟩ = some (.int .i64 wd) := hB7.cell 1
  have y2 : w7.cell? ⟨w2.heap.size, 2, none⟩ = some (.slice (some ⟨g, 0, none⟩) zs.length cap) := hB7.cell 2
  go_wp2_with fail
  refine (KeptCabin r wd zs _ g cap A c _ HO7.out (HI.out.keep hb7) hlen).mono ?_
  rintro e w8 ⟨rfl, hb⟩
  have hA8 := hA7.keep hb
  have hB8 := hB7.keep hb
  have hb8 := ext_trans hb7 hb
  have HO8 := Lib.hid (own_keep HO7.out hb)
  replace HV1 := Lib.hid (own_keep HV1.out hb)
  replace HV2 := Lib.hid (own_keep HV2.out hb)
  clear hb hA7 hB7 hb7 HO7
  clear x0 x1 x2 y0 y1 y2
  have hzB8 := hB8.lt
  have x0 : w8.cell? ⟨w.heap.size, 0, none⟩ = some (.int .i64 r) := hA8.cell 0
  have x1 : w8.cell? ⟨w.heap.size, 1, none⟩ = some (.int .i64 wd) := hA8.cell 1
  have x2 : w8.cell? ⟨w.heap.size, 2, none⟩ = some (.slice A zs.length c) := hA8.cell 2
  have y0 : w8.cell? ⟨w2.heap.size, 0, none⟩ = some (.int .i64 r) := hB8.cell 0
  have y1 : w8.cell? ⟨w2.heap.size, 1, none⟩ = some (.int .i64 wd) := hB8.cell 1
  have y2 : w8.cell? ⟨w2.heap.size, 2, none⟩ = some (.slice (some ⟨g, 0, none⟩) zs.length cap) := hB8.cell 2
  go_wp2_with fail
  refine (OverCabin r wd zs.length _ g cap _ _ HO8.out hlen).mono ?_
  rintro e w9 ⟨⟨uu, rfl⟩, hg⟩
  have hgz := hA8.lt
  have hA9 := hA8.grown hg (by omega)
  have hb9 := ext_only hb8 hg (by omega)
  replace HV1 := Lib.hid (own_same HV1.out (fun k hk => hg.block k (own_lt HV1.out hk).1 (by intro e; injection e with e; have := (own_lt HV1.out hk).2; omega)))
  replace HV2 := Lib.hid (own_same HV2.out (fun k hk => hg.block k (own_lt HV2.out hk).1 (by intro e; injection e with e; have := (own_lt HV2.out hk).2; omega)))
  clear x0 x1 x2 y0 y1 y2 hg hA8 hB8 hb8 HO8
  have x0 : w9.cell? ⟨w.heap.size, 0, none⟩ = some (.int .i64 r) := hA9.cell 0
  have x1 : w9.cell? ⟨w.heap.size, 1, none⟩ = some (.int .i64 wd) := hA9.cell 1
  have x2 : w9.cell? ⟨w.heap.size, 2, none⟩ = some (.slice A zs.length c) := hA9.cell 2
  go_wp2_with fail
  refine (SameSpans (full (stB W zs) (r.toNat * W)) _ _ v u _ HV1.out HV2.out hfl).mono ?_
  rintro e w99 ⟨rfl, hb⟩
  have hbf := ext_trans hb9 hb
  go_wp2_with fail
  go_ret
  exact ⟨rfl, hbf⟩

theorem Checks (r wd : Int) (zs : List Int) (A : Option Addr) (c : Nat) (w : World) (hI : Ints w A zs) (hN : A = none → zs = [] ∧ c = 0) (hlen : zs.length ≤ 17592186043904) (hev : EV w) :
    Calls Tryd.prog 7 #[.agg #[.int .i64 r, .int .i64 wd, .slice A zs.length c]] w fun e w' => e = .returned (.bool true) ∧ Below w.heap.size w w' := by
  cases hok : okC r wd zs with
  | false => exact Checks_no r wd zs A c w hI hN hlen hev hok
  | true =>
    obtain ⟨⟨o1, o2, o3, o4⟩, _⟩ := okC_yes hok
    exact Checks_yes r wd zs A c wd.toNat w hI hN hlen hev hok (by omega)

end Go.Proofs.YtablpncipkbfhaaDoor.Cab
