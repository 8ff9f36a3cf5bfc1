/- The contracts of the cabin's functions, fifth part: Window, Beside. -/
import Derived.Test.YtablpncipkbfhaaDoorCab3
import Derived.Test.YtablpncipkbfhaaDoorCabPlain2
namespace Go.Proofs.YtablpncipkbfhaaDoor.Cab
open Go.RowKit

-- cabin.Window
set_option maxRecDepth 100000 in
set_option maxHeartbeats 1000000 in
theorem Window_yes (r wd : Int) (zs : List Int) (A : Option Addr) (c : Nat) (s : Int) (x y z : Bool) (w : World) (hI : Ints w A zs) (hlen : zs.length ≤ 20000000000000) (hok : okC r wd zs = true) (hs0 : 0 ≤ s) (hs1 : s < r * wd) (hx : (s % wd == 0 || s % wd == wd - 1) = x) (hy : lieAt zs (s % wd) = y) (hz : lieAt zs (s % wd + 1) = z) :
    Calls Tryd.prog 20 #[.agg #[.int .i64 r, .int .i64 wd, .slice A zs.length c], .int .i64 s] w fun e w' => e = .returned (.tuple #[.bool x, .bool (y || z), .int .i64 0]) ∧ Below w.heap.size w w' := by
  have HI := Lib.hid (hI.keep (ext_alloc (Below.refl _ w) (.cells #[.int .i64 r, .int .i64 wd, .slice A zs.length c] 24)))
  have HOK := Lib.hid hok
  obtain ⟨⟨o1, o2, o3, o4⟩, _⟩ := okC_yes hok
  clear hI hok
  have q6 := Int.emod_lt_of_pos s (show 0 < wd by omega)
  have q5 := Int.emod_nonneg s (show wd ≠ 0 by omega)
  obtain ⟨col, hcol⟩ : ∃ col : Nat, s % wd = (col : Int) := ⟨(s % wd).toNat, by omega⟩
  rw [hcol] at hx hy hz q5 q6
  have HC := Lib.hid hcol
  clear hcol
  have hy2 : lies zs zs.length col = y := by rw [lies_lieAt]; exact hy
  have hz2 : lies zs zs.length (col + 1) = z := by rw [lies_lieAt, ← hz]; rfl
  have HY := Lib.hid hy2
  have HZ := Lib.hid hz2
  clear hy hz hy2 hz2
  have v1 : IntKind.i64.wrap (wd - 1) = wd - 1 := IntWalk.i64_in _ (by omega)
  have v2 : IntKind.i64.wrap ((col : Int) + 1) = (col : Int) + 1 := IntWalk.i64_in _ (by omega)
  go_enter Tryd.func20, Tryd.ntmps20
  go_wp2_with fail
  refine (Place_yes r wd zs A c s _ HI.out hlen HOK.out hs0 hs1).mono ?_
  rintro e w1 ⟨rfl, hb⟩
  have hbw := ext_trans (ext_alloc (Below.refl _ w) _) hb
  have x0 : w1.cell? ⟨w.heap.size, 0, none⟩ = some (.int .i64 r) := by
    rw [hb.cell (p := ⟨w.heap.size, 0, none⟩) (by simp)]; simp
  have x1 : w1.cell? ⟨w.heap.size, 1, none⟩ = some (.int .i64 wd) := by
    rw [hb.cell (p := ⟨w.heap.size, 1, none⟩) (by simp)]; simp
  have x2 : w1.cell? ⟨w.heap.size, 2, none⟩ = some (.slice A zs.length c) := by
    rw [hb.cell (p := ⟨w.heap.size, 2, none⟩) (by simp)]; simp
  have hz1 : w.heap.size < w1.heap.size := by have := hb.size; simp at this; omega
  have HI1 := Lib.hid (HI.out.keep hb)
  rw [HC.out]
  clear hb hs0 hs1
  go_wp2_with fail
  refine (aisles_yes r wd zs A c _ HI1.out hlen HOK.out).mono ?_
  rintro e w2 ⟨f, rfl, hf, hb2⟩
  have hbx := ext_trans hbw hb2
  have y0 : w2.cell? ⟨w.heap.size, 1, none⟩ = some (.int .i64 wd) := by
    rw [hb2.cell (p := ⟨w.heap.size, 1, none⟩) hz1]; exact x1
  have hz2 : w.heap.size < w2.heap.size := by have := hb2.size; omega
  clear hb2
  have hf1 := (hf col (by omega)).trans HY.out
  have hf2 := (hf (col + 1) (by omega)).trans HZ.out
  clear hf
  go_wp2_with (refine wpList_store_blk rfl 69 (.tmp 10) (.tmp 25) rfl w2.heap.size 69 F17 (arr17 f) (Arr.new rfl) (by rfl) (by rfl) rfl size17 (one17 _) ?_; intro w5 h5 ho5 hs5; have HO5 := Lib.hid ho5; have H5 := Lib.hid h5; clear ho5 h5 hs5)
  have c1 := (H5.out.cell col).trans (arr17_at f (by omega))
  have c2 := (H5.out.cell (col + 1)).trans (arr17_at f (by omega))
  rw [hf1] at c1
  rw [hf2] at c2
  have y1 : w5.cell? ⟨w.heap.size, 1, none⟩ = some (.int .i64 wd) := by
    have := ((HO5.out.block w.heap.size (by simp; omega) (by simp; omega)))
    unfold World.cell? at y0 ⊢
    rw [this, heap_alloc_old _ _ hz2]
    exact y0
  clear y0
  have hbz := ext_only (ext_alloc hbx _) HO5.out hbx.size
  have HB := Lib.hid hbz
  clear hbz hbx hbw
  have hcc : col = 0 ∨ (0 : Int) < (col : Int) := by omega
  rcases hcc with rfl | g1
  · have hx2 : x = true := by rw [← hx]; simp
    subst hx2
    cases y <;> cases z
    all_goals
      go_wp2_with fail
      refine wp_region_quiet_lit (by kernel_rfl) (by kernel_rfl) ?_
      repeat (first | go_big_quiet_step ((fail)) | quiet_step ((fail)))
      refine wpQuiet_nil ?_
      intro _ hw'
      obtain ⟨nq, hw''⟩ := hw'
      subst hw''
      go_wp2_with fail
      go_ret3
      exact ⟨rfl, ext_drewN HB.out _⟩
  · have g0 : ¬ col = 0 := by omega
    have hcd : (col : Int) = wd - 1 ∨ (col : Int) < wd - 1 := by omega
    rcases hcd with g2 | g2
    · have e2 : ((col : Int) == wd - 1) = true := by rw [beq_iff_eq]; exact g2
      have hx2 : x = true := by rw [← hx, e2, Bool.or_true]
      subst hx2
      clear hx g2
      cases y <;> cases z
      all_goals
        go_wp2_with fail
        refine wp_region_quiet_lit (by kernel_rfl) (by kernel_rfl) ?_
        repeat (first | go_big_quiet_step ((fail)) | quiet_step ((fail)))
        refine wpQuiet_nil ?_
        intro _ hw'
        obtain ⟨nq, hw''⟩ := hw'
        subst hw''
        go_wp2_with fail
        go_ret3
        exact ⟨by first | rfl | simp, ext_drewN HB.out _⟩
    · have hx2 : x = false := by rw [← hx, Bool.or_eq_false_iff, beq_eq_false_iff_ne, beq_eq_false_iff_ne]; omega
      subst hx2
      clear hx
      cases y <;> cases z
      all_goals
        go_wp2_with fail
        refine wp_region_quiet_lit (by kernel_rfl) (by kernel_rfl) ?_
        repeat (first | go_big_quiet_step ((fail)) | quiet_step ((fail)))
        refine wpQuiet_nil ?_
        intro _ hw'
        obtain ⟨nq, hw''⟩ := hw'
        subst hw''
        go_wp2_with fail
        go_ret3
        exact ⟨by simp; omega, ext_drewN HB.out _⟩

set_option maxRecDepth 100000 in
set_option maxHeartbeats 1000000 in
theorem Window_seat (r wd : Int) (zs : List Int) (A : Option Addr) (c : Nat) (s : Int) (w : World) (hI : Ints w A zs) (hlen : zs.length ≤ 20000000000000) (hok : okC r wd zs = true) (hs : s < 0 ∨ r * wd ≤ s) :
    Calls Tryd.prog 20 #[.agg #[.int .i64 r, .int .i64 wd, .slice A zs.length c], .int .i64 s] w fun e w' => e = .returned (.tuple #[.bool false, .bool false, .int .i64 140]) ∧ Below w.heap.size w w' := by
  have HI := Lib.hid (hI.keep (ext_alloc (Below.refl _ w) (.cells #[.int .i64 r, .int .i64 wd, .slice A zs.length c] 24)))
  have HOK := Lib.hid hok
  clear hI hok
  go_enter Tryd.func20, Tryd.ntmps20
  go_wp2_with fail
  refine (Place_seat r wd zs A c s _ HI.out hlen HOK.out hs).mono ?_
  rintro e w1 ⟨rfl, hb⟩
  have hbw := ext_trans (ext_alloc (Below.refl _ w) _) hb
  go_wp2_with fail
  go_ret3
  exact ⟨rfl, hbw⟩

set_option maxRecDepth 100000 in
set_option maxHeartbeats 1000000 in
theorem Window_no (r wd : Int) (zs : List Int) (A : Option Addr) (c : Nat) (s : Int) (w : World) (hI : Ints w A zs) (hlen : zs.length ≤ 20000000000000) (hok : okC r wd zs = false) :
    Calls Tryd.prog 20 #[.agg #[.int .i64 r, .int .i64 wd, .slice A zs.length c], .int .i64 s] w fun e w' => e = .returned (.tuple #[.bool false, .bool false, .int .i64 2]) ∧ Below w.heap.size w w' := by
  have HI := Lib.hid (hI.keep (ext_alloc (Below.refl _ w) (.cells #[.int .i64 r, .int .i64 wd, .slice A zs.length c] 24)))
  have HOK := Lib.hid hok
  clear hI hok
  go_enter Tryd.func20, Tryd.ntmps20
  go_wp2_with fail
  refine (Place_no r wd zs A c s _ HI.out hlen HOK.out).mono ?_
  rintro e w1 ⟨rfl, hb⟩
  have hbw := ext_trans (ext_alloc (Below.refl _ w) _) hb
  go_wp2_with fail
  go_ret3
  exact ⟨rfl, hbw⟩

-- cabin.Beside
set_option maxRecDepth 100000 in
set_option maxHeartbeats 1000000 in
theorem Beside_row (r wd : Int) (zs : List Int) (A : Option Addr) (c : Nat) (a b : Int) (ra ca rb cb : Nat) (w : World) (hI : Ints w A zs) (hlen : zs.length ≤ 20000000000000) (hok : okC r wd zs = true) (ha0 : 0 ≤ a) (ha1 : a < r * wd) (hb0 : 0 ≤ b) (hb1 : b < r * wd) (hra : a / wd = ra) (hca : a % wd = ca) (hrb : b / wd = rb) (hcb : b % wd = cb) (hne : ¬ ra = rb) :
    Calls Tryd.prog 19 #[.agg #[.int .i64 r, .int .i64 wd, .slice A zs.length c], .int .i64 a, .int .i64 b] w fun e w' => e = .returned (.tuple #[.bool false, .int .i64 0]) ∧ Below w.heap.size w w' := by
  have HI := Lib.hid (hI.keep (ext_alloc (Below.refl _ w) (.cells #[.int .i64 r, .int .i64 wd, .slice A zs.length c] 24)))
  have HOK := Lib.hid hok
  obtain ⟨⟨o1, o2, o3, o4⟩, _⟩ := okC_yes hok
  clear hI hok
  have q5 := Int.emod_lt_of_pos a (show 0 < wd by omega)
  have q6 := Int.emod_lt_of_pos b (show 0 < wd by omega)
  rw [hca] at q5
  rw [hcb] at q6
  have HRA := Lib.hid hra; have HCA := Lib.hid hca; have HRB := Lib.hid hrb; have HCB := Lib.hid hcb
  clear hra hca hrb hcb
  have v1 : IntKind.i64.wrap ((cb : Int) - (ca : Int)) = (cb : Int) - (ca : Int) := IntWalk.i64_in _ (by omega)
  have v3 : ((cb : Int) - (ca : Int)) * ((cb : Int) - (ca : Int)) ≤ 15 * 15 := by
    rcases Int.le_total (ca : Int) cb with h | h
    · exact Int.mul_le_mul (by omega) (by omega) (by omega) (by omega)
    · rw [← Int.neg_mul_neg]
      exact Int.mul_le_mul (by omega) (by omega) (by omega) (by omega)
  have v4 : 0 ≤ ((cb : Int) - (ca : Int)) * ((cb : Int) - (ca : Int)) := by
    rcases Int.le_total (ca : Int) cb with h | h
    · exact Int.mul_nonneg (by omega) (by omega)
    · rw [← Int.neg_mul_neg]
      exact Int.mul_nonneg (by omega) (by omega)
  have v2 : IntKind.i64.wrap (((cb : Int) - (ca : Int)) * ((cb : Int) - (ca : Int))) = ((cb : Int) - (ca : Int)) * ((cb : Int) - (ca : Int)) := IntWalk.i64_in _ (by omega)
  go_enter Tryd.func19, Tryd.ntmps19
  go_wp2_with fail
  refine (Place_yes r wd zs A c a _ HI.out hlen HOK.out ha0 ha1).mono ?_
  rintro e w1 ⟨rfl, hb⟩
  have hbw := ext_trans (ext_alloc (Below.refl _ w) _) hb
  have x0 : w1.cell? ⟨w.heap.size, 0, none⟩ = some (.int .i64 r) := by
    rw [hb.cell (p := ⟨w.heap.size, 0, none⟩) (by simp)]; simp
  have x1 : w1.cell? ⟨w.heap.size, 1, none⟩ = some (.int .i64 wd) := by
    rw [hb.cell (p := ⟨w.heap.size, 1, none⟩) (by simp)]; simp
  have x2 : w1.cell? ⟨w.heap.size, 2, none⟩ = some (.slice A zs.length c) := by
    rw [hb.cell (p := ⟨w.heap.size, 2, none⟩) (by simp)]; simp
  have hz1 : w.heap.size < w1.heap.size := by have := hb.size; simp at this; omega
  have HI1 := Lib.hid (HI.out.keep hb)
  rw [HRA.out, HCA.out]
  clear hb ha0 ha1
  go_wp2_with fail
  refine (Place_yes r wd zs A c b _ HI1.out hlen HOK.out hb0 hb1).mono ?_
  rintro e w2 ⟨rfl, hb⟩
  have hbx := ext_trans hbw hb
  have y0 : w2.cell? ⟨w.heap.size, 0, none⟩ = some (.int .i64 r) := by
    rw [hb.cell (p := ⟨w.heap.size, 0, none⟩) hz1]; exact x0
  have y1 : w2.cell? ⟨w.heap.size, 1, none⟩ = some (.int .i64 wd) := by
    rw [hb.cell (p := ⟨w.heap.size, 1, none⟩) hz1]; exact x1
  have y2 : w2.cell? ⟨w.heap.size, 2, none⟩ = some (.slice A zs.length c) := by
    rw [hb.cell (p := ⟨w.heap.size, 2, none⟩) hz1]; exact x2
  have hz2 : w.heap.size < w2.heap.size := by have := hb.size; omega
  have HI2 := Lib.hid (HI1.out.keep hb)
  rw [HRB.out, HCB.out]
  clear hb hb0 hb1 hbw x0 x1 x2
  go_wp2_with fail
  refine (aisles_yes r wd zs A c _ HI2.out hlen HOK.out).mono ?_
  rintro e w3 ⟨f, rfl, hf, hb2⟩
  have hby := ext_trans hbx hb2
  clear hb2 y0 y1 y2 hbx
  have HF := Lib.hid hf
  clear hf
  go_wp2_with (refine wpList_store_blk rfl 69 (.tmp 13) (.tmp 39) rfl w3.heap.size 69 F17 (arr17 f) (Arr.new rfl) (by rfl) (by rfl) rfl size17 (one17 _) ?_; intro w5 h5 ho5 hs5; have HO5 := Lib.hid ho5; have H5 := Lib.hid h5; clear ho5 h5 hs5)
  have hbz := ext_only (ext_alloc hby _) HO5.out hby.size
  have HB := Lib.hid hbz
  clear hbz hby
  go_ret2
  exact ⟨by simp, HB.out⟩

-- cabin.Beside
set_option maxRecDepth 100000 in
set_option maxHeartbeats 1000000 in
theorem Beside_far (r wd : Int) (zs : List Int) (A : Option Addr) (c : Nat) (a b : Int) (ra ca rb cb : Nat) (w : World) (hI : Ints w A zs) (hlen : zs.length ≤ 20000000000000) (hok : okC r wd zs = true) (ha0 : 0 ≤ a) (ha1 : a < r * wd) (hb0 : 0 ≤ b) (hb1 : b < r * wd) (hra : a / wd = ra) (hca : a % wd = ca) (hrb : b / wd = rb) (hcb : b % wd = cb) (hre : ra = rb) (hne : ¬ cb = ca + 1 ∧ ¬ ca = cb + 1) :
    Calls Tryd.prog 19 #[.agg #[.int .i64 r, .int .i64 wd, .slice A zs.length c], .int .i64 a, .int .i64 b] w fun e w' => e = .returned (.tuple #[.bool false, .int .i64 0]) ∧ Below w.heap.size w w' := by
  have HI := Lib.hid (hI.keep (ext_alloc (Below.refl _ w) (.cells #[.int .i64 r, .int .i64 wd, .slice A zs.length c] 24)))
  have HOK := Lib.hid hok
  obtain ⟨⟨o1, o2, o3, o4⟩, _⟩ := okC_yes hok
  clear hI hok
  have q5 := Int.emod_lt_of_pos a (show 0 < wd by omega)
  have q6 := Int.emod_lt_of_pos b (show 0 < wd by omega)
  rw [hca] at q5
  rw [hcb] at q6
  have HRA := Lib.hid hra; have HCA := Lib.hid hca; have HRB := Lib.hid hrb; have HCB := Lib.hid hcb
  clear hra hca hrb hcb
  have v1 : IntKind.i64.wrap ((cb : Int) - (ca : Int)) = (cb : Int) - (ca : Int) := IntWalk.i64_in _ (by omega)
  have v3 : ((cb : Int) - (ca : Int)) * ((cb : Int) - (ca : Int)) ≤ 15 * 15 := by
    rcases Int.le_total (ca : Int) cb with h | h
    · exact Int.mul_le_mul (by omega) (by omega) (by omega) (by omega)
    · rw [← Int.neg_mul_neg]
      exact Int.mul_le_mul (by omega) (by omega) (by omega) (by omega)
  have v4 : 0 ≤ ((cb : Int) - (ca : Int)) * ((cb : Int) - (ca : Int)) := by
    rcases Int.le_total (ca : Int) cb with h | h
    · exact Int.mul_nonneg (by omega) (by omega)
    · rw [← Int.neg_mul_neg]
      exact Int.mul_nonneg (by omega) (by omega)
  have v2 : IntKind.i64.wrap (((cb : Int) - (ca : Int)) * ((cb : Int) - (ca : Int))) = ((cb : Int) - (ca : Int)) * ((cb : Int) - (ca : Int)) := IntWalk.i64_in _ (by omega)
  subst hre
  obtain ⟨dd, hdd⟩ : ∃ dd, ((cb : Int) - (ca : Int)) * ((cb : Int) - (ca : Int)) = dd := ⟨_, rfl⟩
  have hd1 : ¬ dd = 1 := by
    intro h1
    rw [h1] at hdd
    have h2 : ((cb : Int) - (ca : Int) - 1) * ((cb : Int) - (ca : Int) + 1) = 0 := by
      generalize (cb : Int) - (ca : Int) = d at hdd ⊢
      rw [Int.sub_mul, Int.mul_add, Int.one_mul, Int.mul_one, hdd]; omega
    rcases Int.mul_eq_zero.1 h2 with h3 | h3 <;> omega
  clear hne
  rw [hdd] at v2 v3 v4
  go_enter Tryd.func19, Tryd.ntmps19
  go_wp2_with fail
  refine (Place_yes r wd zs A c a _ HI.out hlen HOK.out ha0 ha1).mono ?_
  rintro e w1 ⟨rfl, hb⟩
  have hbw := ext_trans (ext_alloc (Below.refl _ w) _) hb
  have x0 : w1.cell? ⟨w.heap.size, 0, none⟩ = some (.int .i64 r) := by
    rw [hb.cell (p := ⟨w.heap.size, 0, none⟩) (by simp)]; simp
  have x1 : w1.cell? ⟨w.heap.size, 1, none⟩ = some (.int .i64 wd) := by
    rw [hb.cell (p := ⟨w.heap.size, 1, none⟩) (by simp)]; simp
  have x2 : w1.cell? ⟨w.heap.size, 2, none⟩ = some (.slice A zs.length c) := by
    rw [hb.cell (p := ⟨w.heap.size, 2, none⟩) (by simp)]; simp
  have hz1 : w.heap.size < w1.heap.size := by have := hb.size; simp at this; omega
  have HI1 := Lib.hid (HI.out.keep hb)
  rw [HRA.out, HCA.out]
  clear hb ha0 ha1
  go_wp2_with fail
  refine (Place_yes r wd zs A c b _ HI1.out hlen HOK.out hb0 hb1).mono ?_
  rintro e w2 ⟨rfl, hb⟩
  have hbx := ext_trans hbw hb
  have y0 : w2.cell? ⟨w.heap.size, 0, none⟩ = some (.int .i64 r) := by
    rw [hb.cell (p := ⟨w.heap.size, 0, none⟩) hz1]; exact x0
  have y1 : w2.cell? ⟨w.heap.size, 1, none⟩ = some (.int .i64 wd) := by
    rw [hb.cell (p := ⟨w.heap.size, 1, none⟩) hz1]; exact x1
  have y2 : w2.cell? ⟨w.heap.size, 2, none⟩ = some (.slice A zs.length c) := by
    rw [hb.cell (p := ⟨w.heap.size, 2, none⟩) hz1]; exact x2
  have hz2 : w.heap.size < w2.heap.size := by have := hb.size; omega
  have HI2 := Lib.hid (HI1.out.keep hb)
  rw [HRB.out, HCB.out]
  clear hb hb0 hb1 hbw x0 x1 x2
  go_wp2_with fail
  refine (aisles_yes r wd zs A c _ HI2.out hlen HOK.out).mono ?_
  rintro e w3 ⟨f, rfl, hf, hb2⟩
  have hby := ext_trans hbx hb2
  clear hb2 y0 y1 y2 hbx
  have HF := Lib.hid hf
  clear hf
  go_wp2_with (refine wpList_store_blk rfl 69 (.tmp 13) (.tmp 39) rfl w3.heap.size 69 F17 (arr17 f) (Arr.new rfl) (by rfl) (by rfl) rfl size17 (one17 _) ?_; intro w5 h5 ho5 hs5; have HO5 := Lib.hid ho5; have H5 := Lib.hid h5; clear ho5 h5 hs5)
  have hbz := ext_only (ext_alloc hby _) HO5.out hby.size
  have HB := Lib.hid hbz
  clear hbz hby
  go_ret2
  exact ⟨by simp, HB.out⟩

-- cabin.Beside
set_option maxRecDepth 100000 in
set_option maxHeartbeats 1000000 in
theorem Beside_up (r wd : Int) (zs : List Int) (A : Option Addr) (c : Nat) (a b : Int) (ra ca rb cb : Nat) (y : Bool) (w : World) (hI : Ints w A zs) (hlen : zs.length ≤ 20000000000000) (hok : okC r wd zs = true) (ha0 : 0 ≤ a) (ha1 : a < r * wd) (hb0 : 0 ≤ b) (hb1 : b < r * wd) (hra : a / wd = ra) (hca : a % wd = ca) (hrb : b / wd = rb) (hcb : b % wd = cb) (hre : ra = rb) (hne : cb = ca + 1) (hy : lieAt zs (cb : Int) = y) :
    Calls Tryd.prog 19 #[.agg #[.int .i64 r, .int .i64 wd, .slice A zs.length c], .int .i64 a, .int .i64 b] w fun e w' => e = .returned (.tuple #[.bool (!y), .int .i64 0]) ∧ Below w.heap.size w w' := by
  have HI := Lib.hid (hI.keep (ext_alloc (Below.refl _ w) (.cells #[.int .i64 r, .int .i64 wd, .slice A zs.length c] 24)))
  have HOK := Lib.hid hok
  obtain ⟨⟨o1, o2, o3, o4⟩, _⟩ := okC_yes hok
  clear hI hok
  have q5 := Int.emod_lt_of_pos a (show 0 < wd by omega)
  have q6 := Int.emod_lt_of_pos b (show 0 < wd by omega)
  rw [hca] at q5
  rw [hcb] at q6
  have HRA := Lib.hid hra; have HCA := Lib.hid hca; have HRB := Lib.hid hrb; have HCB := Lib.hid hcb
  clear hra hca hrb hcb
  have v1 : IntKind.i64.wrap ((cb : Int) - (ca : Int)) = (cb : Int) - (ca : Int) := IntWalk.i64_in _ (by omega)
  have v3 : ((cb : Int) - (ca : Int)) * ((cb : Int) - (ca : Int)) ≤ 15 * 15 := by
    rcases Int.le_total (ca : Int) cb with h | h
    · exact Int.mul_le_mul (by omega) (by omega) (by omega) (by omega)
    · rw [← Int.neg_mul_neg]
      exact Int.mul_le_mul (by omega) (by omega) (by omega) (by omega)
  have v4 : 0 ≤ ((cb : Int) - (ca : Int)) * ((cb : Int) - (ca : Int)) := by
    rcases Int.le_total (ca : Int) cb with h | h
    · exact Int.mul_nonneg (by omega) (by omega)
    · rw [← Int.neg_mul_neg]
      exact Int.mul_nonneg (by omega) (by omega)
  have v2 : IntKind.i64.wrap (((cb : Int) - (ca : Int)) * ((cb : Int) - (ca : Int))) = ((cb : Int) - (ca : Int)) * ((cb : Int) - (ca : Int)) := IntWalk.i64_in _ (by omega)
  subst hre hne
  have hy2 : lies zs zs.length (ca + 1) = y := by rw [lies_lieAt]; exact hy
  have HY := Lib.hid hy2
  clear hy hy2
  have v5 : ((ca : Int) + 1 - (ca : Int)) = 1 := by omega
  have v6 : max (ca : Int) ((ca : Int) + 1) = (ca : Int) + 1 := by omega
  go_enter Tryd.func19, Tryd.ntmps19
  go_wp2_with fail
  refine (Place_yes r wd zs A c a _ HI.out hlen HOK.out ha0 ha1).mono ?_
  rintro e w1 ⟨rfl, hb⟩
  have hbw := ext_trans (ext_alloc (Below.refl _ w) _) hb
  have x0 : w1.cell? ⟨w.heap.size, 0, none⟩ = some (.int .i64 r) := by
    rw [hb.cell (p := ⟨w.heap.size, 0, none⟩) (by simp)]; simp
  have x1 : w1.cell? ⟨w.heap.size, 1, none⟩ = some (.int .i64 wd) := by
    rw [hb.cell (p := ⟨w.heap.size, 1, none⟩) (by simp)]; simp
  have x2 : w1.cell? ⟨w.heap.size, 2, none⟩ = some (.slice A zs.length c) := by
    rw [hb.cell (p := ⟨w.heap.size, 2, none⟩) (by simp)]; simp
  have hz1 : w.heap.size < w1.heap.size := by have := hb.size; simp at this; omega
  have HI1 := Lib.hid (HI.out.keep hb)
  rw [HRA.out, HCA.out]
  clear hb ha0 ha1
  go_wp2_with fail
  refine (Place_yes r wd zs A c b _ HI1.out hlen HOK.out hb0 hb1).mono ?_
  rintro e w2 ⟨rfl, hb⟩
  have hbx := ext_trans hbw hb
  have y0 : w2.cell? ⟨w.heap.size, 0, none⟩ = some (.int .i64 r) := by
    rw [hb.cell (p := ⟨w.heap.size, 0, none⟩) hz1]; exact x0
  have y1 : w2.cell? ⟨w.heap.size, 1, none⟩ = some (.int .i64 wd) := by
    rw [hb.cell (p := ⟨w.heap.size, 1, none⟩) hz1]; exact x1
  have y2 : w2.cell? ⟨w.heap.size, 2, none⟩ = some (.slice A zs.length c) := by
    rw [hb.cell (p := ⟨w.heap.size, 2, none⟩) hz1]; exact x2
  have hz2 : w.heap.size < w2.heap.size := by have := hb.size; omega
  have HI2 := Lib.hid (HI1.out.keep hb)
  rw [HRB.out, HCB.out]
  clear hb hb0 hb1 hbw x0 x1 x2
  go_wp2_with fail
  refine (aisles_yes r wd zs A c _ HI2.out hlen HOK.out).mono ?_
  rintro e w3 ⟨f, rfl, hf, hb2⟩
  have hby := ext_trans hbx hb2
  clear hb2 y0 y1 y2 hbx
  have HF := Lib.hid hf
  clear hf
  go_wp2_with (refine wpList_store_blk rfl 69 (.tmp 13) (.tmp 39) rfl w3.heap.size 69 F17 (arr17 f) (Arr.new rfl) (by rfl) (by rfl) rfl size17 (one17 _) ?_; intro w5 h5 ho5 hs5; have HO5 := Lib.hid ho5; have H5 := Lib.hid h5; clear ho5 h5 hs5; have hf1 := (HF.out (ca + 1) (by omega)).trans HY.out; have c1 := (H5.out.cell (ca + 1)).trans (arr17_at f (by omega)); rw [hf1] at c1; clear HF hf1)
  have hbz := ext_only (ext_alloc hby _) HO5.out hby.size
  have HB := Lib.hid hbz
  clear hbz hby
  go_ret2
  exact ⟨by cases y <;> rfl, HB.out⟩

-- cabin.Beside
set_option maxRecDepth 100000 in
set_option maxHeartbeats 1000000 in
theorem Beside_down (r wd : Int) (zs : List Int) (A : Option Addr) (c : Nat) (a b : Int) (ra ca rb cb : Nat) (y : Bool) (w : World) (hI : Ints w A zs) (hlen : zs.length ≤ 20000000000000) (hok : okC r wd zs = true) (ha0 : 0 ≤ a) (ha1 : a < r * wd) (hb0 : 0 ≤ b) (hb1 : b < r * wd) (hra : a / wd = ra) (hca : a % wd = ca) (hrb : b / wd = rb) (hcb : b % wd = cb) (hre : ra = rb) (hne : ca = cb + 1) (hy : lieAt zs (ca : Int) = y) :
    Calls Tryd.prog 19 #[.agg #[.int .i64 r, .int .i64 wd, .slice A zs.length c], .int .i64 a, .int .i64 b] w fun e w' => e = .returned (.tuple #[.bool (!y), .int .i64 0]) ∧ Below w.heap.size w w' := by
  have HI := Lib.hid (hI.keep (ext_alloc (Below.refl _ w) (.cells #[.int .i64 r, .int .i64 wd, .slice A zs.length c] 24)))
  have HOK := Lib.hid hok
  obtain ⟨⟨o1, o2, o3, o4⟩, _⟩ := okC_yes hok
  clear hI hok
  have q5 := Int.emod_lt_of_pos a (show 0 < wd by omega)
  have q6 := Int.emod_lt_of_pos b (show 0 < wd by omega)
  rw [hca] at q5
  rw [hcb] at q6
  have HRA := Lib.hid hra; have HCA := Lib.hid hca; have HRB := Lib.hid hrb; have HCB := Lib.hid hcb
  clear hra hca hrb hcb
  have v1 : IntKind.i64.wrap ((cb : Int) - (ca : Int)) = (cb : Int) - (ca : Int) := IntWalk.i64_in _ (by omega)
  have v3 : ((cb : Int) - (ca : Int)) * ((cb : Int) - (ca : Int)) ≤ 15 * 15 := by
    rcases Int.le_total (ca : Int) cb with h | h
    · exact Int.mul_le_mul (by omega) (by omega) (by omega) (by omega)
    · rw [← Int.neg_mul_neg]
      exact Int.mul_le_mul (by omega) (by omega) (by omega) (by omega)
  have v4 : 0 ≤ ((cb : Int) - (ca : Int)) * ((cb : Int) - (ca : Int)) := by
    rcases Int.le_total (ca : Int) cb with h | h
    · exact Int.mul_nonneg (by omega) (by omega)
    · rw [← Int.neg_mul_neg]
      exact Int.mul_nonneg (by omega) (by omega)
  have v2 : IntKind.i64.wrap (((cb : Int) - (ca : Int)) * ((cb : Int) - (ca : Int))) = ((cb : Int) - (ca : Int)) * ((cb : Int) - (ca : Int)) := IntWalk.i64_in _ (by omega)
  subst hre hne
  have hy2 : lies zs zs.length (cb + 1) = y := by rw [lies_lieAt]; exact hy
  have HY := Lib.hid hy2
  clear hy hy2
  have v5 : ((cb : Int) - ((cb : Int) + 1)) = -1 := by omega
  have v6 : max ((cb : Int) + 1) (cb : Int) = (cb : Int) + 1 := by omega
  go_enter Tryd.func19, Tryd.ntmps19
  go_wp2_with fail
  refine (Place_yes r wd zs A c a _ HI.out hlen HOK.out ha0 ha1).mono ?_
  rintro e w1 ⟨rfl, hb⟩
  have hbw := ext_trans (ext_alloc (Below.refl _ w) _) hb
  have x0 : w1.cell? ⟨w.heap.size, 0, none⟩ = some (.int .i64 r) := by
    rw [hb.cell (p := ⟨w.heap.size, 0, none⟩) (by simp)]; simp
  have x1 : w1.cell? ⟨w.heap.size, 1, none⟩ = some (.int .i64 wd) := by
    rw [hb.cell (p := ⟨w.heap.size, 1, none⟩) (by simp)]; simp
  have x2 : w1.cell? ⟨w.heap.size, 2, none⟩ = some (.slice A zs.length c) := by
    rw [hb.cell (p := ⟨w.heap.size, 2, none⟩) (by simp)]; simp
  have hz1 : w.heap.size < w1.heap.size := by have := hb.size; simp at this; omega
  have HI1 := Lib.hid (HI.out.keep hb)
  rw [HRA.out, HCA.out]
  clear hb ha0 ha1
  go_wp2_with fail
  refine (Place_yes r wd zs A c b _ HI1.out hlen HOK.out hb0 hb1).mono ?_
  rintro e w2 ⟨rfl, hb⟩
  have hbx := ext_trans hbw hb
  have y0 : w2.cell? ⟨w.heap.size, 0, none⟩ = some (.int .i64 r) := by
    rw [hb.cell (p := ⟨w.heap.size, 0, none⟩) hz1]; exact x0
  have y1 : w2.cell? ⟨w.heap.size, 1, none⟩ = some (.int .i64 wd) := by
    rw [hb.cell (p := ⟨w.heap.size, 1, none⟩) hz1]; exact x1
  have y2 : w2.cell? ⟨w.heap.size, 2, none⟩ = some (.slice A zs.length c) := by
    rw [hb.cell (p := ⟨w.heap.size, 2, none⟩) hz1]; exact x2
  have hz2 : w.heap.size < w2.heap.size := by have := hb.size; omega
  have HI2 := Lib.hid (HI1.out.keep hb)
  rw [HRB.out, HCB.out]
  clear hb hb0 hb1 hbw x0 x1 x2
  go_wp2_with fail
  refine (aisles_yes r wd zs A c _ HI2.out hlen HOK.out).mono ?_
  rintro e w3 ⟨f, rfl, hf, hb2⟩
  have hby := ext_trans hbx hb2
  clear hb2 y0 y1 y2 hbx
  have HF := Lib.hid hf
  clear hf
  go_wp2_with (refine wpList_store_blk rfl 69 (.tmp 13) (.tmp 39) rfl w3.heap.size 69 F17 (arr17 f) (Arr.new rfl) (by rfl) (by rfl) rfl size17 (one17 _) ?_; intro w5 h5 ho5 hs5; have HO5 := Lib.hid ho5; have H5 := Lib.hid h5; clear ho5 h5 hs5; have hf1 := (HF.out (cb + 1) (by omega)).trans HY.out; have c1 := (H5.out.cell (cb + 1)).trans (arr17_at f (by omega)); rw [hf1] at c1; clear HF hf1)
  have hbz := ext_only (ext_alloc hby _) HO5.out hby.size
  have HB := Lib.hid hbz
  clear hbz hby
  go_ret2
  exact ⟨by cases y <;> rfl, HB.out⟩

/-- do two seats stand side by side? -/
def besB (wd : Int) (zs : List Int) (a b : Int) : Bool := decide (a / wd = b / wd ∧ (b % wd = a % wd + 1 ∨ a % wd = b % wd + 1)) && !lieAt zs (max (a % wd) (b % wd))
theorem Beside_yes (r wd : Int) (zs : List Int) (A : Option Addr) (c : Nat) (a b : Int) (w : World) (hI : Ints w A zs) (hlen : zs.length ≤ 20000000000000) (hok : okC r wd zs = true) (ha0 : 0 ≤ a) (ha1 : a < r * wd) (hb0 : 0 ≤ b) (hb1 : b < r * wd) :
    Calls Tryd.prog 19 #[.agg #[.int .i64 r, .int .i64 wd, .slice A zs.length c], .int .i64 a, .int .i64 b] w fun e w' => e = .returned (.tuple #[.bool (besB wd zs a b), .int .i64 0]) ∧ Below w.heap.size w w' := by
  obtain ⟨⟨o1, o2, o3, o4⟩, _⟩ := okC_yes hok
  have p1 := Int.emod_nonneg a (show wd ≠ 0 by omega)
  have p2 := Int.emod_nonneg b (show wd ≠ 0 by omega)
  have p3 : 0 ≤ a / wd := Int.ediv_nonneg (by omega) (by omega)
  have p4 : 0 ≤ b / wd := Int.ediv_nonneg (by omega) (by omega)
  obtain ⟨ra, hra⟩ : ∃ ra : Nat, a / wd = (ra : Int) := ⟨(a / wd).toNat, by omega⟩
  obtain ⟨rb, hrb⟩ : ∃ rb : Nat, b / wd = (rb : Int) := ⟨(b / wd).toNat, by omega⟩
  obtain ⟨ca, hca⟩ : ∃ ca : Nat, a % wd = (ca : Int) := ⟨(a % wd).toNat, by omega⟩
  obtain ⟨cb, hcb⟩ : ∃ cb : Nat, b % wd = (cb : Int) := ⟨(b % wd).toNat, by omega⟩
  unfold besB
  rw [hra, hrb, hca, hcb]
  by_cases hr : ra = rb
  · by_cases hu : cb = ca + 1
    · have h := Beside_up r wd zs A c a b ra ca rb cb _ w hI hlen hok ha0 ha1 hb0 hb1 hra hca hrb hcb hr hu rfl
      rw [decide_eq_true (by omega), Bool.true_and, show max (ca : Int) (cb : Int) = cb from by omega]
      exact h
    · by_cases hd : ca = cb + 1
      · have h := Beside_down r wd zs A c a b ra ca rb cb _ w hI hlen hok ha0 ha1 hb0 hb1 hra hca hrb hcb hr hd rfl
        rw [decide_eq_true (by omega), Bool.true_and, show max (ca : Int) (cb : Int) = ca from by omega]
        exact h
      · have h := Beside_far r wd zs A c a b ra ca rb cb w hI hlen hok ha0 ha1 hb0 hb1 hra hca hrb hcb hr ⟨hu, hd⟩
        rw [decide_eq_false (by omega), Bool.false_and]
        exact h
  · have h := Beside_row r wd zs A c a b ra ca rb cb w hI hlen hok ha0 ha1 hb0 hb1 hra hca hrb hcb hr
    rw [decide_eq_false (by omega), Bool.false_and]
    exact h

set_option maxRecDepth 100000 in
set_option maxHeartbeats 1000000 in
theorem Beside_seatA (r wd : Int) (zs : List Int) (A : Option Addr) (c : Nat) (a b : Int) (w : World) (hI : Ints w A zs) (hlen : zs.length ≤ 20000000000000) (hok : okC r wd zs = true) (hs : a < 0 ∨ r * wd ≤ a) :
    Calls Tryd.prog 19 #[.agg #[.int .i64 r, .int .i64 wd, .slice A zs.length c], .int .i64 a, .int .i64 b] w fun e w' => e = .returned (.tuple #[.bool false, .int .i64 140]) ∧ Below w.heap.size w w' := by
  have HI := Lib.hid (hI.keep (ext_alloc (Below.refl _ w) (.cells #[.int .i64 r, .int .i64 wd, .slice A zs.length c] 24)))
  have HOK := Lib.hid hok
  clear hI hok
  go_enter Tryd.func19, Tryd.ntmps19
  go_wp2_with fail
  refine (Place_seat r wd zs A c a _ HI.out hlen HOK.out hs).mono ?_
  rintro e w1 ⟨rfl, hb⟩
  have hbw := ext_trans (ext_alloc (Below.refl _ w) _) hb
  go_wp2_with fail
  go_ret2
  exact ⟨rfl, hbw⟩

set_option maxRecDepth 100000 in
set_option maxHeartbeats 1000000 in
theorem Beside_no (r wd : Int) (zs : List Int) (A : Option Addr) (c : Nat) (a b : Int) (w : World) (hI : Ints w A zs) (hlen : zs.length ≤ 20000000000000) (hok : okC r wd zs = false) :
    Calls Tryd.prog 19 #[.agg #[.int .i64 r, .int .i64 wd, .slice A zs.length c], .int .i64 a, .int .i64 b] w fun e w' => e = .returned (.tuple #[.bool false, .int .i64 2]) ∧ Below w.heap.size w w' := by
  have HI := Lib.hid (hI.keep (ext_alloc (Below.refl _ w) (.cells #[.int .i64 r, .int .i64 wd, .slice A zs.length c] 24)))
  have HOK := Lib.hid hok
  clear hI hok
  go_enter Tryd.func19, Tryd.ntmps19
  go_wp2_with fail
  refine (Place_no r wd zs A c a _ HI.out hlen HOK.out).mono ?_
  rintro e w1 ⟨rfl, hb⟩
  have hbw := ext_trans (ext_alloc (Below.refl _ w) _) hb
  go_wp2_with fail
  go_ret2
  exact ⟨rfl, hbw⟩

set_option maxRecDepth 100000 in
set_option maxHeartbeats 1000000 in
theorem Beside_seatB (r wd : Int) (zs : List Int) (A : Option Addr) (c : Nat) (a b : Int) (w : World) (hI : Ints w A zs) (hlen : zs.length ≤ 20000000000000) (hok : okC r wd zs = true) (ha0 : 0 ≤ a) (ha1 : a < r * wd) (hs : b < 0 ∨ r * wd ≤ b) :
    Calls Tryd.prog 19 #[.agg #[.int .i64 r, .int .i64 wd, .slice A zs.length c], .int .i64 a, .int .i64 b] w fun e w' => e = .returned (.tuple #[.bool false, .int .i64 140]) ∧ Below w.heap.size w w' := by
  have HI := Lib.hid (hI.keep (ext_alloc (Below.refl _ w) (.cells #[.int .i64 r, .int .i64 wd, .slice A zs.length c] 24)))
  have HOK := Lib.hid hok
  clear hI hok
  go_enter Tryd.func19, Tryd.ntmps19
  go_wp2_with fail
  refine (Place_yes r wd zs A c a _ HI.out hlen HOK.out ha0 ha1).mono ?_
  rintro e w1 ⟨rfl, hb⟩
  have hbw := ext_trans (ext_alloc (Below.refl _ w) _) hb
  have x0 : w1.cell? ⟨w.heap.size, 0, none⟩ = some (.int .i64 r) := by
    rw [hb.cell (p := ⟨w.heap.size, 0, none⟩) (by simp)]; simp
  have x1 : w1.cell? ⟨w.heap.size, 1, none⟩ = some (.int .i64 wd) := by
    rw [hb.cell (p := ⟨w.heap.size, 1, none⟩) (by simp)]; simp
  have x2 : w1.cell? ⟨w.heap.size, 2, none⟩ = some (.slice A zs.length c) := by
    rw [hb.cell (p := ⟨w.heap.size, 2, none⟩) (by simp)]; simp
  have HI1 := Lib.hid (HI.out.keep hb)
  clear hb ha0 ha1
  go_wp2_with fail
  refine (Place_seat r wd zs A c b _ HI1.out hlen HOK.out hs).mono ?_
  rintro e w2 ⟨rfl, hb⟩
  have hbx := ext_trans hbw hb
  clear hb hbw x0 x1 x2
  go_wp2_with fail
  go_ret2
  exact ⟨rfl, hbx⟩

end Go.Proofs.YtablpncipkbfhaaDoor.Cab
