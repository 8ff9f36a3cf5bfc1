/- The contracts of the cabin's functions, second part: aisles at every slice, Check, Seats, Place. -/
import Derived.Test.YtablpncipkbfhaaDoorCab
namespace Go.Proofs.YtablpncipkbfhaaDoor.Cab
open Go.RowKit

-- cabin.aisles, rows or width out of bounds
set_option maxRecDepth 100000 in
set_option maxHeartbeats 1000000 in
theorem aisles_out (r wd : Int) (S : Value) (w : World) (hrw : okRW r wd = false) :
    Calls Tryd.prog 39 #[.agg #[.int .i64 r, .int .i64 wd, S]] w fun e w' => e = .returned (.tuple #[.agg #[.bool false, .bool false, .bool false, .bool false, .bool false, .bool false, .bool false, .bool false, .bool false, .bool false, .bool false, .bool false, .bool false, .bool false, .bool false, .bool false, .bool false], .bool false]) ∧ Below w.heap.size w w' := by
  have h0 := okRW_no hrw
  have H0 := Lib.hid h0
  clear h0 hrw
  have hA : Arr (((w.alloc (.cells #[.int .i64 r, .int .i64 wd, S] 24)).alloc (.cells #[.bool false, .bool false, .bool false, .bool false, .bool false, .bool false, .bool false, .bool false, .bool false, .bool false, .bool false, .bool false, .bool false, .bool false, .bool false, .bool false, .bool false] 69)).alloc (.cells #[.bool false, .bool false, .bool false, .bool false, .bool false, .bool false, .bool false, .bool false, .bool false, .bool false, .bool false, .bool false, .bool false, .bool false, .bool false, .bool false, .bool false] 69)) (w.heap.size + 1) 69 #[.bool false, .bool false, .bool false, .bool false, .bool false, .bool false, .bool false, .bool false, .bool false, .bool false, .bool false, .bool false, .bool false, .bool false, .bool false, .bool false, .bool false] := (Arr.new (by simp)).alloc _
  have hB : Arr (((w.alloc (.cells #[.int .i64 r, .int .i64 wd, S] 24)).alloc (.cells #[.bool false, .bool false, .bool false, .bool false, .bool false, .bool false, .bool false, .bool false, .bool false, .bool false, .bool false, .bool false, .bool false, .bool false, .bool false, .bool false, .bool false] 69)).alloc (.cells #[.bool false, .bool false, .bool false, .bool false, .bool false, .bool false, .bool false, .bool false, .bool false, .bool false, .bool false, .bool false, .bool false, .bool false, .bool false, .bool false, .bool false] 69)) (w.heap.size + 1 + 1) 69 #[.bool false, .bool false, .bool false, .bool false, .bool false, .bool false, .bool false, .bool false, .bool false, .bool false, .bool false, .bool false, .bool false, .bool false, .bool false, .bool false, .bool false] := Arr.new (by simp)
  have hx : Below w.heap.size w (((w.alloc (.cells #[.int .i64 r, .int .i64 wd, S] 24)).alloc (.cells #[.bool false, .bool false, .bool false, .bool false, .bool false, .bool false, .bool false, .bool false, .bool false, .bool false, .bool false, .bool false, .bool false, .bool false, .bool false, .bool false, .bool false] 69)).alloc (.cells #[.bool false, .bool false, .bool false, .bool false, .bool false, .bool false, .bool false, .bool false, .bool false, .bool false, .bool false, .bool false, .bool false, .bool false, .bool false, .bool false, .bool false] 69)) := ext_alloc (ext_alloc (ext_alloc (Below.refl _ _) _) _) _
  have HA := Lib.hid hA; have HB := Lib.hid hB; have HX := Lib.hid hx
  clear hA hB hx
  go_enter Tryd.func39, Tryd.ntmps39
  by_cases g1 : r < 1
  · go_wp2_with (first | (refine wpList_load_blk rfl 69 (.tmp 4) rfl (w.heap.size + 1 + 1) 69 #[.bool false, .bool false, .bool false, .bool false, .bool false, .bool false, .bool false, .bool false, .bool false, .bool false, .bool false, .bool false, .bool false, .bool false, .bool false, .bool false, .bool false] HB.out (by rfl) _ Tryd.underlying69 rfl size17 ?_) | (refine wpList_store_blk rfl 69 (.tmp 2) (.tmp 26) rfl (w.heap.size + 1) 69 #[.bool false, .bool false, .bool false, .bool false, .bool false, .bool false, .bool false, .bool false, .bool false, .bool false, .bool false, .bool false, .bool false, .bool false, .bool false, .bool false, .bool false] #[.bool false, .bool false, .bool false, .bool false, .bool false, .bool false, .bool false, .bool false, .bool false, .bool false, .bool false, .bool false, .bool false, .bool false, .bool false, .bool false, .bool false] HA.out (by rfl) (by rfl) rfl size17 (one17 fun _ => false) ?_; intro w5 h5 ho5 hs5; have HO5 := Lib.hid ho5; have H5 := Lib.hid h5; clear ho5 h5 hs5))
    have hl5 := run_load_blk (P := Tryd.prog) 69 H5.out _ Tryd.underlying69 rfl size17
    exact bodyPost_ret (results_cell_tmp Tryd.results39 _ (by rfl) hl5) rfl ⟨rfl, ext_only HX.out HO5.out (by omega)⟩
  · by_cases g2 : 64 < r
    · go_wp2_with (first | (refine wpList_load_blk rfl 69 (.tmp 4) rfl (w.heap.size + 1 + 1) 69 #[.bool false, .bool false, .bool false, .bool false, .bool false, .bool false, .bool false, .bool false, .bool false, .bool false, .bool false, .bool false, .bool false, .bool false, .bool false, .bool false, .bool false] HB.out (by rfl) _ Tryd.underlying69 rfl size17 ?_) | (refine wpList_store_blk rfl 69 (.tmp 2) (.tmp 26) rfl (w.heap.size + 1) 69 #[.bool false, .bool false, .bool false, .bool false, .bool false, .bool false, .bool false, .bool false, .bool false, .bool false, .bool false, .bool false, .bool false, .bool false, .bool false, .bool false, .bool false] #[.bool false, .bool false, .bool false, .bool false, .bool false, .bool false, .bool false, .bool false, .bool false, .bool false, .bool false, .bool false, .bool false, .bool false, .bool false, .bool false, .bool false] HA.out (by rfl) (by rfl) rfl size17 (one17 fun _ => false) ?_; intro w5 h5 ho5 hs5; have HO5 := Lib.hid ho5; have H5 := Lib.hid h5; clear ho5 h5 hs5))
      have hl5 := run_load_blk (P := Tryd.prog) 69 H5.out _ Tryd.underlying69 rfl size17
      exact bodyPost_ret (results_cell_tmp Tryd.results39 _ (by rfl) hl5) rfl ⟨rfl, ext_only HX.out HO5.out (by omega)⟩
    · by_cases g3 : wd < 1
      · go_wp2_with (first | (refine wpList_load_blk rfl 69 (.tmp 4) rfl (w.heap.size + 1 + 1) 69 #[.bool false, .bool false, .bool false, .bool false, .bool false, .bool false, .bool false, .bool false, .bool false, .bool false, .bool false, .bool false, .bool false, .bool false, .bool false, .bool false, .bool false] HB.out (by rfl) _ Tryd.underlying69 rfl size17 ?_) | (refine wpList_store_blk rfl 69 (.tmp 2) (.tmp 26) rfl (w.heap.size + 1) 69 #[.bool false, .bool false, .bool false, .bool false, .bool false, .bool false, .bool false, .bool false, .bool false, .bool false, .bool false, .bool false, .bool false, .bool false, .bool false, .bool false, .bool false] #[.bool false, .bool false, .bool false, .bool false, .bool false, .bool false, .bool false, .bool false, .bool false, .bool false, .bool false, .bool false, .bool false, .bool false, .bool false, .bool false, .bool false] HA.out (by rfl) (by rfl) rfl size17 (one17 fun _ => false) ?_; intro w5 h5 ho5 hs5; have HO5 := Lib.hid ho5; have H5 := Lib.hid h5; clear ho5 h5 hs5))
        have hl5 := run_load_blk (P := Tryd.prog) 69 H5.out _ Tryd.underlying69 rfl size17
        exact bodyPost_ret (results_cell_tmp Tryd.results39 _ (by rfl) hl5) rfl ⟨rfl, ext_only HX.out HO5.out (by omega)⟩
      · have g4 : 16 < wd := by have := H0.out; omega
        go_wp2_with (first | (refine wpList_load_blk rfl 69 (.tmp 4) rfl (w.heap.size + 1 + 1) 69 #[.bool false, .bool false, .bool false, .bool false, .bool false, .bool false, .bool false, .bool false, .bool false, .bool false, .bool false, .bool false, .bool false, .bool false, .bool false, .bool false, .bool false] HB.out (by rfl) _ Tryd.underlying69 rfl size17 ?_) | (refine wpList_store_blk rfl 69 (.tmp 2) (.tmp 26) rfl (w.heap.size + 1) 69 #[.bool false, .bool false, .bool false, .bool false, .bool false, .bool false, .bool false, .bool false, .bool false, .bool false, .bool false, .bool false, .bool false, .bool false, .bool false, .bool false, .bool false] #[.bool false, .bool false, .bool false, .bool false, .bool false, .bool false, .bool false, .bool false, .bool false, .bool false, .bool false, .bool false, .bool false, .bool false, .bool false, .bool false, .bool false] HA.out (by rfl) (by rfl) rfl size17 (one17 fun _ => false) ?_; intro w5 h5 ho5 hs5; have HO5 := Lib.hid ho5; have H5 := Lib.hid h5; clear ho5 h5 hs5))
        have hl5 := run_load_blk (P := Tryd.prog) 69 H5.out _ Tryd.underlying69 rfl size17
        exact bodyPost_ret (results_cell_tmp Tryd.results39 _ (by rfl) hl5) rfl ⟨rfl, ext_only HX.out HO5.out (by omega)⟩

theorem aisles (r wd : Int) (zs : List Int) (A : Option Addr) (c : Nat) (w : World) (hI : Ints w A zs) (hlen : zs.length ≤ 20000000000000) :
    Calls Tryd.prog 39 #[.agg #[.int .i64 r, .int .i64 wd, .slice A zs.length c]] w fun e w' => (∃ f, e = .returned (.tuple #[.agg (arr17 f), .bool (okC r wd zs)]) ∧ (okC r wd zs = true → ∀ j, j < 17 → f j = lies zs zs.length j)) ∧ Below w.heap.size w w' := by
  cases hrw : okRW r wd with
  | false =>
    refine (aisles_out r wd (.slice A zs.length c) w hrw).mono fun e w' ⟨h, hb⟩ => ⟨⟨fun _ => false, ?_, ?_⟩, hb⟩
    · rw [h, okC, hrw]; rfl
    · intro h1; rw [okC, hrw] at h1; cases h1
  | true =>
    have e : okC r wd zs = okZs wd 0 zs := by rw [okC, hrw]; rfl
    rw [e]
    by_cases hz : zs = []
    · subst hz; exact aisles_nil r wd [] c w A rfl hrw hlen
    · obtain ⟨b, off, rfl, h2, h3⟩ := hI hz
      exact aisles_some r wd zs c w b off h2 h3 hrw hlen

theorem aisles_yes (r wd : Int) (zs : List Int) (A : Option Addr) (c : Nat) (w : World) (hI : Ints w A zs) (hlen : zs.length ≤ 20000000000000) (hok : okC r wd zs = true) :
    Calls Tryd.prog 39 #[.agg #[.int .i64 r, .int .i64 wd, .slice A zs.length c]] w fun e w' => ∃ f, e = .returned (.tuple #[.agg (arr17 f), .bool true]) ∧ (∀ j, j < 17 → f j = lies zs zs.length j) ∧ Below w.heap.size w w' :=
  (aisles r wd zs A c w hI hlen).mono fun e w' ⟨⟨f, h1, h2⟩, hb⟩ => ⟨f, by rw [h1, hok], h2 hok, hb⟩
theorem aisles_no (r wd : Int) (zs : List Int) (A : Option Addr) (c : Nat) (w : World) (hI : Ints w A zs) (hlen : zs.length ≤ 20000000000000) (hok : okC r wd zs = false) :
    Calls Tryd.prog 39 #[.agg #[.int .i64 r, .int .i64 wd, .slice A zs.length c]] w fun e w' => ∃ f, e = .returned (.tuple #[.agg (arr17 f), .bool false]) ∧ Below w.heap.size w w' :=
  (aisles r wd zs A c w hI hlen).mono fun e w' ⟨⟨f, h1, h2⟩, hb⟩ => ⟨f, by rw [h1, hok], hb⟩

-- cabin.Check
set_option maxRecDepth 100000 in
set_option maxHeartbeats 1000000 in
theorem Check_yes (r wd : Int) (zs : List Int) (A : Option Addr) (c : Nat) (w : World) (hI : Ints w A zs) (hlen : zs.length ≤ 20000000000000) (hok : okC r wd zs = true) :
    Calls Tryd.prog 25 #[.agg #[.int .i64 r, .int .i64 wd, .slice A zs.length c]] w fun e w' => e = .returned (.int .i64 0) ∧ Below w.heap.size w w' := by
  have HI := Lib.hid (hI.keep (ext_alloc (Below.refl _ w) (.cells #[.int .i64 r, .int .i64 wd, .slice A zs.length c] 24)))
  have HOK := Lib.hid hok
  clear hI hok
  go_enter Tryd.func25, Tryd.ntmps25
  go_wp2_with fail
  refine (aisles_yes r wd zs A c _ HI.out hlen HOK.out).mono ?_
  rintro e w1 ⟨f, rfl, _, hb⟩
  have hbw := ext_trans (ext_alloc (Below.refl _ w) _) hb
  clear hb
  go_wp2_with (refine wpList_store_blk rfl 69 (.tmp 3) (.tmp 8) rfl w1.heap.size 69 F17 (arr17 f) (Arr.new rfl) (by rfl) (by rfl) rfl size17 (one17 _) ?_; intro w5 h5 ho5 hs5; have HO5 := Lib.hid ho5; clear ho5 h5 hs5)
  go_ret
  exact ⟨rfl, ext_only (ext_alloc hbw _) HO5.out hbw.size⟩

-- cabin.Check
set_option maxRecDepth 100000 in
set_option maxHeartbeats 1000000 in
theorem Check_no (r wd : Int) (zs : List Int) (A : Option Addr) (c : Nat) (w : World) (hI : Ints w A zs) (hlen : zs.length ≤ 20000000000000) (hok : okC r wd zs = false) :
    Calls Tryd.prog 25 #[.agg #[.int .i64 r, .int .i64 wd, .slice A zs.length c]] w fun e w' => e = .returned (.int .i64 2) ∧ Below w.heap.size w w' := by
  have HI := Lib.hid (hI.keep (ext_alloc (Below.refl _ w) (.cells #[.int .i64 r, .int .i64 wd, .slice A zs.length c] 24)))
  have HOK := Lib.hid hok
  clear hI hok
  go_enter Tryd.func25, Tryd.ntmps25
  go_wp2_with fail
  refine (aisles_no r wd zs A c _ HI.out hlen HOK.out).mono ?_
  rintro e w1 ⟨f, rfl, hb⟩
  have hbw := ext_trans (ext_alloc (Below.refl _ w) _) hb
  clear hb
  go_wp2_with (refine wpList_store_blk rfl 69 (.tmp 3) (.tmp 8) rfl w1.heap.size 69 F17 (arr17 f) (Arr.new rfl) (by rfl) (by rfl) rfl size17 (one17 _) ?_; intro w5 h5 ho5 hs5; have HO5 := Lib.hid ho5; clear ho5 h5 hs5)
  go_ret
  exact ⟨rfl, ext_only (ext_alloc hbw _) HO5.out hbw.size⟩

-- cabin.Seats
set_option maxRecDepth 100000 in
set_option maxHeartbeats 1000000 in
theorem Seats_yes (r wd : Int) (zs : List Int) (A : Option Addr) (c : Nat) (w : World) (hI : Ints w A zs) (hlen : zs.length ≤ 20000000000000) (hok : okC r wd zs = true) :
    Calls Tryd.prog 15 #[.agg #[.int .i64 r, .int .i64 wd, .slice A zs.length c]] w fun e w' => e = .returned (.tuple #[.int .i64 (r * wd), .int .i64 0]) ∧ Below w.heap.size w w' := by
  have HI := Lib.hid (hI.keep (ext_alloc (Below.refl _ w) (.cells #[.int .i64 r, .int .i64 wd, .slice A zs.length c] 24)))
  have HOK := Lib.hid hok
  obtain ⟨⟨o1, o2, o3, o4⟩, _⟩ := okC_yes hok
  clear hI hok
  have q1 : 0 ≤ r * wd := Int.mul_nonneg (by omega) (by omega)
  have q2 : r * wd ≤ 64 * 16 := Int.mul_le_mul (by omega) (by omega) (by omega) (by omega)
  go_enter Tryd.func15, Tryd.ntmps15
  go_wp2_with fail
  refine (Check_yes r wd zs A c _ HI.out hlen HOK.out).mono ?_
  rintro e w1 ⟨rfl, hb⟩
  have hbw := ext_trans (ext_alloc (Below.refl _ w) _) hb
  obtain ⟨hc, hf⟩ := bcell hb
  go_wp2_with fail
  go_ret2
  exact ⟨rfl, hbw⟩
set_option maxRecDepth 100000 in
set_option maxHeartbeats 1000000 in
theorem Seats_no (r wd : Int) (zs : List Int) (A : Option Addr) (c : Nat) (w : World) (hI : Ints w A zs) (hlen : zs.length ≤ 20000000000000) (hok : okC r wd zs = false) :
    Calls Tryd.prog 15 #[.agg #[.int .i64 r, .int .i64 wd, .slice A zs.length c]] w fun e w' => e = .returned (.tuple #[.int .i64 0, .int .i64 2]) ∧ Below w.heap.size w w' := by
  have HI := Lib.hid (hI.keep (ext_alloc (Below.refl _ w) (.cells #[.int .i64 r, .int .i64 wd, .slice A zs.length c] 24)))
  have HOK := Lib.hid hok
  clear hI hok
  go_enter Tryd.func15, Tryd.ntmps15
  go_wp2_with fail
  refine (Check_no r wd zs A c _ HI.out hlen HOK.out).mono ?_
  rintro e w1 ⟨rfl, hb⟩
  have hbw := ext_trans (ext_alloc (Below.refl _ w) _) hb
  go_wp2_with fail
  go_ret2
  exact ⟨rfl, hbw⟩

-- cabin.Place
set_option maxRecDepth 100000 in
set_option maxHeartbeats 1000000 in
theorem Place_yes (r wd : Int) (zs : List Int) (A : Option Addr) (c : Nat) (s : Int) (w : World) (hI : Ints w A zs) (hlen : zs.length ≤ 20000000000000) (hok : okC r wd zs = true) (hs0 : 0 ≤ s) (hs1 : s < r * wd) :
    Calls Tryd.prog 17 #[.agg #[.int .i64 r, .int .i64 wd, .slice A zs.length c], .int .i64 s] w fun e w' => e = .returned (.tuple #[.int .i64 (s / wd), .int .i64 (s % wd), .int .i64 0]) ∧ Below w.heap.size w w' := by
  have HI := Lib.hid (hI.keep (ext_alloc (Below.refl _ w) (.cells #[.int .i64 r, .int .i64 wd, .slice A zs.length c] 24)))
  have HOK := Lib.hid hok
  obtain ⟨⟨o1, o2, o3, o4⟩, _⟩ := okC_yes hok
  clear hI hok
  have q2 : r * wd ≤ 64 * 16 := Int.mul_le_mul (by omega) (by omega) (by omega) (by omega)
  have q3 : 0 ≤ s / wd := Int.ediv_nonneg (by omega) (by omega)
  have q4 : s / wd ≤ s := Int.ediv_le_self _ (by omega)
  have q5 := Int.emod_nonneg s (show wd ≠ 0 by omega)
  have q6 := Int.emod_lt_of_pos s (show 0 < wd by omega)
  go_enter Tryd.func17, Tryd.ntmps17
  go_wp2_with fail
  refine (Seats_yes r wd zs A c _ HI.out hlen HOK.out).mono ?_
  rintro e w1 ⟨rfl, hb⟩
  have hbw := ext_trans (ext_alloc (Below.refl _ w) _) hb
  have hc1 : w1.cell? ⟨w.heap.size, 1, none⟩ = some (.int .i64 wd) := by
    rw [hb.cell (p := ⟨w.heap.size, 1, none⟩) (by simp)]; simp
  clear hb
  go_wp2_with fail
  go_quiet (fail)
  go_wp2_with fail
  go_ret3
  exact ⟨rfl, ext_drewN hbw _⟩
set_option maxRecDepth 100000 in
set_option maxHeartbeats 1000000 in
theorem Place_seat (r wd : Int) (zs : List Int) (A : Option Addr) (c : Nat) (s : Int) (w : World) (hI : Ints w A zs) (hlen : zs.length ≤ 20000000000000) (hok : okC r wd zs = true) (hs : s < 0 ∨ r * wd ≤ s) :
    Calls Tryd.prog 17 #[.agg #[.int .i64 r, .int .i64 wd, .slice A zs.length c], .int .i64 s] w fun e w' => e = .returned (.tuple #[.int .i64 0, .int .i64 0, .int .i64 140]) ∧ Below w.heap.size w w' := by
  have HI := Lib.hid (hI.keep (ext_alloc (Below.refl _ w) (.cells #[.int .i64 r, .int .i64 wd, .slice A zs.length c] 24)))
  have HOK := Lib.hid hok
  obtain ⟨⟨o1, o2, o3, o4⟩, _⟩ := okC_yes hok
  clear hI hok
  have q2 : r * wd ≤ 64 * 16 := Int.mul_le_mul (by omega) (by omega) (by omega) (by omega)
  have HS := Lib.hid hs
  clear hs
  go_enter Tryd.func17, Tryd.ntmps17
  go_wp2_with fail
  refine (Seats_yes r wd zs A c _ HI.out hlen HOK.out).mono ?_
  rintro e w1 ⟨rfl, hb⟩
  have hbw := ext_trans (ext_alloc (Below.refl _ w) _) hb
  by_cases g1 : s < 0
  · go_wp2_with fail
    go_ret3
    exact ⟨rfl, hbw⟩
  · have g2 : r * wd ≤ s := by have := HS.out; omega
    go_wp2_with fail
    go_ret3
    exact ⟨rfl, hbw⟩
set_option maxRecDepth 100000 in
set_option maxHeartbeats 1000000 in
theorem Place_no (r wd : Int) (zs : List Int) (A : Option Addr) (c : Nat) (s : Int) (w : World) (hI : Ints w A zs) (hlen : zs.length ≤ 20000000000000) (hok : okC r wd zs = false) :
    Calls Tryd.prog 17 #[.agg #[.int .i64 r, .int .i64 wd, .slice A zs.length c], .int .i64 s] w fun e w' => e = .returned (.tuple #[.int .i64 0, .int .i64 0, .int .i64 2]) ∧ Below w.heap.size w w' := by
  have HI := Lib.hid (hI.keep (ext_alloc (Below.refl _ w) (.cells #[.int .i64 r, .int .i64 wd, .slice A zs.length c] 24)))
  have HOK := Lib.hid hok
  clear hI hok
  go_enter Tryd.func17, Tryd.ntmps17
  go_wp2_with fail
  refine (Seats_no r wd zs A c _ HI.out hlen HOK.out).mono ?_
  rintro e w1 ⟨rfl, hb⟩
  have hbw := ext_trans (ext_alloc (Below.refl _ w) _) hb
  go_wp2_with fail
  go_ret3
  exact ⟨rfl, hbw⟩

end Go.Proofs.YtablpncipkbfhaaDoor.Cab
