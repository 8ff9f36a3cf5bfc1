/- Packed: Cab Cab2 GeoChk Cod -/
import Derived.Test.YtpoijhjjbmaedaaGreatDoorProg
import Derived.Test.YtpoijhjjbmaedaaGreatDoorPlainA
import Derived.Test.YtpoijhjjbmaedaaGreatDoorKitA
set_option linter.unusedVariables false
set_option linter.unusedSimpArgs false
/- Cab: The contracts of the cabin's functions, first part: aisles, Check, Seats, Place. -/
section
namespace Go.Proofs.YtpoijhjjbmaedaaGreatDoor.Cab
open Go.RowKit

/-- a slice of ints reads as the list -/
def Ints (w : World) (A : Option Addr) (zs : List Int) : Prop := zs ≠ [] → ∃ b off, A = some ⟨b, off, none⟩ ∧ b < w.heap.size ∧ ∀ j, j < zs.length → w.cell? ⟨b, off + j, none⟩ = some (.int .i64 (zs.getD j 0))
theorem Ints.keep {w w' : World} {A : Option Addr} {zs : List Int} (h : Ints w A zs) (hb : Below w.heap.size w w') : Ints w' A zs := fun hn => by
  obtain ⟨b, off, h1, h2, h3⟩ := h hn
  exact ⟨b, off, h1, Nat.lt_of_lt_of_le h2 hb.size, fun j hj => (hb.cell (p := ⟨b, off + j, none⟩) h2).trans (h3 j hj)⟩

theorem getD_at {zs : List Int} {k : Nat} (_h : k < zs.length) : True := trivial
def F17 : Array Value := #[.bool false, .bool false, .bool false, .bool false, .bool false, .bool false, .bool false, .bool false, .bool false, .bool false, .bool false, .bool false, .bool false, .bool false, .bool false, .bool false, .bool false]
theorem size17 : (Tryz.prog.info? 195).map (·.size) = some 17 := by kernel_rfl
theorem one17 (f : Nat → Bool) : (arr17 f).all (·.oneCell') = true := by simp [arr17, Value.oneCell']
theorem F17_eq (zs : List Int) : F17 = arr17 (lies zs 0) := by simp [F17, arr17, lies]

-- cabin.aisles
set_option maxRecDepth 100000 in
set_option maxHeartbeats 1000000 in
theorem aisles_some (r wd : Int) (zs : List Int) (c : Nat) (w : World) (b off : Nat) (hblk : b < w.heap.size) (hcell : ∀ j, j < zs.length → w.cell? ⟨b, off + j, none⟩ = some (.int .i64 (zs.getD j 0))) (hrw : okRW r wd = true) (hlen : zs.length ≤ 20000000000000) :
    Calls Tryz.prog 122 #[.agg #[.int .i64 r, .int .i64 wd, .slice (some ⟨b, off, none⟩) zs.length c]] w fun e w' => (∃ f, e = .returned (.tuple #[.agg (arr17 f), .bool (okZs wd 0 zs)]) ∧ (okZs wd 0 zs = true → ∀ j, j < 17 → f j = lies zs zs.length j)) ∧ Below w.heap.size w w' := by
  obtain ⟨h1, h2, h3, h4⟩ := okRW_yes hrw
  clear hrw
  have HC := Lib.hid hcell; clear hcell
  go_enter Tryz.func122, Tryz.ntmps122
  go_wp2_with fail
  go_loopw [5, 30] (fun la i wr => ∃ k : Nat, k ≤ zs.length ∧ i = .int .i64 k ∧ la = .int .i64 (lastOf zs k) ∧ okTo wd zs k ∧ Arr wr w.heap.size 24 #[.int .i64 r, .int .i64 wd, .slice (some ⟨b, off, none⟩) zs.length c] ∧ Arr wr (w.heap.size + 1) 195 F17 ∧ Arr wr (w.heap.size + 2) 195 (arr17 (lies zs k)) ∧ Below w.heap.size w wr) (fun _ i _ => (zs.length - intOf i).toNat)
  case atStart =>
    refine ⟨0, by omega, rfl, rfl, fun j hj => absurd hj (by omega), ?_, ?_, ?_, ?_⟩
    · exact ((Arr.fresh w _ _).alloc _).alloc _
    · exact (Arr.new (by simp)).alloc _
    · rw [← F17_eq]; exact Arr.new (by simp)
    · repeat (first | with_reducible exact Below.refl _ _ | with_reducible refine ext_alloc ?_ _ | with_reducible refine ext_drew ?_ | with_reducible refine ext_drewN ?_ _ | (refine ext_setCell ?_ (by simp at *; omega) _) | with_reducible refine ext_trans ?_ (by assumption))
  case round =>
    obtain ⟨k, hk, rfl, rfl, hto, hA, hB, hD, hb⟩ := hrel
    have hz := hb.size
    have x0 : wr.cell? ⟨w.heap.size, 0, none⟩ = some (.int .i64 r) := hA.cell 0
    have x1 : wr.cell? ⟨w.heap.size, 1, none⟩ = some (.int .i64 wd) := hA.cell 1
    by_cases h : k < zs.length
    · have hv := (hb.cell (p := ⟨b, off + k, none⟩) hblk).trans (HC.out k h)
      have hl := okTo_last hto
      have hk17 := okTo_len hto h4
      have h0 : (0 : Int) ≤ (k : Int) := by omega
      have h9 : (k : Int) < (zs.length : Int) := by omega
      generalize hL : lastOf zs k = L at *
      generalize hX : zs.getD k 0 = X at *
      have HL := Lib.hid hL; have HX := Lib.hid hX; have HTO := Lib.hid hto
      clear hL hX hto
      by_cases g1 : L < X
      · by_cases g2 : X < wd
        · have hcl : wr.cell? ⟨w.heap.size + 2, X.toNat, none⟩ = some (.bool (lies zs k X.toNat)) := (hD.cell X.toNat).trans (arr17_at _ (by omega))
          have hml := hD.mark X.toNat
          have g3 : (0 : Int) ≤ X := by omega
          have g4 : X < 17 := by omega
          have HA := Lib.hid hA; have HB := Lib.hid hB; have HD := Lib.hid hD
          clear hA hB hD
          go_wp2_with fail
          go_roundw
          case rel =>
            have hX2 : zs.getD k 0 = (X.toNat : Int) := by rw [HX.out]; omega
            refine ⟨k + 1, by omega, by go_num, by simp only [lastOf]; rw [HX.out], okTo_next HTO.out (by rw [HL.out, HX.out]; exact g1) (by rw [HX.out]; exact g2), HA.out.other (by simp; omega) _, HB.out.other (by simp) _, ?_, ext_setCell hb (by simp; omega) _⟩
            have h5 := HD.out.put X.toNat (.bool true)
            rw [arr17_set _ (by omega)] at h5
            rw [show arr17 (lies zs (k + 1)) = arr17 (fun j => if j = X.toNat then true else lies zs k j) from arr17_congr (fun j _ => lies_next h hX2 j)]
            exact h5
          case measure => simp [intOf]; omega
        · have hbad := okTo_not h (show ¬ (lastOf zs k < zs.getD k 0 ∧ zs.getD k 0 < wd) from by rw [HL.out, HX.out]; omega)
          have HBAD := Lib.hid hbad
          clear hbad
          have HA := Lib.hid hA; have HB := Lib.hid hB; have HD := Lib.hid hD
          clear hA hB hD
          go_wp2_with (first | (refine wpList_load_blk rfl 195 (.tmp 4) rfl (w.heap.size + 2) 195 (arr17 (lies zs k)) HD.out (by rfl) _ Tryz.underlying195 rfl size17 ?_) | (refine wpList_store_blk rfl 195 (.tmp 2) (.tmp 43) rfl (w.heap.size + 1) 195 F17 (arr17 (lies zs k)) HB.out (by rfl) (by rfl) rfl size17 (one17 _) ?_; intro w5 h5 ho5 hs5; have HO5 := Lib.hid ho5; have H5 := Lib.hid h5; clear ho5 h5 hs5))
          have hl5 := run_load_blk (P := Tryz.prog) 195 H5.out _ Tryz.underlying195 rfl size17
          refine bodyPost_ret (results_cell_tmp Tryz.results122 _ (by rfl) hl5) rfl ⟨⟨lies zs k, by rw [HBAD.out]; rfl, fun hh => by rw [HBAD.out] at hh; cases hh⟩, ext_only hb HO5.out (by omega)⟩
      · have hbad := okTo_not h (show ¬ (lastOf zs k < zs.getD k 0 ∧ zs.getD k 0 < wd) from by rw [HL.out, HX.out]; omega)
        have HBAD := Lib.hid hbad
        clear hbad
        have HA := Lib.hid hA; have HB := Lib.hid hB; have HD := Lib.hid hD
        clear hA hB hD
        go_wp2_with (first | (refine wpList_load_blk rfl 195 (.tmp 4) rfl (w.heap.size + 2) 195 (arr17 (lies zs k)) HD.out (by rfl) _ Tryz.underlying195 rfl size17 ?_) | (refine wpList_store_blk rfl 195 (.tmp 2) (.tmp 43) rfl (w.heap.size + 1) 195 F17 (arr17 (lies zs k)) HB.out (by rfl) (by rfl) rfl size17 (one17 _) ?_; intro w5 h5 ho5 hs5; have HO5 := Lib.hid ho5; have H5 := Lib.hid h5; clear ho5 h5 hs5))
        have hl5 := run_load_blk (P := Tryz.prog) 195 H5.out _ Tryz.underlying195 rfl size17
        refine bodyPost_ret (results_cell_tmp Tryz.results122 _ (by rfl) hl5) rfl ⟨⟨lies zs k, by rw [HBAD.out]; rfl, fun hh => by rw [HBAD.out] at hh; cases hh⟩, ext_only hb HO5.out (by omega)⟩
    · obtain rfl : k = zs.length := by omega
      have hok : okZs wd 0 zs = true := okZs_to.2 hto
      have HOK := Lib.hid hok
      clear hok hto HC
      have HA := Lib.hid hA; have HB := Lib.hid hB; have HD := Lib.hid hD
      clear hA hB hD
      go_wp2_with (first | (refine wpList_load_blk rfl 195 (.tmp 4) rfl (w.heap.size + 2) 195 (arr17 (lies zs zs.length)) HD.out (by rfl) _ Tryz.underlying195 rfl size17 ?_) | (refine wpList_store_blk rfl 195 (.tmp 2) (.tmp 48) rfl (w.heap.size + 1) 195 F17 (arr17 (lies zs zs.length)) HB.out (by rfl) (by rfl) rfl size17 (one17 _) ?_; intro w5 h5 ho5 hs5; have HO5 := Lib.hid ho5; have H5 := Lib.hid h5; clear ho5 h5 hs5))
      have hl5 := run_load_blk (P := Tryz.prog) 195 H5.out _ Tryz.underlying195 rfl size17
      refine bodyPost_ret (results_cell_tmp Tryz.results122 _ (by rfl) hl5) rfl ⟨⟨lies zs zs.length, by rw [HOK.out]; rfl, fun _ _ _ => rfl⟩, ext_only hb HO5.out (by omega)⟩

-- cabin.aisles
set_option maxRecDepth 100000 in
set_option maxHeartbeats 1000000 in
theorem aisles_nil (r wd : Int) (zs : List Int) (c : Nat) (w : World) (A : Option Addr) (hnil : zs = []) (hrw : okRW r wd = true) (hlen : zs.length ≤ 20000000000000) :
    Calls Tryz.prog 122 #[.agg #[.int .i64 r, .int .i64 wd, .slice A zs.length c]] w fun e w' => (∃ f, e = .returned (.tuple #[.agg (arr17 f), .bool (okZs wd 0 zs)]) ∧ (okZs wd 0 zs = true → ∀ j, j < 17 → f j = lies zs zs.length j)) ∧ Below w.heap.size w w' := by
  obtain ⟨h1, h2, h3, h4⟩ := okRW_yes hrw
  clear hrw
  subst hnil
  go_enter Tryz.func122, Tryz.ntmps122
  go_wp2_with fail
  go_loopw [5, 30] (fun la i wr => ∃ k : Nat, k ≤ 0 ∧ i = .int .i64 k ∧ la = .int .i64 (lastOf ([] : List Int) k) ∧ okTo wd ([] : List Int) k ∧ Arr wr w.heap.size 24 #[.int .i64 r, .int .i64 wd, .slice A 0 c] ∧ Arr wr (w.heap.size + 1) 195 F17 ∧ Arr wr (w.heap.size + 2) 195 (arr17 (lies ([] : List Int) k)) ∧ Below w.heap.size w wr) (fun _ i _ => (0 - intOf i).toNat)
  case atStart =>
    refine ⟨0, by omega, rfl, rfl, fun j hj => absurd hj (by omega), ?_, ?_, ?_, ?_⟩
    · exact ((Arr.fresh w _ _).alloc _).alloc _
    · exact (Arr.new (by simp)).alloc _
    · rw [← F17_eq]; exact Arr.new (by simp)
    · repeat (first | with_reducible exact Below.refl _ _ | with_reducible refine ext_alloc ?_ _ | with_reducible refine ext_drew ?_ | with_reducible refine ext_drewN ?_ _ | (refine ext_setCell ?_ (by simp at *; omega) _) | with_reducible refine ext_trans ?_ (by assumption))
  case round =>
    obtain ⟨k, hk, rfl, rfl, hto, hA, hB, hD, hb⟩ := hrel
    have hz := hb.size
    have x0 : wr.cell? ⟨w.heap.size, 0, none⟩ = some (.int .i64 r) := hA.cell 0
    have x1 : wr.cell? ⟨w.heap.size, 1, none⟩ = some (.int .i64 wd) := hA.cell 1
    · obtain rfl : k = 0 := by omega
      have hok : okZs wd 0 ([] : List Int) = true := okZs_to.2 hto
      have HOK := Lib.hid hok
      clear hok hto
      have HA := Lib.hid hA; have HB := Lib.hid hB; have HD := Lib.hid hD
      clear hA hB hD
      go_wp2_with (first | (refine wpList_load_blk rfl 195 (.tmp 4) rfl (w.heap.size + 2) 195 (arr17 (lies ([] : List Int) 0)) HD.out (by rfl) _ Tryz.underlying195 rfl size17 ?_) | (refine wpList_store_blk rfl 195 (.tmp 2) (.tmp 48) rfl (w.heap.size + 1) 195 F17 (arr17 (lies ([] : List Int) 0)) HB.out (by rfl) (by rfl) rfl size17 (one17 _) ?_; intro w5 h5 ho5 hs5; have HO5 := Lib.hid ho5; have H5 := Lib.hid h5; clear ho5 h5 hs5))
      have hl5 := run_load_blk (P := Tryz.prog) 195 H5.out _ Tryz.underlying195 rfl size17
      refine bodyPost_ret (results_cell_tmp Tryz.results122 _ (by rfl) hl5) rfl ⟨⟨lies ([] : List Int) 0, by rw [HOK.out]; rfl, fun _ _ _ => rfl⟩, ext_only hb HO5.out (by omega)⟩

end Go.Proofs.YtpoijhjjbmaedaaGreatDoor.Cab
end

/- Cab2: The contracts of the cabin's functions, second part: aisles at every slice, Check, Seats, Place. -/
section
namespace Go.Proofs.YtpoijhjjbmaedaaGreatDoor.Cab
open Go.RowKit

-- cabin.aisles, rows or width out of bounds
set_option maxRecDepth 100000 in
set_option maxHeartbeats 1000000 in
theorem aisles_out (r wd : Int) (S : Value) (w : World) (hrw : okRW r wd = false) :
    Calls Tryz.prog 122 #[.agg #[.int .i64 r, .int .i64 wd, S]] w fun e w' => e = .returned (.tuple #[.agg #[.bool false, .bool false, .bool false, .bool false, .bool false, .bool false, .bool false, .bool false, .bool false, .bool false, .bool false, .bool false, .bool false, .bool false, .bool false, .bool false, .bool false], .bool false]) ∧ Below w.heap.size w w' := by
  have h0 := okRW_no hrw
  have H0 := Lib.hid h0
  clear h0 hrw
  have hA : Arr (((w.alloc (.cells #[.int .i64 r, .int .i64 wd, S] 24)).alloc (.cells #[.bool false, .bool false, .bool false, .bool false, .bool false, .bool false, .bool false, .bool false, .bool false, .bool false, .bool false, .bool false, .bool false, .bool false, .bool false, .bool false, .bool false] 195)).alloc (.cells #[.bool false, .bool false, .bool false, .bool false, .bool false, .bool false, .bool false, .bool false, .bool false, .bool false, .bool false, .bool false, .bool false, .bool false, .bool false, .bool false, .bool false] 195)) (w.heap.size + 1) 195 #[.bool false, .bool false, .bool false, .bool false, .bool false, .bool false, .bool false, .bool false, .bool false, .bool false, .bool false, .bool false, .bool false, .bool false, .bool false, .bool false, .bool false] := (Arr.new (by simp)).alloc _
  have hB : Arr (((w.alloc (.cells #[.int .i64 r, .int .i64 wd, S] 24)).alloc (.cells #[.bool false, .bool false, .bool false, .bool false, .bool false, .bool false, .bool false, .bool false, .bool false, .bool false, .bool false, .bool false, .bool false, .bool false, .bool false, .bool false, .bool false] 195)).alloc (.cells #[.bool false, .bool false, .bool false, .bool false, .bool false, .bool false, .bool false, .bool false, .bool false, .bool false, .bool false, .bool false, .bool false, .bool false, .bool false, .bool false, .bool false] 195)) (w.heap.size + 1 + 1) 195 #[.bool false, .bool false, .bool false, .bool false, .bool false, .bool false, .bool false, .bool false, .bool false, .bool false, .bool false, .bool false, .bool false, .bool false, .bool false, .bool false, .bool false] := Arr.new (by simp)
  have hx : Below w.heap.size w (((w.alloc (.cells #[.int .i64 r, .int .i64 wd, S] 24)).alloc (.cells #[.bool false, .bool false, .bool false, .bool false, .bool false, .bool false, .bool false, .bool false, .bool false, .bool false, .bool false, .bool false, .bool false, .bool false, .bool false, .bool false, .bool false] 195)).alloc (.cells #[.bool false, .bool false, .bool false, .bool false, .bool false, .bool false, .bool false, .bool false, .bool false, .bool false, .bool false, .bool false, .bool false, .bool false, .bool false, .bool false, .bool false] 195)) := ext_alloc (ext_alloc (ext_alloc (Below.refl _ _) _) _) _
  have HA := Lib.hid hA; have HB := Lib.hid hB; have HX := Lib.hid hx
  clear hA hB hx
  go_enter Tryz.func122, Tryz.ntmps122
  by_cases g1 : r < 1
  · go_wp2_with (first | (refine wpList_load_blk rfl 195 (.tmp 4) rfl (w.heap.size + 1 + 1) 195 #[.bool false, .bool false, .bool false, .bool false, .bool false, .bool false, .bool false, .bool false, .bool false, .bool false, .bool false, .bool false, .bool false, .bool false, .bool false, .bool false, .bool false] HB.out (by rfl) _ Tryz.underlying195 rfl size17 ?_) | (refine wpList_store_blk rfl 195 (.tmp 2) (.tmp 26) rfl (w.heap.size + 1) 195 #[.bool false, .bool false, .bool false, .bool false, .bool false, .bool false, .bool false, .bool false, .bool false, .bool false, .bool false, .bool false, .bool false, .bool false, .bool false, .bool false, .bool false] #[.bool false, .bool false, .bool false, .bool false, .bool false, .bool false, .bool false, .bool false, .bool false, .bool false, .bool false, .bool false, .bool false, .bool false, .bool false, .bool false, .bool false] HA.out (by rfl) (by rfl) rfl size17 (one17 fun _ => false) ?_; intro w5 h5 ho5 hs5; have HO5 := Lib.hid ho5; have H5 := Lib.hid h5; clear ho5 h5 hs5))
    have hl5 := run_load_blk (P := Tryz.prog) 195 H5.out _ Tryz.underlying195 rfl size17
    exact bodyPost_ret (results_cell_tmp Tryz.results122 _ (by rfl) hl5) rfl ⟨rfl, ext_only HX.out HO5.out (by omega)⟩
  · by_cases g2 : 64 < r
    · go_wp2_with (first | (refine wpList_load_blk rfl 195 (.tmp 4) rfl (w.heap.size + 1 + 1) 195 #[.bool false, .bool false, .bool false, .bool false, .bool false, .bool false, .bool false, .bool false, .bool false, .bool false, .bool false, .bool false, .bool false, .bool false, .bool false, .bool false, .bool false] HB.out (by rfl) _ Tryz.underlying195 rfl size17 ?_) | (refine wpList_store_blk rfl 195 (.tmp 2) (.tmp 26) rfl (w.heap.size + 1) 195 #[.bool false, .bool false, .bool false, .bool false, .bool false, .bool false, .bool false, .bool false, .bool false, .bool false, .bool false, .bool false, .bool false, .bool false, .bool false, .bool false, .bool false] #[.bool false, .bool false, .bool false, .bool false, .bool false, .bool false, .bool false, .bool false, .bool false, .bool false, .bool false, .bool false, .bool false, .bool false, .bool false, .bool false, .bool false] HA.out (by rfl) (by rfl) rfl size17 (one17 fun _ => false) ?_; intro w5 h5 ho5 hs5; have HO5 := Lib.hid ho5; have H5 := Lib.hid h5; clear ho5 h5 hs5))
      have hl5 := run_load_blk (P := Tryz.prog) 195 H5.out _ Tryz.underlying195 rfl size17
      exact bodyPost_ret (results_cell_tmp Tryz.results122 _ (by rfl) hl5) rfl ⟨rfl, ext_only HX.out HO5.out (by omega)⟩
    · by_cases g3 : wd < 1
      · go_wp2_with (first | (refine wpList_load_blk rfl 195 (.tmp 4) rfl (w.heap.size + 1 + 1) 195 #[.bool false, .bool false, .bool false, .bool false, .bool false, .bool false, .bool false, .bool false, .bool false, .bool false, .bool false, .bool false, .bool false, .bool false, .bool false, .bool false, .bool false] HB.out (by rfl) _ Tryz.underlying195 rfl size17 ?_) | (refine wpList_store_blk rfl 195 (.tmp 2) (.tmp 26) rfl (w.heap.size + 1) 195 #[.bool false, .bool false, .bool false, .bool false, .bool false, .bool false, .bool false, .bool false, .bool false, .bool false, .bool false, .bool false, .bool false, .bool false, .bool false, .bool false, .bool false] #[.bool false, .bool false, .bool false, .bool false, .bool false, .bool false, .bool false, .bool false, .bool false, .bool false, .bool false, .bool false, .bool false, .bool false, .bool false, .bool false, .bool false] HA.out (by rfl) (by rfl) rfl size17 (one17 fun _ => false) ?_; intro w5 h5 ho5 hs5; have HO5 := Lib.hid ho5; have H5 := Lib.hid h5; clear ho5 h5 hs5))
        have hl5 := run_load_blk (P := Tryz.prog) 195 H5.out _ Tryz.underlying195 rfl size17
        exact bodyPost_ret (results_cell_tmp Tryz.results122 _ (by rfl) hl5) rfl ⟨rfl, ext_only HX.out HO5.out (by omega)⟩
      · have g4 : 16 < wd := by have := H0.out; omega
        go_wp2_with (first | (refine wpList_load_blk rfl 195 (.tmp 4) rfl (w.heap.size + 1 + 1) 195 #[.bool false, .bool false, .bool false, .bool false, .bool false, .bool false, .bool false, .bool false, .bool false, .bool false, .bool false, .bool false, .bool false, .bool false, .bool false, .bool false, .bool false] HB.out (by rfl) _ Tryz.underlying195 rfl size17 ?_) | (refine wpList_store_blk rfl 195 (.tmp 2) (.tmp 26) rfl (w.heap.size + 1) 195 #[.bool false, .bool false, .bool false, .bool false, .bool false, .bool false, .bool false, .bool false, .bool false, .bool false, .bool false, .bool false, .bool false, .bool false, .bool false, .bool false, .bool false] #[.bool false, .bool false, .bool false, .bool false, .bool false, .bool false, .bool false, .bool false, .bool false, .bool false, .bool false, .bool false, .bool false, .bool false, .bool false, .bool false, .bool false] HA.out (by rfl) (by rfl) rfl size17 (one17 fun _ => false) ?_; intro w5 h5 ho5 hs5; have HO5 := Lib.hid ho5; have H5 := Lib.hid h5; clear ho5 h5 hs5))
        have hl5 := run_load_blk (P := Tryz.prog) 195 H5.out _ Tryz.underlying195 rfl size17
        exact bodyPost_ret (results_cell_tmp Tryz.results122 _ (by rfl) hl5) rfl ⟨rfl, ext_only HX.out HO5.out (by omega)⟩

theorem aisles (r wd : Int) (zs : List Int) (A : Option Addr) (c : Nat) (w : World) (hI : Ints w A zs) (hlen : zs.length ≤ 20000000000000) :
    Calls Tryz.prog 122 #[.agg #[.int .i64 r, .int .i64 wd, .slice A zs.length c]] w fun e w' => (∃ f, e = .returned (.tuple #[.agg (arr17 f), .bool (okC r wd zs)]) ∧ (okC r wd zs = true → ∀ j, j < 17 → f j = lies zs zs.length j)) ∧ Below w.heap.size w w' := by
  cases hrw : okRW r wd with
  | false =>
    refine (aisles_out r wd (.slice A zs.length c) w hrw).mono fun e w' ⟨h, hb⟩ => ⟨⟨fun _ => false, ?_, ?_⟩, hb⟩
    · rw [h, okC, hrw]; rfl
    · intro h1; rw [okC, hrw] at h1; cases h1
  | true =>
    have e : okC r wd zs = okZs wd 0 zs := by rw [okC, hrw]; rfl
    rw [e]
    by_cases hz : zs = []
    · subst hz; exact aisles_nil r wd [] c w A rfl hrw hlen
    · obtain ⟨b, off, rfl, h2, h3⟩ := hI hz
      exact aisles_some r wd zs c w b off h2 h3 hrw hlen

theorem aisles_yes (r wd : Int) (zs : List Int) (A : Option Addr) (c : Nat) (w : World) (hI : Ints w A zs) (hlen : zs.length ≤ 20000000000000) (hok : okC r wd zs = true) :
    Calls Tryz.prog 122 #[.agg #[.int .i64 r, .int .i64 wd, .slice A zs.length c]] w fun e w' => ∃ f, e = .returned (.tuple #[.agg (arr17 f), .bool true]) ∧ (∀ j, j < 17 → f j = lies zs zs.length j) ∧ Below w.heap.size w w' :=
  (aisles r wd zs A c w hI hlen).mono fun e w' ⟨⟨f, h1, h2⟩, hb⟩ => ⟨f, by rw [h1, hok], h2 hok, hb⟩
theorem aisles_no (r wd : Int) (zs : List Int) (A : Option Addr) (c : Nat) (w : World) (hI : Ints w A zs) (hlen : zs.length ≤ 20000000000000) (hok : okC r wd zs = false) :
    Calls Tryz.prog 122 #[.agg #[.int .i64 r, .int .i64 wd, .slice A zs.length c]] w fun e w' => ∃ f, e = .returned (.tuple #[.agg (arr17 f), .bool false]) ∧ Below w.heap.size w w' :=
  (aisles r wd zs A c w hI hlen).mono fun e w' ⟨⟨f, h1, h2⟩, hb⟩ => ⟨f, by rw [h1, hok], hb⟩

-- cabin.Check
set_option maxRecDepth 100000 in
set_option maxHeartbeats 1000000 in
theorem Check_yes (r wd : Int) (zs : List Int) (A : Option Addr) (c : Nat) (w : World) (hI : Ints w A zs) (hlen : zs.length ≤ 20000000000000) (hok : okC r wd zs = true) :
    Calls Tryz.prog 65 #[.agg #[.int .i64 r, .int .i64 wd, .slice A zs.length c]] w fun e w' => e = .returned (.int .i64 0) ∧ Below w.heap.size w w' := by
  have HI := Lib.hid (hI.keep (ext_alloc (Below.refl _ w) (.cells #[.int .i64 r, .int .i64 wd, .slice A zs.length c] 24)))
  have HOK := Lib.hid hok
  clear hI hok
  go_enter Tryz.func65, Tryz.ntmps65
  go_wp2_with fail
  refine (aisles_yes r wd zs A c _ HI.out hlen HOK.out).mono ?_
  rintro e w1 ⟨f, rfl, _, hb⟩
  have hbw := ext_trans (ext_alloc (Below.refl _ w) _) hb
  clear hb
  go_wp2_with (refine wpList_store_blk rfl 195 (.tmp 3) (.tmp 8) rfl w1.heap.size 195 F17 (arr17 f) (Arr.new rfl) (by rfl) (by rfl) rfl size17 (one17 _) ?_; intro w5 h5 ho5 hs5; have HO5 := Lib.hid ho5; clear ho5 h5 hs5)
  go_ret
  exact ⟨rfl, ext_only (ext_alloc hbw _) HO5.out hbw.size⟩

-- cabin.Check
set_option maxRecDepth 100000 in
set_option maxHeartbeats 1000000 in
theorem Check_no (r wd : Int) (zs : List Int) (A : Option Addr) (c : Nat) (w : World) (hI : Ints w A zs) (hlen : zs.length ≤ 20000000000000) (hok : okC r wd zs = false) :
    Calls Tryz.prog 65 #[.agg #[.int .i64 r, .int .i64 wd, .slice A zs.length c]] w fun e w' => e = .returned (.int .i64 2) ∧ Below w.heap.size w w' := by
  have HI := Lib.hid (hI.keep (ext_alloc (Below.refl _ w) (.cells #[.int .i64 r, .int .i64 wd, .slice A zs.length c] 24)))
  have HOK := Lib.hid hok
  clear hI hok
  go_enter Tryz.func65, Tryz.ntmps65
  go_wp2_with fail
  refine (aisles_no r wd zs A c _ HI.out hlen HOK.out).mono ?_
  rintro e w1 ⟨f, rfl, hb⟩
  have hbw := ext_trans (ext_alloc (Below.refl _ w) _) hb
  clear hb
  go_wp2_with (refine wpList_store_blk rfl 195 (.tmp 3) (.tmp 8) rfl w1.heap.size 195 F17 (arr17 f) (Arr.new rfl) (by rfl) (by rfl) rfl size17 (one17 _) ?_; intro w5 h5 ho5 hs5; have HO5 := Lib.hid ho5; clear ho5 h5 hs5)
  go_ret
  exact ⟨rfl, ext_only (ext_alloc hbw _) HO5.out hbw.size⟩

-- cabin.Seats
set_option maxRecDepth 100000 in
set_option maxHeartbeats 1000000 in
theorem Seats_yes (r wd : Int) (zs : List Int) (A : Option Addr) (c : Nat) (w : World) (hI : Ints w A zs) (hlen : zs.length ≤ 20000000000000) (hok : okC r wd zs = true) :
    Calls Tryz.prog 32 #[.agg #[.int .i64 r, .int .i64 wd, .slice A zs.length c]] w fun e w' => e = .returned (.tuple #[.int .i64 (r * wd), .int .i64 0]) ∧ Below w.heap.size w w' := by
  have HI := Lib.hid (hI.keep (ext_alloc (Below.refl _ w) (.cells #[.int .i64 r, .int .i64 wd, .slice A zs.length c] 24)))
  have HOK := Lib.hid hok
  obtain ⟨⟨o1, o2, o3, o4⟩, _⟩ := okC_yes hok
  clear hI hok
  have q1 : 0 ≤ r * wd := Int.mul_nonneg (by omega) (by omega)
  have q2 : r * wd ≤ 64 * 16 := Int.mul_le_mul (by omega) (by omega) (by omega) (by omega)
  go_enter Tryz.func32, Tryz.ntmps32
  go_wp2_with fail
  refine (Check_yes r wd zs A c _ HI.out hlen HOK.out).mono ?_
  rintro e w1 ⟨rfl, hb⟩
  have hbw := ext_trans (ext_alloc (Below.refl _ w) _) hb
  obtain ⟨hc, hf⟩ := bcell hb
  go_wp2_with fail
  go_ret2
  exact ⟨rfl, hbw⟩
set_option maxRecDepth 100000 in
set_option maxHeartbeats 1000000 in
theorem Seats_no (r wd : Int) (zs : List Int) (A : Option Addr) (c : Nat) (w : World) (hI : Ints w A zs) (hlen : zs.length ≤ 20000000000000) (hok : okC r wd zs = false) :
    Calls Tryz.prog 32 #[.agg #[.int .i64 r, .int .i64 wd, .slice A zs.length c]] w fun e w' => e = .returned (.tuple #[.int .i64 0, .int .i64 2]) ∧ Below w.heap.size w w' := by
  have HI := Lib.hid (hI.keep (ext_alloc (Below.refl _ w) (.cells #[.int .i64 r, .int .i64 wd, .slice A zs.length c] 24)))
  have HOK := Lib.hid hok
  clear hI hok
  go_enter Tryz.func32, Tryz.ntmps32
  go_wp2_with fail
  refine (Check_no r wd zs A c _ HI.out hlen HOK.out).mono ?_
  rintro e w1 ⟨rfl, hb⟩
  have hbw := ext_trans (ext_alloc (Below.refl _ w) _) hb
  go_wp2_with fail
  go_ret2
  exact ⟨rfl, hbw⟩

-- cabin.Place
set_option maxRecDepth 100000 in
set_option maxHeartbeats 1000000 in
theorem Place_yes (r wd : Int) (zs : List Int) (A : Option Addr) (c : Nat) (s : Int) (w : World) (hI : Ints w A zs) (hlen : zs.length ≤ 20000000000000) (hok : okC r wd zs = true) (hs0 : 0 ≤ s) (hs1 : s < r * wd) :
    Calls Tryz.prog 86 #[.agg #[.int .i64 r, .int .i64 wd, .slice A zs.length c], .int .i64 s] w fun e w' => e = .returned (.tuple #[.int .i64 (s / wd), .int .i64 (s % wd), .int .i64 0]) ∧ Below w.heap.size w w' := by
  have HI := Lib.hid (hI.keep (ext_alloc (Below.refl _ w) (.cells #[.int .i64 r, .int .i64 wd, .slice A zs.length c] 24)))
  have HOK := Lib.hid hok
  obtain ⟨⟨o1, o2, o3, o4⟩, _⟩ := okC_yes hok
  clear hI hok
  have q2 : r * wd ≤ 64 * 16 := Int.mul_le_mul (by omega) (by omega) (by omega) (by omega)
  have q3 : 0 ≤ s / wd := Int.ediv_nonneg (by omega) (by omega)
  have q4 : s / wd ≤ s := Int.ediv_le_self _ (by omega)
  have q5 := Int.emod_nonneg s (show wd ≠ 0 by omega)
  have q6 := Int.emod_lt_of_pos s (show 0 < wd by omega)
  go_enter Tryz.func86, Tryz.ntmps86
  go_wp2_with fail
  refine (Seats_yes r wd zs A c _ HI.out hlen HOK.out).mono ?_
  rintro e w1 ⟨rfl, hb⟩
  have hbw := ext_trans (ext_alloc (Below.refl _ w) _) hb
  have hc1 : w1.cell? ⟨w.heap.size, 1, none⟩ = some (.int .i64 wd) := by
    rw [hb.cell (p := ⟨w.heap.size, 1, none⟩) (by simp)]; simp
  clear hb
  go_wp2_with fail
  go_quiet (fail)
  go_wp2_with fail
  go_ret3
  exact ⟨rfl, ext_drewN hbw _⟩
set_option maxRecDepth 100000 in
set_option maxHeartbeats 1000000 in
theorem Place_seat (r wd : Int) (zs : List Int) (A : Option Addr) (c : Nat) (s : Int) (w : World) (hI : Ints w A zs) (hlen : zs.length ≤ 20000000000000) (hok : okC r wd zs = true) (hs : s < 0 ∨ r * wd ≤ s) :
    Calls Tryz.prog 86 #[.agg #[.int .i64 r, .int .i64 wd, .slice A zs.length c], .int .i64 s] w fun e w' => e = .returned (.tuple #[.int .i64 0, .int .i64 0, .int .i64 140]) ∧ Below w.heap.size w w' := by
  have HI := Lib.hid (hI.keep (ext_alloc (Below.refl _ w) (.cells #[.int .i64 r, .int .i64 wd, .slice A zs.length c] 24)))
  have HOK := Lib.hid hok
  obtain ⟨⟨o1, o2, o3, o4⟩, _⟩ := okC_yes hok
  clear hI hok
  have q2 : r * wd ≤ 64 * 16 := Int.mul_le_mul (by omega) (by omega) (by omega) (by omega)
  have HS := Lib.hid hs
  clear hs
  go_enter Tryz.func86, Tryz.ntmps86
  go_wp2_with fail
  refine (Seats_yes r wd zs A c _ HI.out hlen HOK.out).mono ?_
  rintro e w1 ⟨rfl, hb⟩
  have hbw := ext_trans (ext_alloc (Below.refl _ w) _) hb
  by_cases g1 : s < 0
  · go_wp2_with fail
    go_ret3
    exact ⟨rfl, hbw⟩
  · have g2 : r * wd ≤ s := by have := HS.out; omega
    go_wp2_with fail
    go_ret3
    exact ⟨rfl, hbw⟩
set_option maxRecDepth 100000 in
set_option maxHeartbeats 1000000 in
theorem Place_no (r wd : Int) (zs : List Int) (A : Option Addr) (c : Nat) (s : Int) (w : World) (hI : Ints w A zs) (hlen : zs.length ≤ 20000000000000) (hok : okC r wd zs = false) :
    Calls Tryz.prog 86 #[.agg #[.int .i64 r, .int .i64 wd, .slice A zs.length c], .int .i64 s] w fun e w' => e = .returned (.tuple #[.int .i64 0, .int .i64 0, .int .i64 2]) ∧ Below w.heap.size w w' := by
  have HI := Lib.hid (hI.keep (ext_alloc (Below.refl _ w) (.cells #[.int .i64 r, .int .i64 wd, .slice A zs.length c] 24)))
  have HOK := Lib.hid hok
  clear hI hok
  go_enter Tryz.func86, Tryz.ntmps86
  go_wp2_with fail
  refine (Seats_no r wd zs A c _ HI.out hlen HOK.out).mono ?_
  rintro e w1 ⟨rfl, hb⟩
  have hbw := ext_trans (ext_alloc (Below.refl _ w) _) hb
  go_wp2_with fail
  go_ret3
  exact ⟨rfl, hbw⟩

end Go.Proofs.YtpoijhjjbmaedaaGreatDoor.Cab
end

/- GeoChk: Whether a shape may be: the contracts of geometry.Check and of its reference (cut out of XGeo). -/
section
namespace Go.Proofs.YtpoijhjjbmaedaaGreatDoor.Geo
open Go.RowKit

-- geometry.Check
set_option maxHeartbeats 400000 in
theorem check_yes (a b c : Int) (w : World) (h : okS a b c = true) :
    Calls Tryz.prog 75 #[.agg #[.int .i64 a, .int .i64 b, .int .i64 c]] w fun e w' => e = .returned (.int .i64 0) ∧ Below w.heap.size w w' := by
  obtain ⟨h1, h2, h3, h4, h5, h6⟩ := okS_yes h
  clear h
  go_enter Tryz.func75, Tryz.ntmps75
  go_wp2
  go_ret
  exact ⟨rfl, (Below.refl _ _).alloc (Nat.le_refl _) _⟩
set_option maxHeartbeats 400000 in
theorem check_no (a b c : Int) (w : World) (h : okS a b c = false) :
    Calls Tryz.prog 75 #[.agg #[.int .i64 a, .int .i64 b, .int .i64 c]] w fun e w' => e = .returned (.int .i64 90) ∧ Below w.heap.size w w' := by
  have HH := Lib.hid (okS_no h)
  clear h
  go_enter Tryz.func75, Tryz.ntmps75
  go_wp2
  all_goals first
    | (go_ret; exact ⟨rfl, (Below.refl _ _).alloc (Nat.le_refl _) _⟩)
    | (exfalso; have := HH.out; (try simp at *); omega)

-- gangwayref09.Check
set_option maxHeartbeats 400000 in
theorem rcheck_yes (a b c : Int) (w : World) (h : okS a b c = true) :
    Calls Tryz.prog 62 #[.agg #[.int .i64 a, .int .i64 b, .int .i64 c]] w fun e w' => e = .returned (.int .i64 0) ∧ Below w.heap.size w w' := by
  obtain ⟨h1, h2, h3, h4, h5, h6⟩ := okS_yes h
  clear h
  go_enter Tryz.func62, Tryz.ntmps62
  go_wp2
  go_ret
  exact ⟨rfl, (Below.refl _ _).alloc (Nat.le_refl _) _⟩
set_option maxHeartbeats 400000 in
theorem rcheck_no (a b c : Int) (w : World) (h : okS a b c = false) :
    Calls Tryz.prog 62 #[.agg #[.int .i64 a, .int .i64 b, .int .i64 c]] w fun e w' => e = .returned (.int .i64 90) ∧ Below w.heap.size w w' := by
  have HH := Lib.hid (okS_no h)
  clear h
  go_enter Tryz.func62, Tryz.ntmps62
  go_wp2
  all_goals first
    | (go_ret; exact ⟨rfl, (Below.refl _ _).alloc (Nat.le_refl _) _⟩)
    | (exfalso; have := HH.out; (try simp at *); omega)

end Go.Proofs.YtpoijhjjbmaedaaGreatDoor.Geo
end

/- Cod: The contracts of the codes' functions: what each returns; the world gets at most new blocks. 'Tab w': the table of the doubles lies in block 0. -/
section
namespace Go.Proofs.YtpoijhjjbmaedaaGreatDoor.Cod
open Go.RowKit

/-- the package's table of the doubles, as it lies when the call begins -/
def Tab (w : World) : Prop := ∀ i, i < 32 → w.cell? ⟨0, i, none⟩ = some (.int .u8 (dbl i : Nat))
theorem Tab.pos {w : World} (h : Tab w) : 0 < w.heap.size := by
  have h0 := h 0 (by omega)
  rcases Nat.lt_or_ge 0 w.heap.size with h1 | h1
  · exact h1
  · simp only [World.cell?] at h0
    rw [Array.getElem?_eq_none h1] at h0; simp at h0
theorem Tab.keep {w w' : World} (h : Tab w) (hb : Below w.heap.size w w') : Tab w' := fun i hi => (hb.cell (p := ⟨0, i, none⟩) h.pos).trans (h i hi)

-- codes.doubled
set_option maxHeartbeats 400000 in
theorem doubled (d : Nat) (hd : d < 32) (w : World) (ht : Tab w) :
    Calls Tryz.prog 73 #[.int .u8 (d : Int)] w fun e w' => e = .returned (.int .u8 (dbl d : Nat)) ∧ w = w' := by
  have h0 := ht d hd
  have h1 : (d : Int) < 32 := by omega
  have h2 : (0 : Int) ≤ (d : Int) := by omega
  clear ht
  go_enter Tryz.func73, Tryz.ntmps73
  go_wp2
  go_ret
  exact ⟨rfl, rfl⟩

def arrL (n k : Nat) : Array Value := #[.int .u8 ((if 0 < k then lt (dig n 0) else 0 : Nat) : Int), .int .u8 ((if 1 < k then lt (dig n 1) else 0 : Nat) : Int), .int .u8 ((if 2 < k then lt (dig n 2) else 0 : Nat) : Int), .int .u8 ((if 3 < k then lt (dig n 3) else 0 : Nat) : Int), .int .u8 ((if 4 < k then lt (dig n 4) else 0 : Nat) : Int), .int .u8 ((if 5 < k then lt (dig n 5) else 0 : Nat) : Int), .int .u8 ((if 6 < k then lt (dig n 6) else 0 : Nat) : Int), .int .u8 0]
theorem arrL_at (n k : Nat) (h : k < 7) : (arrL n k)[k]? = some (.int .u8 0) := by
  obtain rfl | rfl | rfl | rfl | rfl | rfl | rfl : k = 0 ∨ k = 1 ∨ k = 2 ∨ k = 3 ∨ k = 4 ∨ k = 5 ∨ k = 6 := by omega
  all_goals rfl
theorem arrL_set (n k : Nat) (h : k < 7) : (arrL n k).setIfInBounds k (.int .u8 (lt (dig n k) : Nat)) = arrL n (k + 1) := by
  obtain rfl | rfl | rfl | rfl | rfl | rfl | rfl : k = 0 ∨ k = 1 ∨ k = 2 ∨ k = 3 ∨ k = 4 ∨ k = 5 ∨ k = 6 := by omega
  all_goals rfl
theorem lt_get (d : Nat) (h : d < (ByteArray.mk #[50, 51, 52, 53, 54, 55, 56, 57, 65, 66, 67, 68, 69, 70, 71, 72, 74, 75, 76, 77, 78, 80, 81, 82, 83, 84, 85, 86, 87, 88, 89, 90]).size) : ((ByteArray.mk #[50, 51, 52, 53, 54, 55, 56, 57, 65, 66, 67, 68, 69, 70, 71, 72, 74, 75, 76, 77, 78, 80, 81, 82, 83, 84, 85, 86, 87, 88, 89, 90])[d]'h).toNat = lt d := by
  have hh : ∀ d : Fin 32, ((ByteArray.mk #[50, 51, 52, 53, 54, 55, 56, 57, 65, 66, 67, 68, 69, 70, 71, 72, 74, 75, 76, 77, 78, 80, 81, 82, 83, 84, 85, 86, 87, 88, 89, 90])[d.val]'d.isLt).toNat = lt d.val := by decide
  exact hh ⟨d, h⟩

def codeV (n : Nat) : Value := .agg #[.int .u8 (lt (dig n 0) : Nat), .int .u8 (lt (dig n 1) : Nat), .int .u8 (lt (dig n 2) : Nat), .int .u8 (lt (dig n 3) : Nat), .int .u8 (lt (dig n 4) : Nat), .int .u8 (lt (dig n 5) : Nat), .int .u8 (lt (dig n 6) : Nat), .int .u8 (lt (chk (dig n) 7) : Nat)]

-- codes.code
set_option maxHeartbeats 1000000 in
theorem code (n : Nat) (hn : n < 4294967296) (w : World) (ht : Tab w) :
    Calls Tryz.prog 87 #[.int .u32 n] w fun e w' => e = .returned (codeV n) ∧ Below w.heap.size w w' := by
  have HT := Lib.hid ht; clear ht
  go_enter Tryz.func87, Tryz.ntmps87
  go_wp2_with fail
  go_loopw [4, 7] (fun s i wr => ∃ k : Nat, k ≤ 7 ∧ i = .int .i64 k ∧ s = .int .u8 (chk (dig n) k : Nat) ∧ Arr wr w.heap.size 161 (Array.replicate 8 (.int .u8 0)) ∧ Arr wr (w.heap.size + 1) 161 (arrL n k) ∧ Below w.heap.size w wr) (fun _ i _ => (7 - intOf i).toNat)
  case atStart =>
    refine ⟨0, by omega, rfl, rfl, ?_, ?_, ?_⟩
    · exact (Arr.fresh _ _ _).alloc _
    · exact Arr.new (by simp)
    · repeat (first | with_reducible exact Below.refl _ _ | with_reducible refine ext_alloc ?_ _ | with_reducible refine ext_drew ?_ | with_reducible refine ext_drewN ?_ _ | (refine ext_setCell ?_ (by simp at *; omega) _) | with_reducible refine ext_trans ?_ (by assumption))
  case round =>
    obtain ⟨k, hk, rfl, rfl, hA, hB, hb⟩ := hrel
    have hT := HT.out.keep hb
    have hd := dig_lt n k
    have hs := chk_lt (dig_lt n) k
    by_cases h : k < 7
    · have hw := cut_dig n k hn
      have hx := xor8 (chk (dig n) k) (dig n k) hs hd
      have hxl := xor_lt hs hd
      generalize hq : dig n k = q at *
      have hl : ((q : Nat) : Int) < 32 := by omega
      have hcell : wr.cell? ⟨w.heap.size + 1, k, none⟩ = some (.int .u8 0) := (hB.cell k).trans (arrL_at n k h)
      have hmark := hB.mark k
      have HA := Lib.hid hA; have HB := Lib.hid hB; have HTT := Lib.hid hT; have HQ := Lib.hid hq
      clear hA hB hT hq
      go_wp2_with fail
      refine (doubled (chk (dig n) k ^^^ q) hxl _ ?_).mono ?_
      · exact HT.out.keep (ext_setCell hb (by simp) _)
      rintro e w2 ⟨rfl, rfl⟩
      go_wp2_with fail
      go_roundw
      case rel =>
        refine ⟨k + 1, by omega, by go_num, ?_, HA.out.other (by simp) _, ?_, ext_setCell hb (by simp) _⟩
        · rw [← HQ.out]; rfl
        · have h5 := HB.out.put k (.int .u8 (lt (dig n k) : Nat))
          rw [arrL_set n k h] at h5
          rw [lt_get, ← HQ.out]
          exact h5
      case measure => simp [intOf]; omega
    · obtain rfl : k = 7 := by omega
      have hl : ((chk (dig n) 7 : Nat) : Int) < 32 := by omega
      have a0 : wr.cell? ⟨w.heap.size, 0, none⟩ = some (.int .u8 0) := hA.cell 0
      have a1 : wr.cell? ⟨w.heap.size, 1, none⟩ = some (.int .u8 0) := hA.cell 1
      have a2 : wr.cell? ⟨w.heap.size, 2, none⟩ = some (.int .u8 0) := hA.cell 2
      have a3 : wr.cell? ⟨w.heap.size, 3, none⟩ = some (.int .u8 0) := hA.cell 3
      have a4 : wr.cell? ⟨w.heap.size, 4, none⟩ = some (.int .u8 0) := hA.cell 4
      have a5 : wr.cell? ⟨w.heap.size, 5, none⟩ = some (.int .u8 0) := hA.cell 5
      have a6 : wr.cell? ⟨w.heap.size, 6, none⟩ = some (.int .u8 0) := hA.cell 6
      have a7 : wr.cell? ⟨w.heap.size, 7, none⟩ = some (.int .u8 0) := hA.cell 7
      have am := hA.mark
      have b0 : wr.cell? ⟨w.heap.size + 1, 0, none⟩ = some (.int .u8 (lt (dig n 0) : Nat)) := hB.cell 0
      have b1 : wr.cell? ⟨w.heap.size + 1, 1, none⟩ = some (.int .u8 (lt (dig n 1) : Nat)) := hB.cell 1
      have b2 : wr.cell? ⟨w.heap.size + 1, 2, none⟩ = some (.int .u8 (lt (dig n 2) : Nat)) := hB.cell 2
      have b3 : wr.cell? ⟨w.heap.size + 1, 3, none⟩ = some (.int .u8 (lt (dig n 3) : Nat)) := hB.cell 3
      have b4 : wr.cell? ⟨w.heap.size + 1, 4, none⟩ = some (.int .u8 (lt (dig n 4) : Nat)) := hB.cell 4
      have b5 : wr.cell? ⟨w.heap.size + 1, 5, none⟩ = some (.int .u8 (lt (dig n 5) : Nat)) := hB.cell 5
      have b6 : wr.cell? ⟨w.heap.size + 1, 6, none⟩ = some (.int .u8 (lt (dig n 6) : Nat)) := hB.cell 6
      have b7 : wr.cell? ⟨w.heap.size + 1, 7, none⟩ = some (.int .u8 0) := hB.cell 7
      have bm := hB.mark
      have HB := Lib.hid hB; have HA := Lib.hid hA; have HTT := Lib.hid hT
      clear hA hB hT
      go_wp2_with fail
      refine bodyPost_ret (v := codeV n) (by simp [results, Tryz.results87, go_sem, a0, a1, a2, a3, a4, a5, a6, a7, codeV, lt_get]) rfl ⟨rfl, ?_⟩
      repeat refine ext_setCell ?_ (by simp) _
      exact hb

-- codes.Text
set_option maxHeartbeats 400000 in
theorem Text (n : Nat) (hn : n < 4294967296) (w : World) (ht : Tab w) :
    Calls Tryz.prog 47 #[.int .u32 n] w fun e w' => e = .returned (.string ⟨(txt n).toArray⟩) ∧ Below w.heap.size w w' := by
  have HT := Lib.hid ht; clear ht
  go_enter Tryz.func47, Tryz.ntmps47
  go_wp2_with fail
  refine (code n hn _ HT.out).mono ?_
  rintro e w1 ⟨rfl, hb⟩
  have hcv := fun W (h : ∀ j (hj : j < (txt n).length), W.cell? ((⟨w1.heap.size, 0, none⟩ : Addr).add j) = some (.int .u8 ((txt n)[j].toNat : Int))) =>
    run_convert_bytes_back (P := Tryz.prog) W 96 9 5 ⟨w1.heap.size, 0, none⟩ 8 (txt n) Tryz.underlying96 Tryz.underlying5 Tryz.underlying9 h
  have hcv2 := hcv (w1.alloc (.cells #[.int .u8 (lt (dig n 0) : Nat), .int .u8 (lt (dig n 1) : Nat), .int .u8 (lt (dig n 2) : Nat), .int .u8 (lt (dig n 3) : Nat), .int .u8 (lt (dig n 4) : Nat), .int .u8 (lt (dig n 5) : Nat), .int .u8 (lt (dig n 6) : Nat), .int .u8 (lt (chk (dig n) 7) : Nat)] 161)) (by
    intro j hj
    have hj8 : j < 8 := hj
    have h0 : (⟨w1.heap.size, 0, none⟩ : Addr).add j = ⟨w1.heap.size, j, none⟩ := by
      unfold Addr.add; split
      · subst_vars; rfl
      · simp
    rw [h0, World.cell?_alloc_new]
    obtain rfl | rfl | rfl | rfl | rfl | rfl | rfl | rfl : j = 0 ∨ j = 1 ∨ j = 2 ∨ j = 3 ∨ j = 4 ∨ j = 5 ∨ j = 6 ∨ j = 7 := by omega
    all_goals simp [txt, ltB_toNat (dig_lt _ _), ltB_toNat (chk_lt (dig_lt n) 7)])
  clear hcv
  rw [show (txt n).length = 8 from rfl] at hcv2
  unfold codeV
  go_wp2_with fail
  go_ret
  refine ⟨rfl, ?_⟩
  repeat (first | with_reducible exact Below.refl _ _ | with_reducible refine ext_alloc ?_ _ | with_reducible refine ext_drew ?_ | with_reducible refine ext_drewN ?_ _ | (refine ext_setCell ?_ (by simp at *; omega) _) | with_reducible refine ext_trans ?_ (by assumption))

end Go.Proofs.YtpoijhjjbmaedaaGreatDoor.Cod
end
