/- The contracts of the cabin's functions, first part: aisles, Check, Seats, Place. -/
import Derived.Test.YtablpncipkbfhaaDoorProg
import Derived.Test.YtablpncipkbfhaaDoorCabPlain
import Derived.Test.YtablpncipkbfhaaDoorKit3
namespace Go.Proofs.YtablpncipkbfhaaDoor.Cab
open Go.RowKit

/-- a slice of ints reads as the list -/
def Ints (w : World) (A : Option Addr) (zs : List Int) : Prop := zs ≠ [] → ∃ b off, A = some ⟨b, off, none⟩ ∧ b < w.heap.size ∧ ∀ j, j < zs.length → w.cell? ⟨b, off + j, none⟩ = some (.int .i64 (zs.getD j 0))
theorem Ints.keep {w w' : World} {A : Option Addr} {zs : List Int} (h : Ints w A zs) (hb : Below w.heap.size w w') : Ints w' A zs := fun hn => by
  obtain ⟨b, off, h1, h2, h3⟩ := h hn
  exact ⟨b, off, h1, Nat.lt_of_lt_of_le h2 hb.size, fun j hj => (hb.cell (p := ⟨b, off + j, none⟩) h2).trans (h3 j hj)⟩

theorem getD_at {zs : List Int} {k : Nat} (_h : k < zs.length) : True := trivial
def F17 : Array Value := #[.bool false, .bool false, .bool false, .bool false, .bool false, .bool false, .bool false, .bool false, .bool false, .bool false, .bool false, .bool false, .bool false, .bool false, .bool false, .bool false, .bool false]
theorem size17 : (Tryd.prog.info? 69).map (·.size) = some 17 := by kernel_rfl
theorem one17 (f : Nat → Bool) : (arr17 f).all (·.oneCell') = true := by simp [arr17, Value.oneCell']
theorem F17_eq (zs : List Int) : F17 = arr17 (lies zs 0) := by simp [F17, arr17, lies]

-- cabin.aisles
set_option maxRecDepth 100000 in
set_option maxHeartbeats 1000000 in
theorem aisles_some (r wd : Int) (zs : List Int) (c : Nat) (w : World) (b off : Nat) (hblk : b < w.heap.size) (hcell : ∀ j, j < zs.length → w.cell? ⟨b, off + j, none⟩ = some (.int .i64 (zs.getD j 0))) (hrw : okRW r wd = true) (hlen : zs.length ≤ 20000000000000) :
    Calls Tryd.prog 39 #[.agg #[.int .i64 r, .int .i64 wd, .slice (some ⟨b, off, none⟩) zs.length c]] w fun e w' => (∃ f, e = .returned (.tuple #[.agg (arr17 f), .bool (okZs wd 0 zs)]) ∧ (okZs wd 0 zs = true → ∀ j, j < 17 → f j = lies zs zs.length j)) ∧ Below w.heap.size w w' := by
  obtain ⟨h1, h2, h3, h4⟩ := okRW_yes hrw
  clear hrw
  have HC := Lib.hid hcell; clear hcell
  go_enter Tryd.func39, Tryd.ntmps39
  go_wp2_with fail
  go_loopw [5, 30] (fun la i wr => ∃ k : Nat, k ≤ zs.length ∧ i = .int .i64 k ∧ la = .int .i64 (lastOf zs k) ∧ okTo wd zs k ∧ Arr wr w.heap.size 24 #[.int .i64 r, .int .i64 wd, .slice (some ⟨b, off, none⟩) zs.length c] ∧ Arr wr (w.heap.size + 1) 69 F17 ∧ Arr wr (w.heap.size + 2) 69 (arr17 (lies zs k)) ∧ Below w.heap.size w wr) (fun _ i _ => (zs.length - intOf i).toNat)
  case atStart =>
    refine ⟨0, by omega, rfl, rfl, fun j hj => absurd hj (by omega), ?_, ?_, ?_, ?_⟩
    · exact ((Arr.fresh w _ _).alloc _).alloc _
    · exact (Arr.new (by simp)).alloc _
    · rw [← F17_eq]; exact Arr.new (by simp)
    · repeat (first | with_reducible exact Below.refl _ _ | with_reducible refine ext_alloc ?_ _ | with_reducible refine ext_drew ?_ | with_reducible refine ext_drewN ?_ _ | (refine ext_setCell ?_ (by simp at *; omega) _) | with_reducible refine ext_trans ?_ (by assumption))
  case round =>
    obtain ⟨k, hk, rfl, rfl, hto, hA, hB, hD, hb⟩ := hrel
    have hz := hb.size
    have x0 : wr.cell? ⟨w.heap.size, 0, none⟩ = some (.int .i64 r) := hA.cell 0
    have x1 : wr.cell? ⟨w.heap.size, 1, none⟩ = some (.int .i64 wd) := hA.cell 1
    by_cases h : k < zs.length
    · have hv := (hb.cell (p := ⟨b, off + k, none⟩) hblk).trans (HC.out k h)
      have hl := okTo_last hto
      have hk17 := okTo_len hto h4
      have h0 : (0 : Int) ≤ (k : Int) := by omega
      have h9 : (k : Int) < (zs.length : Int) := by omega
      generalize hL : lastOf zs k = L at *
      generalize hX : zs.getD k 0 = X at *
      have HL := Lib.hid hL; have HX := Lib.hid hX; have HTO := Lib.hid hto
      clear hL hX hto
      by_cases g1 : L < X
      · by_cases g2 : X < wd
        · have hcl : wr.cell? ⟨w.heap.size + 2, X.toNat, none⟩ = some (.bool (lies zs k X.toNat)) := (hD.cell X.toNat).trans (arr17_at _ (by omega))
          have hml := hD.mark X.toNat
          have g3 : (0 : Int) ≤ X := by omega
          have g4 : X < 17 := by omega
          have HA := Lib.hid hA; have HB := Lib.hid hB; have HD := Lib.hid hD
          clear hA hB hD
          go_wp2_with fail
          go_roundw
          case rel =>
            have hX2 : zs.getD k 0 = (X.toNat : Int) := by rw [HX.out]; omega
            refine ⟨k + 1, by omega, by go_num, by simp only [lastOf]; rw [HX.out], okTo_next HTO.out (by rw [HL.out, HX.out]; exact g1) (by rw [HX.out]; exact g2), HA.out.other (by simp; omega) _, HB.out.other (by simp) _, ?_, ext_setCell hb (by simp; omega) _⟩
            have h5 := HD.out.put X.toNat (.bool true)
            rw [arr17_set _ (by omega)] at h5
            rw [show arr17 (lies zs (k + 1)) = arr17 (fun j => if j = X.toNat then true else lies zs k j) from arr17_congr (fun j _ => lies_next h hX2 j)]
            exact h5
          case measure => simp [intOf]; omega
        · have hbad := okTo_not h (show ¬ (lastOf zs k < zs.getD k 0 ∧ zs.getD k 0 < wd) from by rw [HL.out, HX.out]; omega)
          have HBAD := Lib.hid hbad
          clear hbad
          have HA := Lib.hid hA; have HB := Lib.hid hB; have HD := Lib.hid hD
          clear hA hB hD
          go_wp2_with (first | (refine wpList_load_blk rfl 69 (.tmp 4) rfl (w.heap.size + 2) 69 (arr17 (lies zs k)) HD.out (by rfl) _ Tryd.underlying69 rfl size17 ?_) | (refine wpList_store_blk rfl 69 (.tmp 2) (.tmp 43) rfl (w.heap.size + 1) 69 F17 (arr17 (lies zs k)) HB.out (by rfl) (by rfl) rfl size17 (one17 _) ?_; intro w5 h5 ho5 hs5; have HO5 := Lib.hid ho5; have H5 := Lib.hid h5; clear ho5 h5 hs5))
          have hl5 := run_load_blk (P := Tryd.prog) 69 H5.out _ Tryd.underlying69 rfl size17
          refine bodyPost_ret (results_cell_tmp Tryd.results39 _ (by rfl) hl5) rfl ⟨⟨lies zs k, by rw [HBAD.out]; rfl, fun hh => by rw [HBAD.out] at hh; cases hh⟩, ext_only hb HO5.out (by omega)⟩
      · have hbad := okTo_not h (show ¬ (lastOf zs k < zs.getD k 0 ∧ zs.getD k 0 < wd) from by rw [HL.out, HX.out]; omega)
        have HBAD := Lib.hid hbad
        clear hbad
        have HA := Lib.hid hA; have HB := Lib.hid hB; have HD := Lib.hid hD
        clear hA hB hD
        go_wp2_with (first | (refine wpList_load_blk rfl 69 (.tmp 4) rfl (w.heap.size + 2) 69 (arr17 (lies zs k)) HD.out (by rfl) _ Tryd.underlying69 rfl size17 ?_) | (refine wpList_store_blk rfl 69 (.tmp 2) (.tmp 43) rfl (w.heap.size + 1) 69 F17 (arr17 (lies zs k)) HB.out (by rfl) (by rfl) rfl size17 (one17 _) ?_; intro w5 h5 ho5 hs5; have HO5 := Lib.hid ho5; have H5 := Lib.hid h5; clear ho5 h5 hs5))
        have hl5 := run_load_blk (P := Tryd.prog) 69 H5.out _ Tryd.underlying69 rfl size17
        refine bodyPost_ret (results_cell_tmp Tryd.results39 _ (by rfl) hl5) rfl ⟨⟨lies zs k, by rw [HBAD.out]; rfl, fun hh => by rw [HBAD.out] at hh; cases hh⟩, ext_only hb HO5.out (by omega)⟩
    · obtain rfl : k = zs.length := by omega
      have hok : okZs wd 0 zs = true := okZs_to.2 hto
      have HOK := Lib.hid hok
      clear hok hto HC
      have HA := Lib.hid hA; have HB := Lib.hid hB; have HD := Lib.hid hD
      clear hA hB hD
      go_wp2_with (first | (refine wpList_load_blk rfl 69 (.tmp 4) rfl (w.heap.size + 2) 69 (arr17 (lies zs zs.length)) HD.out (by rfl) _ Tryd.underlying69 rfl size17 ?_) | (refine wpList_store_blk rfl 69 (.tmp 2) (.tmp 48) rfl (w.heap.size + 1) 69 F17 (arr17 (lies zs zs.length)) HB.out (by rfl) (by rfl) rfl size17 (one17 _) ?_; intro w5 h5 ho5 hs5; have HO5 := Lib.hid ho5; have H5 := Lib.hid h5; clear ho5 h5 hs5))
      have hl5 := run_load_blk (P := Tryd.prog) 69 H5.out _ Tryd.underlying69 rfl size17
      refine bodyPost_ret (results_cell_tmp Tryd.results39 _ (by rfl) hl5) rfl ⟨⟨lies zs zs.length, by rw [HOK.out]; rfl, fun _ _ _ => rfl⟩, ext_only hb HO5.out (by omega)⟩

-- cabin.aisles
set_option maxRecDepth 100000 in
set_option maxHeartbeats 1000000 in
theorem aisles_nil (r wd : Int) (zs : List Int) (c : Nat) (w : World) (A : Option Addr) (hnil : zs = []) (hrw : okRW r wd = true) (hlen : zs.length ≤ 20000000000000) :
    Calls Tryd.prog 39 #[.agg #[.int .i64 r, .int .i64 wd, .slice A zs.length c]] w fun e w' => (∃ f, e = .returned (.tuple #[.agg (arr17 f), .bool (okZs wd 0 zs)]) ∧ (okZs wd 0 zs = true → ∀ j, j < 17 → f j = lies zs zs.length j)) ∧ Below w.heap.size w w' := by
  obtain ⟨h1, h2, h3, h4⟩ := okRW_yes hrw
  clear hrw
  subst hnil
  go_enter Tryd.func39, Tryd.ntmps39
  go_wp2_with fail
  go_loopw [5, 30] (fun la i wr => ∃ k : Nat, k ≤ 0 ∧ i = .int .i64 k ∧ la = .int .i64 (lastOf ([] : List Int) k) ∧ okTo wd ([] : List Int) k ∧ Arr wr w.heap.size 24 #[.int .i64 r, .int .i64 wd, .slice A 0 c] ∧ Arr wr (w.heap.size + 1) 69 F17 ∧ Arr wr (w.heap.size + 2) 69 (arr17 (lies ([] : List Int) k)) ∧ Below w.heap.size w wr) (fun _ i _ => (0 - intOf i).toNat)
  case atStart =>
    refine ⟨0, by omega, rfl, rfl, fun j hj => absurd hj (by omega), ?_, ?_, ?_, ?_⟩
    · exact ((Arr.fresh w _ _).alloc _).alloc _
    · exact (Arr.new (by simp)).alloc _
    · rw [← F17_eq]; exact Arr.new (by simp)
    · repeat (first | with_reducible exact Below.refl _ _ | with_reducible refine ext_alloc ?_ _ | with_reducible refine ext_drew ?_ | with_reducible refine ext_drewN ?_ _ | (refine ext_setCell ?_ (by simp at *; omega) _) | with_reducible refine ext_trans ?_ (by assumption))
  case round =>
    obtain ⟨k, hk, rfl, rfl, hto, hA, hB, hD, hb⟩ := hrel
    have hz := hb.size
    have x0 : wr.cell? ⟨w.heap.size, 0, none⟩ = some (.int .i64 r) := hA.cell 0
    have x1 : wr.cell? ⟨w.heap.size, 1, none⟩ = some (.int .i64 wd) := hA.cell 1
    · obtain rfl : k = 0 := by omega
      have hok : okZs wd 0 ([] : List Int) = true := okZs_to.2 hto
      have HOK := Lib.hid hok
      clear hok hto
      have HA := Lib.hid hA; have HB := Lib.hid hB; have HD := Lib.hid hD
      clear hA hB hD
      go_wp2_with (first | (refine wpList_load_blk rfl 69 (.tmp 4) rfl (w.heap.size + 2) 69 (arr17 (lies ([] : List Int) 0)) HD.out (by rfl) _ Tryd.underlying69 rfl size17 ?_) | (refine wpList_store_blk rfl 69 (.tmp 2) (.tmp 48) rfl (w.heap.size + 1) 69 F17 (arr17 (lies ([] : List Int) 0)) HB.out (by rfl) (by rfl) rfl size17 (one17 _) ?_; intro w5 h5 ho5 hs5; have HO5 := Lib.hid ho5; have H5 := Lib.hid h5; clear ho5 h5 hs5))
      have hl5 := run_load_blk (P := Tryd.prog) 69 H5.out _ Tryd.underlying69 rfl size17
      refine bodyPost_ret (results_cell_tmp Tryd.results39 _ (by rfl) hl5) rfl ⟨⟨lies ([] : List Int) 0, by rw [HOK.out]; rfl, fun _ _ _ => rfl⟩, ext_only hb HO5.out (by omega)⟩

end Go.Proofs.YtablpncipkbfhaaDoor.Cab
