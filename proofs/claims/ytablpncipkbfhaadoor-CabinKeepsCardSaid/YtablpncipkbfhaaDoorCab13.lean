/- The contracts of the cabin's functions, sixth part: Blocks. -/
import Derived.Test.YtablpncipkbfhaaDoorCab5
import Derived.Test.YtablpncipkbfhaaDoorCabPlain4
import Derived.Test.YtablpncipkbfhaaDoorKit5
import Derived.Scope
namespace Go.Proofs.YtablpncipkbfhaaDoor.Cab
open Go.RowKit

theorem span_info : (Tryd.prog.info? 59).map (fun i => (i.zero, i.size, i.bytes)) = some (some (.agg #[.int .i64 0, .int .i64 0]), 2, 16) := by kernel_rfl
theorem noGoto_ret {Q : Exit → Act → World → Prop} {a : Act} {w : World} (h : Q .ret a w) : Exit.noGoto Q .ret a w := h
/-- a list of blocks that is new memory -/
def BlocksOut (l : List (Nat × Nat)) (w : World) (e : Ending) (w' : World) : Prop := ∃ v, e = .returned (.tuple #[v, .int .i64 0]) ∧ w'.ownsRow w.heap.size 59 2 v l.length (spans l) ∧ Below w.heap.size w w'

theorem news_two (wr : World) (t : TypeId) (a b : Int) : ∀ i u, [Value.int .i64 a, Value.int .i64 b][i]? = some u → (wr.alloc (.cells #[.int .i64 a, .int .i64 b] t)).cell? ((⟨wr.heap.size, 0, none⟩ : Addr).add i) = some u := fun i u hu => by
  rw [add_zero_off, (Arr.fresh wr t #[.int .i64 a, .int .i64 b]).cell i]
  simpa using hu
theorem two_one (a b : Int) : ∀ u ∈ [Value.int .i64 a, Value.int .i64 b], u.oneCell' = true := by
  intro u hu
  simp at hu
  rcases hu with rfl | rfl <;> rfl
theorem own_more {w : World} {base : Nat} {v : Value} {l : List (Nat × Nat)} {f c : Nat} {a b : Int} (h : w.ownsRow base 59 2 v (l.length + 1) (spans l ++ [.int .i64 a, .int .i64 b])) (ha : a = (f : Int)) (hb : b = (c : Int)) :
    w.ownsRow base 59 2 v (l ++ [(f, c)]).length (spans (l ++ [(f, c)])) := by
  subst ha hb
  rw [spans_snoc, List.length_append]; exact h

-- cabin.Blocks, a cabin that may not be
set_option maxRecDepth 100000 in
set_option maxHeartbeats 2000000 in
theorem Blocks_no (r wd : Int) (zs : List Int) (A : Option Addr) (c : Nat) (w : World) (hI : Ints w A zs) (hlen : zs.length ≤ 20000000000000) (hok : okC r wd zs = false) :
    Calls Tryd.prog 26 #[.agg #[.int .i64 r, .int .i64 wd, .slice A zs.length c]] w fun e w' => e = .returned (.tuple #[.slice none 0 0, .int .i64 2]) ∧ Below w.heap.size w w' := by
  have HI := Lib.hid (hI.keep (ext_alloc (Below.refl _ w) (.cells #[.int .i64 r, .int .i64 wd, .slice A zs.length c] 24)))
  have HOK := Lib.hid hok
  clear hI hok
  go_enter Tryd.func26, Tryd.ntmps26
  go_wp2_with fail
  refine wp_scope_straight ?_
  go_wp2_with fail
  refine (aisles_no r wd zs A c _ HI.out hlen HOK.out).mono ?_
  rintro e w2 ⟨f, rfl, hb⟩
  have hb2 := ext_trans (ext_alloc (Below.refl _ w) _) hb
  clear hb
  go_wp2_with (refine wpList_store_blk rfl 69 (.tmp 4) (.tmp 13) rfl w2.heap.size 69 F17 (arr17 f) (Arr.new rfl) (by rfl) (by rfl) rfl size17 (one17 _) ?_; intro w5 h5 ho5 hs5; have HO5 := Lib.hid ho5; have H5 := Lib.hid h5; clear ho5 h5 hs5)
  refine noGoto_ret ?_
  go_ret2
  exact ⟨rfl, ext_only (ext_alloc hb2 _) HO5.out hb2.size⟩

-- cabin.Blocks
set_option maxRecDepth 100000 in
set_option maxHeartbeats 2000000 in
theorem Blocks_yes (r : Int) (W : Nat) (zs : List Int) (A : Option Addr) (c : Nat) (w : World) (hI : Ints w A zs) (hlen : zs.length ≤ 20000000000000) (hok : okC r W zs = true) :
    Calls Tryd.prog 26 #[.agg #[.int .i64 r, .int .i64 (W : Int), .slice A zs.length c]] w (BlocksOut (full (stB W zs) (r.toNat * W)) w) := by
  have HI := Lib.hid (hI.keep (ext_alloc (Below.refl _ w) (.cells #[.int .i64 r, .int .i64 (W : Int), .slice A zs.length c] 24)))
  have HOK := Lib.hid hok
  obtain ⟨⟨o1, o2, o3, o4⟩, _⟩ := okC_yes hok
  clear hI hok
  obtain ⟨i0, hi, hz0, hz1, hz2⟩ := info_parts span_info
  go_enter Tryd.func26, Tryd.ntmps26
  go_wp2_with fail
  refine wp_scope_straight ?_
  go_wp2_with fail
  refine (aisles_yes r W zs A c _ HI.out hlen HOK.out).mono ?_
  rintro e w2 ⟨f, rfl, hf, hb⟩
  have hA2 := (Arr.fresh w 24 #[.int .i64 r, .int .i64 (W : Int), .slice A zs.length c]).keep hb
  have hb2 := ext_trans (ext_alloc (Below.refl _ w) _) hb
  have HF := Lib.hid hf
  clear hb hf
  have hlt2 := hA2.lt
  go_wp2_with (refine wpList_store_blk rfl 69 (.tmp 4) (.tmp 13) rfl w2.heap.size 69 F17 (arr17 f) (Arr.new rfl) (by rfl) (by rfl) rfl size17 (one17 _) ?_; intro w5 h5 ho5 hs5; have HO5 := Lib.hid ho5; have H5 := Lib.hid h5; clear ho5 h5 hs5)
  refine wp_label ?_
  go_wp2_with fail
  have hb5 := ext_only (ext_alloc hb2 _) HO5.out hb2.size
  have hA5 := (hA2.alloc (.cells F17 69)).grown HO5.out (by omega)
  have hF5 := H5.out
  have hz5 := H5.out.lt
  clear HO5 H5 hb2 hA2
  go_loopw [6, 7] (fun v i wr => ∃ (row : Nat), (row : Int) ≤ r ∧ i = .int .i64 row ∧ wr.ownsRow (w2.heap.size + 1) 59 2 v (full (stB W zs) (row * W)).length (spans (full (stB W zs) (row * W))) ∧
    Arr wr w.heap.size 24 #[.int .i64 r, .int .i64 (W : Int), .slice A zs.length c] ∧ Arr wr w2.heap.size 69 (arr17 f) ∧ Below w.heap.size w wr) (fun _ i _ => (r - intOf i).toNat)
  case atStart => exact ⟨0, by omega, rfl, by rw [Nat.zero_mul]; exact own_nil _ _ _ _, hA5, hF5, hb5⟩
  case round =>
    obtain ⟨row, hrow, rfl, hown, hA, hF, hb⟩ := hrel
    have x0 : wr.cell? ⟨w.heap.size, 0, none⟩ = some (.int .i64 r) := hA.cell 0
    have x1 : wr.cell? ⟨w.heap.size, 1, none⟩ = some (.int .i64 (W : Int)) := hA.cell 1
    have HOWN := Lib.hid hown
    clear hown
    by_cases h : (row : Int) < r
    · go_wp2_with fail
      go_loopw [6, 8, 9] (fun v fr cl wi => ∃ (from_ col : Nat), 1 ≤ col ∧ col ≤ W ∧ from_ < col ∧ fr = .int .i64 from_ ∧ cl = .int .i64 col ∧ frm (stB W zs) (row * W + col) = row * W + from_ ∧ wi.ownsRow (w2.heap.size + 1) 59 2 v (clo (stB W zs) (row * W + col)).length (spans (clo (stB W zs) (row * W + col))) ∧
        Arr wi w.heap.size 24 #[.int .i64 r, .int .i64 (W : Int), .slice A zs.length c] ∧ Arr wi w2.heap.size 69 (arr17 f) ∧ Below w.heap.size w wi) (fun _ _ cl _ => (W - intOf cl).toNat)
      case atStart =>
        obtain ⟨g1, g2⟩ := row_begin (stB W zs) (stB_row W zs row)
        exact ⟨0, 1, by omega, by omega, by omega, rfl, rfl, g2, by rw [g1]; exact HOWN.out, hA, hF, hb⟩
      case round =>
        obtain ⟨from_, col, hc1, hc2, hfr, rfl, rfl, hfm, hown, hAi, hFi, hbi⟩ := hrel
        have hcl := clo_len (st := stB W zs) (row * W + col)
        have hm1 : row * W ≤ 64 * 16 := Nat.mul_le_mul (by omega) (by omega)
        have hp1 : 0 ≤ (row : Int) * (W : Int) := Int.mul_nonneg (by omega) (by omega)
        have hp2 : (row : Int) * (W : Int) ≤ 64 * 16 := Int.mul_le_mul (by omega) (by omega) (by omega) (by omega)
        obtain ⟨ncl, hncl⟩ : ∃ n, (clo (stB W zs) (row * W + col)).length = n := ⟨_, rfl⟩
        rw [hncl] at hcl hown
        obtain ⟨V, cv, rfl⟩ := own_slice hown
        have hn : ncl ≤ 2000 := by omega
        have HN := Lib.hid hncl
        have HOWN := Lib.hid hown
        have HFM := Lib.hid hfm
        have HBI := Lib.hid hbi
        have HAI := Lib.hid hAi
        have HFI := Lib.hid hFi
        have hzi := hbi.size
        have hlF := hFi.lt
        have hlA := hAi.lt
        have x1 : wr.cell? ⟨w.heap.size, 1, none⟩ = some (.int .i64 (W : Int)) := hAi.cell 1
        have c1 := (hFi.cell col).trans (arr17_at f (by omega))
        have hfc : f col = lieAt zs (col : Int) := (HF.out col (by omega)).trans (lies_lieAt zs col)
        clear hncl hown hfm hbi hAi hFi hcl
        by_cases hlt : col < W
        · have hlt2 : (col : Int) < (W : Int) := by omega
          cases hl : lieAt zs (col : Int) with
          | false =>
            have HL := Lib.hid hl
            rw [hfc, hl] at c1
            clear hl hfc
            go_wp2_with fail
            go_roundw
            case rel =>
              obtain ⟨g1, g2⟩ := row_on (zs := zs) (row := row) (show 0 < col by omega) hlt HL.out
              refine ⟨from_, col + 1, by omega, by omega, by omega, rfl, by go_num, ?_, ?_, HAI.out, HFI.out, HBI.out⟩
              · rw [← Nat.add_assoc, g2]; exact HFM.out
              · rw [← Nat.add_assoc, g1, HN.out]; exact HOWN.out
            case measure => simp [intOf]; omega
          | true =>
            have HL := Lib.hid hl
            rw [hfc, hl] at c1
            clear hl hfc
            go_wp2_with (at_builtin; refine wpList_append_own _ rfl (.tmp 35) (.tmp 46) 48 rfl (w2.heap.size + 1) 59 i0 (.agg #[.int .i64 0, .int .i64 0]) 2 16 Tryd.underlying48 hi hz0 hz1 hz2 rfl (by decide) (.slice V ncl cv) _ _ rfl (own_alloc HOWN.out _) ⟨wr.heap.size, 0, none⟩ 1 1 _ rfl rfl (news_two _ _ _ _) (two_one _ _) (by unfold maxLen; omega) (by omega) (by simp; omega) ?_; intro v1 w1 hown1 hg hnil; obtain ⟨V1, cv1, rfl⟩ := own_slice hown1; have HB1 := Lib.hid (ext_app (ext_alloc HBI.out _) (own_alloc HOWN.out _) hg (by omega)); have hA1 := (HAI.out.alloc _).app (own_alloc HOWN.out _) hg (by omega); have HF1 := Lib.hid ((HFI.out.alloc _).app (own_alloc HOWN.out _) hg (by omega)); have HOWN1 := Lib.hid (own_more (f := row * W + from_) (c := col - from_) (by rw [HN.out]; exact hown1) (by simp) (by omega)); have x1 : w1.cell? ⟨w.heap.size, 1, none⟩ = some (.int .i64 (W : Int)) := hA1.cell 1; have HA1 := Lib.hid hA1; clear hown1 hg hnil hA1)
            go_roundw
            case rel =>
              obtain ⟨g1, g2⟩ := row_cut (zs := zs) (row := row) (show 0 < col by omega) hlt HL.out HFM.out
              refine ⟨col, col + 1, by omega, by omega, by omega, rfl, by go_num, ?_, ?_, HA1.out, HF1.out, HB1.out⟩
              · rw [← Nat.add_assoc, g2]
              · rw [← Nat.add_assoc, g1]; have := HOWN1.out; simpa [HN.out] using this
            case measure => simp [intOf]; omega
        · obtain rfl : W = col := by omega
          clear hfc c1
          go_wp2_with (at_builtin; refine wpList_append_own _ rfl (.tmp 35) (.tmp 46) 48 rfl (w2.heap.size + 1) 59 i0 (.agg #[.int .i64 0, .int .i64 0]) 2 16 Tryd.underlying48 hi hz0 hz1 hz2 rfl (by decide) (.slice V ncl cv) _ _ rfl (own_alloc HOWN.out _) ⟨wr.heap.size, 0, none⟩ 1 1 _ rfl rfl (news_two _ _ _ _) (two_one _ _) (by unfold maxLen; omega) (by omega) (by simp; omega) ?_; intro v1 w1 hown1 hg hnil; obtain ⟨V1, cv1, rfl⟩ := own_slice hown1; have HB1 := Lib.hid (ext_app (ext_alloc HBI.out _) (own_alloc HOWN.out _) hg (by omega)); have hA1 := (HAI.out.alloc _).app (own_alloc HOWN.out _) hg (by omega); have HF1 := Lib.hid ((HFI.out.alloc _).app (own_alloc HOWN.out _) hg (by omega)); have HOWN1 := Lib.hid (own_more (f := row * W + from_) (c := W - from_) (by rw [HN.out]; exact hown1) (by simp) (by omega)); have x1 : w1.cell? ⟨w.heap.size, 1, none⟩ = some (.int .i64 (W : Int)) := hA1.cell 1; have HA1 := Lib.hid hA1; clear hown1 hg hnil hA1)
          go_roundw
          case rel =>
            have g1 := row_end (zs := zs) (row := row) (show 0 < W by omega) HFM.out
            refine ⟨row + 1, by omega, by go_num, ?_, HA1.out, HF1.out, HB1.out⟩
            rw [g1]; have := HOWN1.out; simpa [HN.out] using this
          case measure => simp [intOf]; omega
    · have h' : r ≤ (row : Int) := by omega
      have hre : row = r.toNat := by omega
      have HRE := Lib.hid hre
      clear hre
      go_wp2_with fail
      go_ret2
      refine ⟨_, rfl, ?_, hb⟩
      rw [← HRE.out]
      exact own_base_le HOWN.out (by omega)

end Go.Proofs.YtablpncipkbfhaaDoor.Cab
