/- The contracts of the cabin's reference, fifth part: Blocks. -/
import Derived.Test.YtablpncipkbfhaaDoorCab13
import Derived.Test.YtablpncipkbfhaaDoorCab6
import Derived.Laws.OwnMore
namespace Go.Proofs.YtablpncipkbfhaaDoor.Cab
open Go.RowKit

theorem spans_set (l : List (Nat × Nat)) (f c d : Nat) : (spans (l ++ [(f, c)])).set (l.length * 2 + 1) (.int .i64 (d : Int)) = spans (l ++ [(f, d)]) := by
  rw [spans_snoc, spans_snoc, ← spans_len l, List.set_append_right _ _ (by omega), show (spans l).length + 1 - (spans l).length = 1 from by omega]
  rfl
/-- the last block's count -/
theorem last_count {w : World} {base g cap : Nat} {l : List (Nat × Nat)} {f c : Nat} (h : w.ownsRow base 59 2 (.slice (some ⟨g, 0, none⟩) (l.length + 1) cap) (l.length + 1) (spans (l ++ [(f, c)]))) :
    w.cell? ⟨g, l.length * 2 + 1, none⟩ = some (.int .i64 (c : Int)) ∧ w.frozen? ⟨g, l.length * 2 + 1, none⟩ = false := by
  refine ⟨?_, h.frozenAt _⟩
  rw [h.cellAt _ (by omega), spans_snoc, ← spans_len l, List.getElem?_append_right (by omega), show (spans l).length + 1 - (spans l).length = 1 from by omega]
  rfl
theorem last_put {w : World} {base g cap : Nat} {l : List (Nat × Nat)} {f c : Nat} (d : Nat) (h : w.ownsRow base 59 2 (.slice (some ⟨g, 0, none⟩) (l.length + 1) cap) (l.length + 1) (spans (l ++ [(f, c)]))) :
    (w.setCell ⟨g, l.length * 2 + 1, none⟩ (.int .i64 (d : Int))).ownsRow base 59 2 (.slice (some ⟨g, 0, none⟩) (l ++ [(f, d)]).length cap) (l ++ [(f, d)]).length (spans (l ++ [(f, d)])) := by
  have := (h.stored (l.length * 2 + 1) (.int .i64 (d : Int))).1
  rw [spans_set] at this
  rw [List.length_append]
  exact this

-- gangwayref14.Blocks, a cabin that may not be
set_option maxRecDepth 100000 in
set_option maxHeartbeats 2000000 in
theorem rBlocks_no (r wd : Int) (zs : List Int) (A : Option Addr) (c : Nat) (w : World) (hI : Ints w A zs) (hlen : zs.length ≤ 20000000000000) (hok : okC r wd zs = false) :
    Calls Tryd.prog 28 #[.agg #[.int .i64 r, .int .i64 wd, .slice A zs.length c]] w fun e w' => e = .returned (.tuple #[.slice none 0 0, .int .i64 2]) ∧ Below w.heap.size w w' := by
  have HI := Lib.hid (hI.keep (ext_alloc (Below.refl _ w) (.cells #[.int .i64 r, .int .i64 wd, .slice A zs.length c] 24)))
  have HOK := Lib.hid hok
  clear hI hok
  go_enter Tryd.func28, Tryd.ntmps28
  go_wp2_with fail
  refine (rCheck_no r wd zs A c _ HI.out hlen HOK.out).mono ?_
  rintro e w2 ⟨rfl, hb⟩
  have hb2 := ext_trans (ext_alloc (Below.refl _ w) _) hb
  clear hb
  go_wp2_with fail
  go_ret2
  exact ⟨rfl, hb2⟩

theorem own_more1 {w : World} {base n g cap : Nat} {l : List (Nat × Nat)} {f c : Nat} {a b : Int} (hn : l.length = n) (h : w.ownsRow base 59 2 (.slice (some ⟨g, 0, none⟩) (n + 1) cap) (n + 1) (spans l ++ [.int .i64 a, .int .i64 b])) (ha : a = (f : Int)) (hb : b = (c : Int)) :
    w.ownsRow base 59 2 (.slice (some ⟨g, 0, none⟩) (l.length + 1) cap) (l.length + 1) (spans (l ++ [(f, c)])) := by
  subst ha hb hn
  rw [spans_snoc]; exact h

-- gangwayref14.Blocks
set_option maxRecDepth 100000 in
set_option maxHeartbeats 2000000 in
theorem rBlocks_yes (r : Int) (W : Nat) (zs : List Int) (A : Option Addr) (c : Nat) (w : World) (hI : Ints w A zs) (hlen : zs.length ≤ 20000000000000) (hok : okC r W zs = true) :
    Calls Tryd.prog 28 #[.agg #[.int .i64 r, .int .i64 (W : Int), .slice A zs.length c]] w (BlocksOut (full (stB W zs) (r.toNat * W)) w) := by
  have HI := Lib.hid (hI.keep (ext_alloc (Below.refl _ w) (.cells #[.int .i64 r, .int .i64 (W : Int), .slice A zs.length c] 24)))
  have HI0 := Lib.hid hI
  have HOK := Lib.hid hok
  obtain ⟨⟨o1, o2, o3, o4⟩, _⟩ := okC_yes hok
  have q1 : 0 ≤ r * W := Int.mul_nonneg (by omega) (by omega)
  have q2 : r * W ≤ 64 * 16 := Int.mul_le_mul (by omega) (by omega) (by omega) (by omega)
  clear hI hok
  obtain ⟨i0, hi, hz0, hz1, hz2⟩ := info_parts span_info
  go_enter Tryd.func28, Tryd.ntmps28
  go_wp2_with fail
  refine (rCheck_yes r W zs A c _ HI.out hlen HOK.out).mono ?_
  rintro e w2 ⟨rfl, hb⟩
  have hA2 := (Arr.fresh w 24 #[.int .i64 r, .int .i64 (W : Int), .slice A zs.length c]).keep hb
  have hb2 := ext_trans (ext_alloc (Below.refl _ w) _) hb
  clear hb
  have x0 : w2.cell? ⟨w.heap.size, 0, none⟩ = some (.int .i64 r) := hA2.cell 0
  have x1 : w2.cell? ⟨w.heap.size, 1, none⟩ = some (.int .i64 (W : Int)) := hA2.cell 1
  go_wp2_with fail
  go_loopw [5, 6] (fun v i wr => ∃ (k : Nat), (k : Int) ≤ r * W ∧ i = .int .i64 k ∧ wr.ownsRow (w.heap.size + 1) 59 2 v (full (stB W zs) k).length (spans (full (stB W zs) k)) ∧
    Arr wr w.heap.size 24 #[.int .i64 r, .int .i64 (W : Int), .slice A zs.length c] ∧ Below w.heap.size w wr) (fun _ i _ => (r * W - intOf i).toNat)
  case atStart => exact ⟨0, by omega, rfl, own_nil _ _ _ _, hA2, hb2⟩
  case round =>
    obtain ⟨k, hk, rfl, hown, hA, hb⟩ := hrel
    have x0 : wr.cell? ⟨w.heap.size, 0, none⟩ = some (.int .i64 r) := hA.cell 0
    have x1 : wr.cell? ⟨w.heap.size, 1, none⟩ = some (.int .i64 (W : Int)) := hA.cell 1
    have x2 : wr.cell? ⟨w.heap.size, 2, none⟩ = some (.slice A zs.length c) := hA.cell 2
    by_cases h : (k : Int) < r * W
    · have hfl := full_len (st := stB W zs) k
      obtain ⟨nfl, hnfl⟩ : ∃ n, (full (stB W zs) k).length = n := ⟨_, rfl⟩
      rw [hnfl] at hfl hown
      obtain ⟨V, cv, rfl⟩ := own_slice hown
      have hn : nfl ≤ 2000 := by omega
      have hkm : (k : Int) % (W : Int) = ((k % W : Nat) : Int) := by simp
      have HN := Lib.hid hnfl
      have HOWN := Lib.hid hown
      have HB := Lib.hid hb
      have HA := Lib.hid hA
      have hlA := hA.lt
      have hzr := hb.size
      clear hnfl hown hb hA hfl
      by_cases hc : k % W = 0
      · have e0 : (k : Int) % (W : Int) = 0 := by omega
        have hst : stB W zs k = true := by unfold stB; rw [hc]; rfl
        have HST := Lib.hid hst
        clear hst hkm
        go_wp2_with (at_builtin; refine wpList_append_own _ rfl (.tmp 33) (.tmp 36) 48 rfl (w.heap.size + 1) 59 i0 (.agg #[.int .i64 0, .int .i64 0]) 2 16 Tryd.underlying48 hi hz0 hz1 hz2 rfl (by decide) (.slice V nfl cv) _ _ rfl (own_alloc HOWN.out _) ⟨wr.heap.size, 0, none⟩ 1 1 _ rfl rfl (news_two _ _ _ _) (two_one _ _) (by unfold maxLen; omega) (by omega) (by simp; omega) ?_; intro v1 w1 hown1 hg hnil; obtain ⟨g1, cv1, rfl⟩ := own_succ hown1; have HB1 := Lib.hid (ext_app (ext_alloc HB.out _) (own_alloc HOWN.out _) hg (by omega)); have HA1 := Lib.hid ((HA.out.alloc _).app (own_alloc HOWN.out _) hg (by omega)); have HOWN1 := Lib.hid (own_more1 (f := k) (c := 0) HN.out hown1 rfl rfl); have HG := Lib.hid (own_lt (g := g1) HOWN1.out rfl); obtain ⟨c1, m1⟩ := last_count HOWN1.out; rw [HN.out] at c1 m1; clear hown1 hg hnil)
        go_roundw
        case rel =>
          refine ⟨k + 1, by omega, by go_num, ?_, HA1.out.other (by have := HG.out; simp; omega) _, ext_setCell HB1.out (by have := HG.out; simp; omega) _⟩
          rw [full_yes HST.out]
          have := last_put 1 HOWN1.out
          simpa [HN.out] using this
        case measure => simp [intOf]; omega
      · have hne : ¬ (k : Int) % (W : Int) = 0 := by omega
        have e0 : ((k : Int) % (W : Int) == 0) = false := beq_eq_false_iff_ne.2 hne
        obtain ⟨y, hy⟩ : ∃ y, lieAt zs ((k : Int) % (W : Int)) = y := ⟨_, rfl⟩
        have hst : stB W zs k = y := by unfold stB; rw [show (k % W == 0) = false from beq_eq_false_iff_ne.2 hc, Bool.false_or, ← hkm, hy]
        have hk0 : 0 < k := by rcases Nat.eq_zero_or_pos k with h0 | h0
                               · subst h0; simp at hc
                               · exact h0
        have HST := Lib.hid hst
        have HY := Lib.hid hy
        clear hst hy hkm
        go_wp2_with fail
        refine (rAisle r W zs A c _ _ (HI0.out.keep HB.out) hlen).mono ?_
        rintro e w3 ⟨rfl, hb⟩
        rw [HY.out]
        have hA3 := HA.out.keep hb
        have x1 : w3.cell? ⟨w.heap.size, 1, none⟩ = some (.int .i64 (W : Int)) := hA3.cell 1
        have HA3 := Lib.hid hA3
        have HB3 := Lib.hid (ext_trans HB.out hb)
        have HOWN3 := Lib.hid (own_keep HOWN.out hb)
        have hz3 := HB3.out.size
        have hlA3 := hA3.lt
        clear hb hA3 HA HB HOWN x0 x2
        cases y with
        | true =>
          go_wp2_with (at_builtin; refine wpList_append_own _ rfl (.tmp 33) (.tmp 36) 48 rfl (w.heap.size + 1) 59 i0 (.agg #[.int .i64 0, .int .i64 0]) 2 16 Tryd.underlying48 hi hz0 hz1 hz2 rfl (by decide) (.slice V nfl cv) _ _ rfl (own_alloc HOWN3.out _) ⟨w3.heap.size, 0, none⟩ 1 1 _ rfl rfl (news_two _ _ _ _) (two_one _ _) (by unfold maxLen; omega) (by omega) (by simp; omega) ?_; intro v1 w1 hown1 hg hnil; obtain ⟨g1, cv1, rfl⟩ := own_succ hown1; have HB1 := Lib.hid (ext_app (ext_alloc HB3.out _) (own_alloc HOWN3.out _) hg (by omega)); have HA1 := Lib.hid ((HA3.out.alloc _).app (own_alloc HOWN3.out _) hg (by omega)); have HOWN1 := Lib.hid (own_more1 (f := k) (c := 0) HN.out hown1 rfl rfl); have HG := Lib.hid (own_lt (g := g1) HOWN1.out rfl); obtain ⟨c1, m1⟩ := last_count HOWN1.out; rw [HN.out] at c1 m1; clear hown1 hg hnil)
          go_roundw
          case rel =>
            refine ⟨k + 1, by omega, by go_num, ?_, HA1.out.other (by have := HG.out; simp; omega) _, ext_setCell HB1.out (by have := HG.out; simp; omega) _⟩
            rw [full_yes HST.out]
            have := last_put 1 HOWN1.out
            simpa [HN.out] using this
          case measure => simp [intOf]; omega
        | false =>
          have hfp := full_pos (st := stB W zs) hk0
          have hncl : nfl = (clo (stB W zs) k).length + 1 := by rw [← HN.out, hfp, List.length_append]; rfl
          have HOWN4 : w3.ownsRow (w.heap.size + 1) 59 2 (.slice V nfl cv) ((clo (stB W zs) k).length + 1) (spans (clo (stB W zs) k ++ [(frm (stB W zs) k, k - frm (stB W zs) k)])) := by
            have := HOWN3.out; rw [hfp, hncl] at this; rw [hncl]; exact this
          obtain ⟨ncl, hn2⟩ : ∃ n, (clo (stB W zs) k).length = n := ⟨_, rfl⟩
          rw [hn2] at hncl HOWN4
          subst hncl
          obtain ⟨g1, cv1, e1⟩ := own_succ HOWN4
          injection e1 with e1 e2 e3
          subst e1 e3
          have hpair := last_count (by rw [hn2]; exact HOWN4)
          rw [hn2] at hpair
          obtain ⟨c1, m1⟩ := hpair
          have hfl2 := frm_lt (st := stB W zs) hk0
          have HG := Lib.hid (own_lt (g := g1) HOWN4 rfl)
          have HN2 := Lib.hid hn2
          have HO4 := Lib.hid HOWN4
          clear HOWN4 HOWN3 hn2 hfp
          obtain ⟨d, hd⟩ : ∃ d, k - frm (stB W zs) k = d := ⟨_, rfl⟩
          rw [hd] at c1
          have hd2 : d ≤ 1024 := by omega
          have HD := Lib.hid hd
          clear hd
          go_wp2_with fail
          go_roundw
          case rel =>
            refine ⟨k + 1, by omega, by go_num, ?_, HA3.out.other (by have := HG.out; simp; omega) _, ext_setCell HB3.out (by have := HG.out; simp; omega) _⟩
            rw [full_no HST.out hk0, show k + 1 - frm (stB W zs) k = d + 1 from by have := HD.out; omega]
            have := last_put (d + 1) (by rw [HN2.out]; exact HO4.out)
            simpa [HN2.out] using this
          case measure => simp [intOf]; omega
    · have h' : r * W ≤ (k : Int) := by omega
      have hre : k = r.toNat * W := by
        have : ((r.toNat * W : Nat) : Int) = r * W := by rw [Int.natCast_mul, Int.toNat_of_nonneg (by omega)]
        omega
      have HRE := Lib.hid hre
      clear hre
      have HOWN := Lib.hid hown
      clear hown
      go_wp2_with fail
      go_ret2
      refine ⟨_, rfl, ?_, hb⟩
      rw [← HRE.out]
      exact own_base_le HOWN.out (by omega)

end Go.Proofs.YtablpncipkbfhaaDoor.Cab
