/- The kit's lent lists and cabins: lent, kept, written over; lists of blocks compared. -/
import Derived.Test.YtablpncipkbfhaaDoorCab9
import Derived.Test.YtablpncipkbfhaaDoorCab14
import Derived.Laws.MakeOwn
namespace Go.Proofs.YtablpncipkbfhaaDoor.Cab
open Go.RowKit

/-- the marks behind a list's end -/
def marks (k : Nat) (n : Nat) : List Int := (List.range n).map fun i : Nat => 1000003 * ((k : Int) + 7) + (i : Int)
theorem marks_len (k n : Nat) : (marks k n).length = n := by simp [marks]
theorem marks_next (k n : Nat) : marks k (n + 1) = marks k n ++ [1000003 * ((k : Int) + 7) + (n : Int)] := by simp [marks, List.range_succ]
theorem marks_at {k n i : Nat} (h : i < n) : (marks k n).getD i 0 = 1000003 * ((k : Int) + 7) + (i : Int) := by simp [marks, List.getD_eq_getElem?_getD, List.getElem?_map, List.getElem?_range h]
theorem ints_app (a b : List Int) : ints (a ++ b) = ints a ++ ints b := by simp [ints]

-- gangwaykit.mark
set_option maxRecDepth 100000 in
set_option maxHeartbeats 2000000 in
theorem Mark (k i : Int) (hk : 0 ≤ k ∧ k ≤ 1000000) (hi : 0 ≤ i ∧ i ≤ 100000000000000) (w : World) :
    Calls Tryd.prog 53 #[.int .i64 k, .int .i64 i] w fun e w' => e = .returned (.int .i64 (1000003 * (k + 7) + i)) ∧ w' = w := by
  obtain ⟨h1, h2⟩ := hk
  obtain ⟨h3, h4⟩ := hi
  go_enter Tryd.func53, Tryd.ntmps53
  go_wp2_with fail
  go_ret
  exact ⟨rfl, rfl⟩

/-- cells of a slice's array, known by what an append reads -/
theorem ints_read {w : World} {ad : Addr} {zs : List Int} (hI : Ints w (some ad) zs) : ∀ j u, (ints zs)[j]? = some u → w.cell? (ad.add j) = some u := fun j u hu => by
  obtain ⟨hj, rfl⟩ := ints_at hu
  obtain ⟨b, off, hA, hb, h⟩ := hI (by intro e; subst e; simp at hj)
  obtain rfl := Option.some.inj hA
  have := h j hj
  rw [← this]
  congr 1
  unfold Addr.add; split
  · subst_vars; rfl
  · rfl
theorem news_one (wr : World) (t : TypeId) (a : Int) : ∀ i u, [Value.int .i64 a][i]? = some u → (wr.alloc (.cells #[.int .i64 a] t)).cell? ((⟨wr.heap.size, 0, none⟩ : Addr).add i) = some u := fun i u hu => by
  rw [add_zero_off, (Arr.fresh wr t #[.int .i64 a]).cell i]
  simpa using hu
theorem one_one (a : Int) : ∀ u ∈ [Value.int .i64 a], u.oneCell' = true := by
  intro u hu
  rw [List.mem_singleton.1 hu]; rfl

def LentOut (zs : List Int) (w : World) (e : Ending) (w' : World) : Prop := ∃ g cap, e = .returned (.slice (some ⟨g, 0, none⟩) zs.length cap) ∧ w'.ownsRow w.heap.size 3 1 (.slice (some ⟨g, 0, none⟩) (zs.length + 12) cap) (zs.length + 12) (ints (zs ++ marks 1 12)) ∧ Below w.heap.size w w'

-- gangwaykit.LentInts, no list
set_option maxRecDepth 100000 in
set_option maxHeartbeats 2000000 in
theorem LentInts_none (zs : List Int) (hz : zs = []) (w : World) :
    Calls Tryd.prog 43 #[.slice none 0 0] w (LentOut zs w) := by
  obtain ⟨i0, hi, hz0, hz1, hz2⟩ := info_parts int_info
  obtain ⟨L, hL⟩ : ∃ L, zs.length = L := ⟨_, rfl⟩
  have hlen : L ≤ 17592186043904 := by rw [← hL, hz]; simp
  have HL0 := Lib.hid (show L = 0 by rw [← hL, hz]; rfl)
  have HL := Lib.hid hL
  have HZ := Lib.hid hz
  clear hz hL
  go_enter Tryd.func43, Tryd.ntmps43
  go_wp2_with (first | (refine wpList_make_own _ rfl _ _ 22 rfl w.heap.size 3 i0 (.int .i64 0) 1 Tryd.underlying22 hi hz0 hz1 .i64 .i64 _ (L + 12) rfl rfl (by have := HL0.out; omega) (by rw [hz2]; omega) (by unfold maxLen; omega) (Nat.le_refl _) ?_; intro w1 hown0 hg0; have HO0 := Lib.hid hown0; have HG0 := Lib.hid (Below.grown (Below.refl w.heap.size w) hg0 (Nat.le_refl _) (by simp)); have hz0' := hg0.size; clear hown0 hg0) | (at_builtin; refine wpList_append_own_none rfl (.tmp 9) (.tmp 10) 22 rfl w.heap.size 3 i0 1 Tryd.underlying22 hi hz1 _ 0 [] rfl HO0.out rfl ?_))
  have HW1 := HO0
  have HB1 := HG0
  go_loopw [3, 4] (fun v i wr => ∃ (k g cap : Nat), k ≤ 12 ∧ i = .int .i64 k ∧ v = .slice (some ⟨g, 0, none⟩) (L + k) cap ∧ wr.ownsRow w.heap.size 3 1 (.slice (some ⟨g, 0, none⟩) (L + k) cap) (L + k) (ints (zs ++ marks 1 k)) ∧ Below w.heap.size w wr) (fun _ i _ => (12 - intOf i).toNat)
  case atStart => exact ⟨0, _, _, by omega, rfl, by rw [HL0.out], by have := HW1.out; rw [HZ.out]; simpa [HL0.out, marks, ints] using this, HB1.out⟩
  case round =>
    obtain ⟨k, g, cap, hk, rfl, rfl, hown, hb⟩ := hrel
    have HOWN := Lib.hid hown
    have HB := Lib.hid hb
    have hz := hb.size
    clear hown hb
    by_cases h : k < 12
    · go_wp2_with fail
      refine (Mark 1 k (by omega) (by omega) _).mono ?_
      rintro e w4 ⟨rfl, hw4⟩
      subst hw4
      go_wp2_with (at_builtin; refine wpList_append_own _ rfl (.tmp 16) (.tmp 19) 22 rfl w.heap.size 3 i0 (.int .i64 0) 1 8 Tryd.underlying22 hi hz0 hz1 hz2 rfl (by decide) (.slice (some ⟨g, 0, none⟩) (L + k) cap) _ _ rfl (own_alloc HOWN.out _) ⟨w4.heap.size, 0, none⟩ 1 1 _ rfl rfl (news_one _ _ _) (one_one _) (by unfold maxLen; omega) (by omega) (by simp; omega) ?_; intro v2 w5 hown2 hg hnil; obtain ⟨g2, cap2, rfl⟩ := own_succ hown2; have HB2 := Lib.hid (ext_app (ext_alloc HB.out _) (own_alloc HOWN.out _) hg (by omega)); have HOWN2 := Lib.hid hown2; clear hown2 hg hnil)
      go_roundw
      case rel =>
        refine ⟨k + 1, g2, cap2, by omega, by go_num, rfl, ?_, HB2.out⟩
        rw [marks_next, ← List.append_assoc, ints_app]
        exact HOWN2.out
      case measure => simp [intOf]; omega
    · obtain rfl : k = 12 := by omega
      have hcap : ((L : Nat) : Int) ≤ (cap : Int) := by
        have := HOWN.out
        rcases this.2 with ⟨h0, _⟩ | ⟨g', cap', cur, hv, _, _, hnc, _⟩
        · cases h0
        · injection hv with _ _ hv; subst hv; omega
      go_wp2_with fail
      go_ret
      exact ⟨g, cap, by rw [HL.out, HL0.out]; rfl, by rw [HL.out]; exact HOWN.out, HB.out⟩

-- gangwaykit.LentInts
set_option maxRecDepth 100000 in
set_option maxHeartbeats 2000000 in
theorem LentInts_some (zs : List Int) (ad : Addr) (c : Nat) (w : World) (hI : Ints w (some ad) zs) (hlen : zs.length ≤ 17592186043904) :
    Calls Tryd.prog 43 #[.slice (some ad) zs.length c] w (LentOut zs w) := by
  obtain ⟨i0, hi, hz0, hz1, hz2⟩ := info_parts int_info
  obtain ⟨L, hL⟩ : ∃ L, zs.length = L := ⟨_, rfl⟩
  have HII := Lib.hid hI
  rw [hL] at hlen ⊢
  have HL := Lib.hid hL
  clear hI hL
  go_enter Tryd.func43, Tryd.ntmps43
  go_wp2_with (first | (refine wpList_make_own _ rfl _ _ 22 rfl w.heap.size 3 i0 (.int .i64 0) 1 Tryd.underlying22 hi hz0 hz1 .i64 .i64 _ (L + 12) rfl rfl (by simp) (by rw [hz2]; omega) (by unfold maxLen; omega) (Nat.le_refl _) ?_; intro w1 hown0 hg0; have HO0 := Lib.hid hown0; have HG0 := Lib.hid (Below.grown (Below.refl w.heap.size w) hg0 (Nat.le_refl _) (by simp)); have hz0' := hg0.size; clear hown0 hg0) | (at_builtin; refine wpList_append_own _ rfl (.tmp 9) (.tmp 10) 22 rfl w.heap.size 3 i0 (.int .i64 0) 1 8 Tryd.underlying22 hi hz0 hz1 hz2 rfl (by decide) (.slice (some ⟨w.heap.size, 0, none⟩) 0 (L + 12)) 0 [] rfl HO0.out ad L c (ints zs) rfl (by rw [ints_len, HL.out]; omega) (ints_read (HII.out.keep HG0.out)) ints_one (by unfold maxLen; omega) (by omega) (by omega) ?_; intro v2 w2 hown2 hg2 hnil2; have HW2 := Lib.hid hown2; have HB2 := Lib.hid (ext_app HG0.out HO0.out hg2 (Nat.le_refl _)); clear hown2 hg2))
  rw [Nat.zero_add, List.nil_append] at HW2
  obtain ⟨g2, cap2, rfl⟩ := own_forms HW2.out (fun e => by have := (hnil2.1 e).1; simp at this)
  have HW1 := HW2
  have HB1 := HB2
  go_loopw [3, 4] (fun v i wr => ∃ (k g cap : Nat), k ≤ 12 ∧ i = .int .i64 k ∧ v = .slice (some ⟨g, 0, none⟩) (L + k) cap ∧ wr.ownsRow w.heap.size 3 1 (.slice (some ⟨g, 0, none⟩) (L + k) cap) (L + k) (ints (zs ++ marks 1 k)) ∧ Below w.heap.size w wr) (fun _ i _ => (12 - intOf i).toNat)
  case atStart => exact ⟨0, _, _, by omega, rfl, rfl, by simpa [marks] using HW1.out, HB1.out⟩
  case round =>
    obtain ⟨k, g, cap, hk, rfl, rfl, hown, hb⟩ := hrel
    have HOWN := Lib.hid hown
    have HB := Lib.hid hb
    have hz := hb.size
    clear hown hb
    by_cases h : k < 12
    · go_wp2_with fail
      refine (Mark 1 k (by omega) (by omega) _).mono ?_
      rintro e w4 ⟨rfl, hw4⟩
      subst hw4
      go_wp2_with (at_builtin; refine wpList_append_own _ rfl (.tmp 16) (.tmp 19) 22 rfl w.heap.size 3 i0 (.int .i64 0) 1 8 Tryd.underlying22 hi hz0 hz1 hz2 rfl (by decide) (.slice (some ⟨g, 0, none⟩) (L + k) cap) _ _ rfl (own_alloc HOWN.out _) ⟨w4.heap.size, 0, none⟩ 1 1 _ rfl rfl (news_one _ _ _) (one_one _) (by unfold maxLen; omega) (by omega) (by simp; omega) ?_; intro v2 w5 hown2 hg hnil; obtain ⟨g2, cap2, rfl⟩ := own_succ hown2; have HB2 := Lib.hid (ext_app (ext_alloc HB.out _) (own_alloc HOWN.out _) hg (by omega)); have HOWN2 := Lib.hid hown2; clear hown2 hg hnil)
      go_roundw
      case rel =>
        refine ⟨k + 1, g2, cap2, by omega, by go_num, rfl, ?_, HB2.out⟩
        rw [marks_next, ← List.append_assoc, ints_app]
        exact HOWN2.out
      case measure => simp [intOf]; omega
    · obtain rfl : k = 12 := by omega
      have hcap : ((L : Nat) : Int) ≤ (cap : Int) := by
        have := HOWN.out
        rcases this.2 with ⟨h0, _⟩ | ⟨g', cap', cur, hv, _, _, hnc, _⟩
        · cases h0
        · injection hv with _ _ hv; subst hv; omega
      go_wp2_with fail
      go_ret
      exact ⟨g, cap, by rw [HL.out]; rfl, by rw [HL.out]; exact HOWN.out, HB.out⟩
end Go.Proofs.YtablpncipkbfhaaDoor.Cab
