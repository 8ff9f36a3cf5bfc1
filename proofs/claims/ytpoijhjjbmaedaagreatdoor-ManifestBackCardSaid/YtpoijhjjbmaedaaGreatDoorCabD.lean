/- Packed: Cab9 CabLent CabKept CabLentC -/
import Derived.Test.YtpoijhjjbmaedaaGreatDoorCabB
import Derived.Laws.AppendOwnNone
import Derived.OwnWalk
import Derived.Test.YtpoijhjjbmaedaaGreatDoorCabC
import Derived.Laws.MakeOwn
import Derived.Test.YtpoijhjjbmaedaaGreatDoorKitA
set_option linter.unusedVariables false
set_option linter.unusedSimpArgs false
/- Cab9: The contracts of the kit's copies: CopyInts, CopyCabin; the laws' thirty, awake. -/
section
namespace Go.Proofs.YtpoijhjjbmaedaaGreatDoor.Cab
open Go.RowKit

theorem int_info : (Tryz.prog.info? 3).map (fun i => (i.zero, i.size, i.bytes)) = some (some (.int .i64 0), 1, 8) := by kernel_rfl
def ints (zs : List Int) : List Value := zs.map (Value.int .i64)
theorem ints_at {zs : List Int} {j : Nat} {u : Value} (h : (ints zs)[j]? = some u) : j < zs.length ∧ u = .int .i64 (zs.getD j 0) := by
  unfold ints at h
  rw [List.getElem?_map] at h
  obtain ⟨v, h1, h2⟩ := Option.map_eq_some_iff.1 h
  obtain ⟨h3, h4⟩ := List.getElem?_eq_some_iff.1 h1
  exact ⟨h3, by rw [← h2, List.getD_eq_getElem?_getD, h1]; rfl⟩
theorem ints_get {zs : List Int} {j : Nat} (h : j < zs.length) : (ints zs)[j]? = some (.int .i64 (zs.getD j 0)) := by
  unfold ints
  rw [List.getElem?_map, List.getElem?_eq_getElem h, List.getD_eq_getElem?_getD, List.getElem?_eq_getElem h]; rfl
theorem ints_one {zs : List Int} : ∀ u ∈ ints zs, u.oneCell' = true := by
  intro u hu
  unfold ints at hu
  obtain ⟨z, _, rfl⟩ := List.mem_map.1 hu
  rfl
theorem ints_len (zs : List Int) : (ints zs).length = zs.length := by simp [ints]

theorem Ints.set {w : World} {A : Option Addr} {zs : List Int} (h : Ints w A zs) {p : Addr} (hp : ∀ b off, A = some ⟨b, off, none⟩ → b ≠ p.block) (u : Value) : Ints (w.setCell p u) A zs := fun hn => by
  obtain ⟨b, off, h1, h2, h3⟩ := h hn
  refine ⟨b, off, h1, by rw [World.size_setCell]; exact h2, fun j hj => ?_⟩
  rw [World.cell?_setCell_other _ _ _ _ (fun e => hp b off h1 (by rw [e]))]
  exact h3 j hj
/-- an owned row of ints, as a slice -/
theorem own_ints {w : World} {base n : Nat} {v : Value} {zs : List Int} (h : w.ownsRow base 3 1 v n (ints zs)) : ∃ A c, v = .slice A zs.length c ∧ Ints w A zs ∧ (∀ b off, A = some ⟨b, off, none⟩ → base ≤ b) ∧ n = zs.length := by
  have hn : n = zs.length := by have := h.1; rw [ints_len] at this; omega
  subst hn
  rcases h.2 with ⟨rfl, h2⟩ | ⟨g, cap, cur, rfl, hb, hh, hc, hm, hs, ht⟩
  · exact ⟨none, 0, by rw [h2], fun hne => absurd (List.length_eq_zero_iff.1 h2) hne, (fun _ _ h => by cases h), rfl⟩
  · refine ⟨some ⟨g, 0, none⟩, cap, rfl, fun _ => ⟨g, 0, rfl, (Array.getElem?_eq_some_iff.1 hh).1, fun j hj => ?_⟩, (fun b off h => by injection h with h; injection h with h; omega), rfl⟩
    rw [Nat.zero_add, h.cellAt j (by omega)]
    exact ints_get hj

def IntsOut (zs : List Int) (w : World) (e : Ending) (w' : World) : Prop := ∃ A' c', e = .returned (.slice A' zs.length c') ∧ Ints w' A' zs ∧ (∀ b off, A' = some ⟨b, off, none⟩ → w.heap.size ≤ b) ∧ Below w.heap.size w w'

-- gangwaykit.CopyInts
set_option maxRecDepth 100000 in
set_option maxHeartbeats 1000000 in
theorem CopyInts (zs : List Int) (A : Option Addr) (c : Nat) (w : World) (hI : Ints w A zs) (hN : A = none → zs = [] ∧ c = 0) (hlen : zs.length ≤ 17592186043904) :
    Calls Tryz.prog 66 #[.slice A zs.length c] w (IntsOut zs w) := by
  obtain ⟨i0, hi, hz0, hz1, hz2⟩ := info_parts int_info
  cases A with
  | none =>
    obtain ⟨rfl, rfl⟩ := hN rfl
    go_enter Tryz.func66, Tryz.ntmps66
    go_wp2_with (at_builtin; refine wpList_append_own_none rfl (.tmp 4) (.tmp 5) 22 rfl w.heap.size 3 i0 1 Tryz.underlying22 hi (.slice none 0 0) 0 [] rfl ⟨by simp, .inl ⟨rfl, rfl⟩⟩ rfl ?_)
    go_ret
    exact ⟨none, 0, rfl, fun h => absurd rfl h, (fun _ _ h => by cases h), Below.refl _ _⟩
  | some ad =>
    have hcell : ∀ j u, (ints zs)[j]? = some u → w.cell? (ad.add j) = some u := fun j u hu => by
      obtain ⟨hj, rfl⟩ := ints_at hu
      obtain ⟨b, off, hA, hb, h⟩ := hI (by intro e; subst e; simp at hj)
      obtain rfl := Option.some.inj hA
      have := h j hj
      rw [← this]
      congr 1
      unfold Addr.add; split
      · subst_vars; rfl
      · rfl
    have HC := Lib.hid hcell
    clear hcell hI hN
    go_enter Tryz.func66, Tryz.ntmps66
    go_wp2_with (at_builtin; refine wpList_append_own _ rfl (.tmp 4) (.tmp 5) 22 rfl w.heap.size 3 i0 (.int .i64 0) 1 8 Tryz.underlying22 hi hz0 hz1 hz2 rfl (by decide) (.slice none 0 0) 0 [] rfl ⟨by simp, .inl ⟨rfl, rfl⟩⟩ ad zs.length c (ints zs) rfl (by rw [ints_len]; omega) HC.out ints_one (by unfold maxLen; omega) (by omega) (Nat.le_refl _) ?_; intro v1 w1 hown hg hnil)
    go_ret
    obtain ⟨A', c', rfl, h1, h3, h2⟩ := own_ints (by simpa using hown)
    exact ⟨A', c', rfl, h1, h3, (Below.refl _ _).grown hg (Nat.le_refl _) (by simp [Value.ownBlock])⟩

def CabinOut (r wd : Int) (zs : List Int) (w : World) (e : Ending) (w' : World) : Prop := ∃ A' c', e = .returned (.agg #[.int .i64 r, .int .i64 wd, .slice A' zs.length c']) ∧ Ints w' A' zs ∧ Below w.heap.size w w'

-- gangwaykit.CopyCabin
theorem size3 : (Tryz.prog.info? 24).map (·.size) = some 3 := by kernel_rfl
set_option maxRecDepth 100000 in
set_option maxHeartbeats 1000000 in
theorem CopyCabin (r wd : Int) (zs : List Int) (A : Option Addr) (c : Nat) (w : World) (hI : Ints w A zs) (hN : A = none → zs = [] ∧ c = 0) (hlen : zs.length ≤ 17592186043904) :
    Calls Tryz.prog 33 #[.agg #[.int .i64 r, .int .i64 wd, .slice A zs.length c]] w (CabinOut r wd zs w) := by
  have HI := Lib.hid (hI.keep (ext_alloc (ext_alloc (Below.refl _ w) (.cells #[.int .i64 r, .int .i64 wd, .slice A zs.length c] 24)) (.cells #[.int .i64 0, .int .i64 0, .slice none 0 0] 24)))
  have HN := Lib.hid hN
  clear hI hN
  go_enter Tryz.func33, Tryz.ntmps33
  go_wp2_with fail
  refine (CopyInts zs A c _ HI.out HN.out hlen).mono ?_
  rintro e w1 ⟨A', c', rfl, hi, hat, hb⟩
  have hat2 : ∀ b off, A' = some ⟨b, off, none⟩ → w.heap.size + 2 ≤ b := fun b off h => by have := hat b off h; simpa using this
  have HAT := Lib.hid hat2
  clear hat hat2
  have HI1 := Lib.hid hi
  have hA1 := ((Arr.fresh w 24 #[.int .i64 r, .int .i64 wd, .slice A zs.length c]).alloc (.cells #[.int .i64 0, .int .i64 0, .slice none 0 0] 24)).keep hb
  have hA2 := (Arr.new (w := w.alloc (.cells #[.int .i64 r, .int .i64 wd, .slice A zs.length c] 24)) (g := w.heap.size + 1) (t := 24) (cs := #[.int .i64 0, .int .i64 0, .slice none 0 0]) (by simp)).keep hb
  have hbw := ext_trans (ext_alloc (ext_alloc (Below.refl _ w) _) _) hb
  have x0 : w1.cell? ⟨w.heap.size, 0, none⟩ = some (.int .i64 r) := hA1.cell 0
  have x1 : w1.cell? ⟨w.heap.size, 1, none⟩ = some (.int .i64 wd) := hA1.cell 1
  have x2 : w1.cell? ⟨w.heap.size, 2, none⟩ = some (.slice A zs.length c) := hA1.cell 2
  have m2 := hA1.mark 2
  have y0 : w1.cell? ⟨w.heap.size + 1, 0, none⟩ = some (.int .i64 0) := hA2.cell 0
  have y1 : w1.cell? ⟨w.heap.size + 1, 1, none⟩ = some (.int .i64 0) := hA2.cell 1
  have y2 : w1.cell? ⟨w.heap.size + 1, 2, none⟩ = some (.slice none 0 0) := hA2.cell 2
  have n0 := hA2.mark 0
  have n1 := hA2.mark 1
  have n2 := hA2.mark 2
  have HA2 := Lib.hid hA2
  clear hA1 hA2
  go_wp2_with fail
  have hF := (((HA2.out.other (p := ⟨w.heap.size, 2, none⟩) (by simp) (.slice A' zs.length c')).put 0 (.int .i64 r)).put 1 (.int .i64 wd)).put 2 (.slice A' zs.length c')
  have hl := run_load_blk (P := Tryz.prog) 24 hF _ Tryz.underlying24 rfl size3
  refine bodyPost_ret (results_cell Tryz.results33 _ (by rfl) hl) rfl ⟨A', c', rfl, ?_, ?_⟩
  · refine (((HI1.out.set (fun b off h => ?_) _).set (fun b off h => ?_) _).set (fun b off h => ?_) _).set (fun b off h => ?_) _
    all_goals have := HAT.out b off h; simp only; omega
  · exact ext_setCell (ext_setCell (ext_setCell (ext_setCell hbw (Nat.le_refl _) _) (Nat.le_succ _) _) (Nat.le_succ _) _) (Nat.le_succ _) _

end Go.Proofs.YtpoijhjjbmaedaaGreatDoor.Cab
end

/- CabLent: The kit's lent lists and cabins: lent, kept, written over; lists of blocks compared. -/
section
namespace Go.Proofs.YtpoijhjjbmaedaaGreatDoor.Cab
open Go.RowKit

/-- the marks behind a list's end -/
def marks (k : Nat) (n : Nat) : List Int := (List.range n).map fun i : Nat => 1000003 * ((k : Int) + 7) + (i : Int)
theorem marks_len (k n : Nat) : (marks k n).length = n := by simp [marks]
theorem marks_next (k n : Nat) : marks k (n + 1) = marks k n ++ [1000003 * ((k : Int) + 7) + (n : Int)] := by simp [marks, List.range_succ]
theorem marks_at {k n i : Nat} (h : i < n) : (marks k n).getD i 0 = 1000003 * ((k : Int) + 7) + (i : Int) := by simp [marks, List.getD_eq_getElem?_getD, List.getElem?_map, List.getElem?_range h]
theorem ints_app (a b : List Int) : ints (a ++ b) = ints a ++ ints b := by simp [ints]

-- gangwaykit.mark
set_option maxRecDepth 100000 in
set_option maxHeartbeats 2000000 in
theorem Mark (k i : Int) (hk : 0 ≤ k ∧ k ≤ 1000000) (hi : 0 ≤ i ∧ i ≤ 100000000000000) (w : World) :
    Calls Tryz.prog 84 #[.int .i64 k, .int .i64 i] w fun e w' => e = .returned (.int .i64 (1000003 * (k + 7) + i)) ∧ w' = w := by
  obtain ⟨h1, h2⟩ := hk
  obtain ⟨h3, h4⟩ := hi
  go_enter Tryz.func84, Tryz.ntmps84
  go_wp2_with fail
  go_ret
  exact ⟨rfl, rfl⟩

/-- cells of a slice's array, known by what an append reads -/
theorem ints_read {w : World} {ad : Addr} {zs : List Int} (hI : Ints w (some ad) zs) : ∀ j u, (ints zs)[j]? = some u → w.cell? (ad.add j) = some u := fun j u hu => by
  obtain ⟨hj, rfl⟩ := ints_at hu
  obtain ⟨b, off, hA, hb, h⟩ := hI (by intro e; subst e; simp at hj)
  obtain rfl := Option.some.inj hA
  have := h j hj
  rw [← this]
  congr 1
  unfold Addr.add; split
  · subst_vars; rfl
  · rfl
theorem news_one (wr : World) (t : TypeId) (a : Int) : ∀ i u, [Value.int .i64 a][i]? = some u → (wr.alloc (.cells #[.int .i64 a] t)).cell? ((⟨wr.heap.size, 0, none⟩ : Addr).add i) = some u := fun i u hu => by
  rw [add_zero_off, (Arr.fresh wr t #[.int .i64 a]).cell i]
  simpa using hu
theorem one_one (a : Int) : ∀ u ∈ [Value.int .i64 a], u.oneCell' = true := by
  intro u hu
  rw [List.mem_singleton.1 hu]; rfl

def LentOut (zs : List Int) (w : World) (e : Ending) (w' : World) : Prop := ∃ g cap, e = .returned (.slice (some ⟨g, 0, none⟩) zs.length cap) ∧ w'.ownsRow w.heap.size 3 1 (.slice (some ⟨g, 0, none⟩) (zs.length + 12) cap) (zs.length + 12) (ints (zs ++ marks 1 12)) ∧ Below w.heap.size w w'

-- gangwaykit.LentInts, no list
set_option maxRecDepth 100000 in
set_option maxHeartbeats 2000000 in
theorem LentInts_none (zs : List Int) (hz : zs = []) (w : World) :
    Calls Tryz.prog 43 #[.slice none 0 0] w (LentOut zs w) := by
  obtain ⟨i0, hi, hz0, hz1, hz2⟩ := info_parts int_info
  obtain ⟨L, hL⟩ : ∃ L, zs.length = L := ⟨_, rfl⟩
  have hlen : L ≤ 17592186043904 := by rw [← hL, hz]; simp
  have HL0 := Lib.hid (show L = 0 by rw [← hL, hz]; rfl)
  have HL := Lib.hid hL
  have HZ := Lib.hid hz
  clear hz hL
  go_enter Tryz.func43, Tryz.ntmps43
  go_wp2_with (first | (refine wpList_make_own _ rfl _ _ 22 rfl w.heap.size 3 i0 (.int .i64 0) 1 Tryz.underlying22 hi hz0 hz1 .i64 .i64 _ (L + 12) rfl rfl (by have := HL0.out; omega) (by rw [hz2]; omega) (by unfold maxLen; omega) (Nat.le_refl _) ?_; intro w1 hown0 hg0; have HO0 := Lib.hid hown0; have HG0 := Lib.hid (Below.grown (Below.refl w.heap.size w) hg0 (Nat.le_refl _) (by simp)); have hz0' := hg0.size; clear hown0 hg0) | (at_builtin; refine wpList_append_own_none rfl (.tmp 9) (.tmp 10) 22 rfl w.heap.size 3 i0 1 Tryz.underlying22 hi hz1 _ 0 [] rfl HO0.out rfl ?_))
  have HW1 := HO0
  have HB1 := HG0
  go_loopw [3, 4] (fun v i wr => ∃ (k g cap : Nat), k ≤ 12 ∧ i = .int .i64 k ∧ v = .slice (some ⟨g, 0, none⟩) (L + k) cap ∧ wr.ownsRow w.heap.size 3 1 (.slice (some ⟨g, 0, none⟩) (L + k) cap) (L + k) (ints (zs ++ marks 1 k)) ∧ Below w.heap.size w wr) (fun _ i _ => (12 - intOf i).toNat)
  case atStart => exact ⟨0, _, _, by omega, rfl, by rw [HL0.out], by have := HW1.out; rw [HZ.out]; simpa [HL0.out, marks, ints] using this, HB1.out⟩
  case round =>
    obtain ⟨k, g, cap, hk, rfl, rfl, hown, hb⟩ := hrel
    have HOWN := Lib.hid hown
    have HB := Lib.hid hb
    have hz := hb.size
    clear hown hb
    by_cases h : k < 12
    · go_wp2_with fail
      refine (Mark 1 k (by omega) (by omega) _).mono ?_
      rintro e w4 ⟨rfl, hw4⟩
      subst hw4
      go_wp2_with (at_builtin; refine wpList_append_own _ rfl (.tmp 16) (.tmp 19) 22 rfl w.heap.size 3 i0 (.int .i64 0) 1 8 Tryz.underlying22 hi hz0 hz1 hz2 rfl (by decide) (.slice (some ⟨g, 0, none⟩) (L + k) cap) _ _ rfl (own_alloc HOWN.out _) ⟨w4.heap.size, 0, none⟩ 1 1 _ rfl rfl (news_one _ _ _) (one_one _) (by unfold maxLen; omega) (by omega) (by simp; omega) ?_; intro v2 w5 hown2 hg hnil; obtain ⟨g2, cap2, rfl⟩ := own_succ hown2; have HB2 := Lib.hid (ext_app (ext_alloc HB.out _) (own_alloc HOWN.out _) hg (by omega)); have HOWN2 := Lib.hid hown2; clear hown2 hg hnil)
      go_roundw
      case rel =>
        refine ⟨k + 1, g2, cap2, by omega, by go_num, rfl, ?_, HB2.out⟩
        rw [marks_next, ← List.append_assoc, ints_app]
        exact HOWN2.out
      case measure => simp [intOf]; omega
    · obtain rfl : k = 12 := by omega
      have hcap : ((L : Nat) : Int) ≤ (cap : Int) := by
        have := HOWN.out
        rcases this.2 with ⟨h0, _⟩ | ⟨g', cap', cur, hv, _, _, hnc, _⟩
        · cases h0
        · injection hv with _ _ hv; subst hv; omega
      go_wp2_with fail
      go_ret
      exact ⟨g, cap, by rw [HL.out, HL0.out]; rfl, by rw [HL.out]; exact HOWN.out, HB.out⟩

-- gangwaykit.LentInts
set_option maxRecDepth 100000 in
set_option maxHeartbeats 2000000 in
theorem LentInts_some (zs : List Int) (ad : Addr) (c : Nat) (w : World) (hI : Ints w (some ad) zs) (hlen : zs.length ≤ 17592186043904) :
    Calls Tryz.prog 43 #[.slice (some ad) zs.length c] w (LentOut zs w) := by
  obtain ⟨i0, hi, hz0, hz1, hz2⟩ := info_parts int_info
  obtain ⟨L, hL⟩ : ∃ L, zs.length = L := ⟨_, rfl⟩
  have HII := Lib.hid hI
  rw [hL] at hlen ⊢
  have HL := Lib.hid hL
  clear hI hL
  go_enter Tryz.func43, Tryz.ntmps43
  go_wp2_with (first | (refine wpList_make_own _ rfl _ _ 22 rfl w.heap.size 3 i0 (.int .i64 0) 1 Tryz.underlying22 hi hz0 hz1 .i64 .i64 _ (L + 12) rfl rfl (by simp) (by rw [hz2]; omega) (by unfold maxLen; omega) (Nat.le_refl _) ?_; intro w1 hown0 hg0; have HO0 := Lib.hid hown0; have HG0 := Lib.hid (Below.grown (Below.refl w.heap.size w) hg0 (Nat.le_refl _) (by simp)); have hz0' := hg0.size; clear hown0 hg0) | (at_builtin; refine wpList_append_own _ rfl (.tmp 9) (.tmp 10) 22 rfl w.heap.size 3 i0 (.int .i64 0) 1 8 Tryz.underlying22 hi hz0 hz1 hz2 rfl (by decide) (.slice (some ⟨w.heap.size, 0, none⟩) 0 (L + 12)) 0 [] rfl HO0.out ad L c (ints zs) rfl (by rw [ints_len, HL.out]; omega) (ints_read (HII.out.keep HG0.out)) ints_one (by unfold maxLen; omega) (by omega) (by omega) ?_; intro v2 w2 hown2 hg2 hnil2; have HW2 := Lib.hid hown2; have HB2 := Lib.hid (ext_app HG0.out HO0.out hg2 (Nat.le_refl _)); clear hown2 hg2))
  rw [Nat.zero_add, List.nil_append] at HW2
  obtain ⟨g2, cap2, rfl⟩ := own_forms HW2.out (fun e => by have := (hnil2.1 e).1; simp at this)
  have HW1 := HW2
  have HB1 := HB2
  go_loopw [3, 4] (fun v i wr => ∃ (k g cap : Nat), k ≤ 12 ∧ i = .int .i64 k ∧ v = .slice (some ⟨g, 0, none⟩) (L + k) cap ∧ wr.ownsRow w.heap.size 3 1 (.slice (some ⟨g, 0, none⟩) (L + k) cap) (L + k) (ints (zs ++ marks 1 k)) ∧ Below w.heap.size w wr) (fun _ i _ => (12 - intOf i).toNat)
  case atStart => exact ⟨0, _, _, by omega, rfl, rfl, by simpa [marks] using HW1.out, HB1.out⟩
  case round =>
    obtain ⟨k, g, cap, hk, rfl, rfl, hown, hb⟩ := hrel
    have HOWN := Lib.hid hown
    have HB := Lib.hid hb
    have hz := hb.size
    clear hown hb
    by_cases h : k < 12
    · go_wp2_with fail
      refine (Mark 1 k (by omega) (by omega) _).mono ?_
      rintro e w4 ⟨rfl, hw4⟩
      subst hw4
      go_wp2_with (at_builtin; refine wpList_append_own _ rfl (.tmp 16) (.tmp 19) 22 rfl w.heap.size 3 i0 (.int .i64 0) 1 8 Tryz.underlying22 hi hz0 hz1 hz2 rfl (by decide) (.slice (some ⟨g, 0, none⟩) (L + k) cap) _ _ rfl (own_alloc HOWN.out _) ⟨w4.heap.size, 0, none⟩ 1 1 _ rfl rfl (news_one _ _ _) (one_one _) (by unfold maxLen; omega) (by omega) (by simp; omega) ?_; intro v2 w5 hown2 hg hnil; obtain ⟨g2, cap2, rfl⟩ := own_succ hown2; have HB2 := Lib.hid (ext_app (ext_alloc HB.out _) (own_alloc HOWN.out _) hg (by omega)); have HOWN2 := Lib.hid hown2; clear hown2 hg hnil)
      go_roundw
      case rel =>
        refine ⟨k + 1, g2, cap2, by omega, by go_num, rfl, ?_, HB2.out⟩
        rw [marks_next, ← List.append_assoc, ints_app]
        exact HOWN2.out
      case measure => simp [intOf]; omega
    · obtain rfl : k = 12 := by omega
      have hcap : ((L : Nat) : Int) ≤ (cap : Int) := by
        have := HOWN.out
        rcases this.2 with ⟨h0, _⟩ | ⟨g', cap', cur, hv, _, _, hnc, _⟩
        · cases h0
        · injection hv with _ _ hv; subst hv; omega
      go_wp2_with fail
      go_ret
      exact ⟨g, cap, by rw [HL.out]; rfl, by rw [HL.out]; exact HOWN.out, HB.out⟩
end Go.Proofs.YtpoijhjjbmaedaaGreatDoor.Cab
end

/- CabKept: The kit's comparisons: lists of numbers, lent lists as they were; lent lists written over; lists of blocks. -/
section
namespace Go.Proofs.YtpoijhjjbmaedaaGreatDoor.Cab
open Go.RowKit

theorem drewN_cell (w : World) (n : Nat) (p : Addr) : (w.drewN n).cell? p = w.cell? p := rfl
-- gangwaykit.SameInts, two lists of the same numbers
set_option maxRecDepth 100000 in
set_option maxHeartbeats 2000000 in
theorem SameInts (zs : List Int) (A B : Option Addr) (c d : Nat) (w : World) (hI : Ints w A zs) (hJ : Ints w B zs) (hlen : zs.length ≤ 17592186043904) :
    Calls Tryz.prog 92 #[.slice A zs.length c, .slice B zs.length d] w fun e w' => e = .returned (.bool true) ∧ Below w.heap.size w w' := by
  have HI := Lib.hid hI; have HJ := Lib.hid hJ
  clear hI hJ
  go_enter Tryz.func92, Tryz.ntmps92
  go_wp2_with fail
  go_loopw [5] (fun i wr => ∃ k n : Nat, k ≤ zs.length ∧ i = .int .i64 k ∧ wr = w.drewN n) (fun i _ => (zs.length - intOf i).toNat)
  case atStart => exact ⟨0, 0, by omega, rfl, rfl⟩
  case round =>
    obtain ⟨k, n, hk, rfl, rfl⟩ := hrel
    by_cases h : k < zs.length
    · obtain ⟨b, off, hA, hblk, hcell⟩ := HI.out (by intro e; subst e; simp at h)
      have hv := hcell k h
      obtain ⟨b2, off2, hB, hblk2, hcell2⟩ := HJ.out (by intro e; subst e; simp at h)
      have hv2 := hcell2 k h
      subst hA hB
      clear hcell hcell2
      have h0 : (0 : Int) ≤ (k : Int) := by omega
      have h9 : (k : Int) < (zs.length : Int) := by omega
      generalize zs.getD k 0 = X at *
      go_wp2_with fail
      refine wp_region_quiet_lit (by kernel_rfl) (by kernel_rfl) ?_
      repeat (first | go_big_quiet_step ((fail)) | quiet_step ((fail)))
      refine wpQuiet_nil ?_
      intro _ hw'
      obtain ⟨nq, hw''⟩ := hw'
      subst hw''
      go_wp2_with fail
      go_roundw
      case rel => exact ⟨k + 1, _, by omega, by go_num, rfl⟩
      case measure => simp [intOf]; omega
    · obtain rfl : k = zs.length := by omega
      go_wp2_with fail
      go_ret
      exact ⟨rfl, ext_drewN (Below.refl _ _) _⟩

theorem lent_cap {w : World} {base n g cap : Nat} {xs : List Value} (h : w.ownsRow base 3 1 (.slice (some ⟨g, 0, none⟩) (n + 12) cap) (n + 12) xs) : ((n : Nat) : Int) + 12 ≤ (cap : Int) := by
  rcases h.2 with ⟨h0, _⟩ | ⟨g', cap', cur, hv, _, _, hnc, _⟩
  · cases h0
  · injection hv with _ _ hv; subst hv; omega
theorem lent_cell {w : World} {base g cap : Nat} {zs : List Int} (h : w.ownsRow base 3 1 (.slice (some ⟨g, 0, none⟩) (zs.length + 12) cap) (zs.length + 12) (ints (zs ++ marks 1 12))) :
    (∀ j, j < zs.length → w.cell? ⟨g, j, none⟩ = some (.int .i64 (zs.getD j 0))) ∧ (∀ j, zs.length ≤ j → j < zs.length + 12 → w.cell? ⟨g, j, none⟩ = some (.int .i64 (1000003 * (1 + 7) + ((j : Int) - (zs.length : Int))))) := by
  refine ⟨fun j hj => ?_, fun j h1 h2 => ?_⟩
  · rw [h.cellAt j (by omega), ints_get (by rw [List.length_append]; omega), List.getD_eq_getElem?_getD, List.getElem?_append_left hj, ← List.getD_eq_getElem?_getD]
  · rw [h.cellAt j (by omega), ints_get (by rw [List.length_append, marks_len]; omega), List.getD_eq_getElem?_getD, List.getElem?_append_right h1, ← List.getD_eq_getElem?_getD, marks_at (by omega)]
    congr 2
    omega

-- gangwaykit.KeptInts, a lent list that stayed
set_option maxRecDepth 100000 in
set_option maxHeartbeats 2000000 in
theorem KeptInts (zs : List Int) (base g cap : Nat) (A : Option Addr) (c : Nat) (w : World) (hown : w.ownsRow base 3 1 (.slice (some ⟨g, 0, none⟩) (zs.length + 12) cap) (zs.length + 12) (ints (zs ++ marks 1 12))) (hI : Ints w A zs) (hlen : zs.length ≤ 17592186043904) :
    Calls Tryz.prog 53 #[.slice (some ⟨g, 0, none⟩) zs.length cap, .slice A zs.length c] w fun e w' => e = .returned (.bool true) ∧ Below w.heap.size w w' := by
  have hcap := lent_cap hown
  obtain ⟨hc1, hc2⟩ := lent_cell hown
  have HI := Lib.hid hI
  have HC1 := Lib.hid hc1
  have HC2 := Lib.hid hc2
  clear hI hown hc1 hc2
  go_enter Tryz.func53, Tryz.ntmps53
  go_wp2_with fail
  go_loopw [6] (fun i wr => ∃ k n : Nat, k ≤ zs.length + 12 ∧ i = .int .i64 k ∧ wr = w.drewN n) (fun i _ => (zs.length + 12 - intOf i).toNat)
  case atStart => exact ⟨0, 0, by omega, rfl, rfl⟩
  case round =>
    obtain ⟨k, n, hk, rfl, rfl⟩ := hrel
    have h0 : (0 : Int) ≤ (k : Int) := by omega
    by_cases h : k < zs.length
    · obtain ⟨b, off, hA, hblk, hcell⟩ := HI.out (by intro e; subst e; simp at h)
      have hv := hcell k h
      have hv2 := HC1.out k h
      subst hA
      clear hcell
      have h9 : (k : Int) < (zs.length : Int) := by omega
      have h11 : ¬ zs.length ≤ k := by omega
      generalize zs.getD k 0 = X at *
      go_wp2_with fail
      refine wp_region_quiet_lit (by kernel_rfl) (by kernel_rfl) ?_
      repeat (first | go_big_quiet_step ((fail)) | quiet_step ((fail)))
      refine wpQuiet_nil ?_
      intro _ hw'
      obtain ⟨nq, hw''⟩ := hw'
      subst hw''
      go_wp2_with fail
      go_roundw
      case rel => exact ⟨k + 1, _, by omega, by go_num, rfl⟩
      case measure => simp [intOf]; omega
    · by_cases h2 : k < zs.length + 12
      · have hv2 := HC2.out k (by omega) h2
        have h9 : (zs.length : Int) ≤ (k : Int) := by omega
        have h11 : zs.length ≤ k := by omega
        have h10 : (k : Int) < (zs.length : Int) + 12 := by omega
        have hmk : ∀ W : World, Calls Tryz.prog 84 #[.int .i64 1, .int .i64 ((k : Int) - (zs.length : Int))] W fun e w' => e = .returned (.int .i64 (1000003 * (1 + 7) + ((k : Int) - (zs.length : Int)))) ∧ w' = W := Mark 1 ((k : Int) - (zs.length : Int)) (by omega) (by omega)
        have v1 : IntKind.i64.wrap ((k : Int) - (zs.length : Int)) = (k : Int) - (zs.length : Int) := IntWalk.i64_in _ (by omega)
        obtain ⟨M, hM⟩ : ∃ M, 1000003 * (1 + 7) + ((k : Int) - (zs.length : Int)) = M := ⟨_, rfl⟩
        rw [hM] at hv2 hmk
        have HMK := Lib.hid hmk
        clear hmk hM
        have hS : ∃ m, w.drewN n = w.drewN m := ⟨n, rfl⟩
        go_wp2_with fail
        refine wp_region_held_drew (S := (fun w' => w'.cell? ⟨g, k, none⟩ = some (.int .i64 M) ∧ ∃ m, w' = w.drewN m)) (by kernel_rfl) (by exact ⟨hv2, n + 1, rfl⟩) (fun hHeld => ?_)
        refine take_yes (i := 0) (oi := ?o1) (d := (some 23)) (v := ?v1) ?hi1 (by kernel_rfl) (by kernel_rfl) (by kernel_rfl) (fun _ _ _ h => h) ?hd1 ?hw1 ?hy1 (by assumption) ?_
        case hi1 => (simp only [List.getElem?_toArray, List.getElem?_cons_zero]; exact rfl)
        case hd1 => rfl
        case hw1 => rfl
        case hy1 => (intro w hSw; (try dsimp only at hSw); go_simp; try with_reducible rfl)
        try simp only [Act.put, List.setIfInBounds_toArray, List.set_cons_zero, List.set_cons_succ]
        refine take_yes (i := 1) (oi := ?o2) (d := (some 24)) (v := ?v2) ?hi2 (by kernel_rfl) (by kernel_rfl) (by kernel_rfl) (fun _ _ _ h => h) ?hd2 ?hw2 ?hy2 (by assumption) ?_
        case hi2 => (simp only [List.getElem?_toArray, List.getElem?_cons_zero, List.getElem?_cons_succ]; exact rfl)
        case hd2 => rfl
        case hw2 => rfl
        case hy2 => (intro w hSw; (try dsimp only at hSw); go_simp; try with_reducible rfl)
        try simp only [Act.put, List.setIfInBounds_toArray, List.set_cons_zero, List.set_cons_succ]
        refine take_yes (i := 2) (oi := ?o3) (d := (some 25)) (v := ?v3) ?hi3 (by kernel_rfl) (by kernel_rfl) (by kernel_rfl) (fun _ _ _ h => h) ?hd3 ?hw3 ?hy3 (by assumption) ?_
        case hi3 => (simp only [List.getElem?_toArray, List.getElem?_cons_zero, List.getElem?_cons_succ]; exact rfl)
        case hd3 => rfl
        case hw3 => rfl
        case hy3 => (intro w hSw; (try dsimp only at hSw); go_simp; try with_reducible rfl)
        try simp only [Act.put, List.setIfInBounds_toArray, List.set_cons_zero, List.set_cons_succ]
        refine take_yes (i := 3) (oi := ?o4) (d := (some 26)) (v := ?v4) ?hi4 (by kernel_rfl) (by kernel_rfl) (by kernel_rfl) (fun _ _ _ h => h) ?hd4 ?hw4 ?hy4 (by assumption) ?_
        case hi4 => (simp only [List.getElem?_toArray, List.getElem?_cons_zero, List.getElem?_cons_succ]; exact rfl)
        case hd4 => rfl
        case hw4 => rfl
        case hy4 => (intro w hSw; (try dsimp only at hSw); go_simp; try with_reducible rfl)
        try simp only [Act.put, List.setIfInBounds_toArray, List.set_cons_zero, List.set_cons_succ]
        refine take_yes (i := 4) (oi := ?o5) (d := (some 27)) (v := ?v5) ?hi5 (by kernel_rfl) (by kernel_rfl) (by kernel_rfl) (fun _ _ _ h => h) ?hd5 ?hw5 ?hy5 (by assumption) ?_
        case hi5 => (simp only [List.getElem?_toArray, List.getElem?_cons_zero, List.getElem?_cons_succ]; exact rfl)
        case hd5 => rfl
        case hw5 => rfl
        case hy5 => (intro w hSw; (try dsimp only at hSw); go_simp; try with_reducible rfl)
        try simp only [Act.put, List.setIfInBounds_toArray, List.set_cons_zero, List.set_cons_succ]
        refine take_no (i := 5) (oi := ?o6) (d := (some 28)) ?hi6 (by kernel_rfl) (by kernel_rfl) (by kernel_rfl) (fun _ _ _ h => h) ?hd6 ?hw6 (by assumption) ?_
        case hi6 => (simp only [List.getElem?_toArray, List.getElem?_cons_zero, List.getElem?_cons_succ]; exact rfl)
        case hd6 => rfl
        case hw6 => rfl
        try simp only [Act.put, List.setIfInBounds_toArray, List.set_cons_zero, List.set_cons_succ]
        refine take_no (i := 6) (oi := ?o7) (d := (some 29)) ?hi7 (by kernel_rfl) (by kernel_rfl) (by kernel_rfl) (fun _ _ _ h => h) ?hd7 ?hw7 (by assumption) ?_
        case hi7 => (simp only [List.getElem?_toArray, List.getElem?_cons_zero, List.getElem?_cons_succ]; exact rfl)
        case hd7 => rfl
        case hw7 => rfl
        try simp only [Act.put, List.setIfInBounds_toArray, List.set_cons_zero, List.set_cons_succ]
        refine take_no (i := 7) (oi := ?o8) (d := (some 30)) ?hi8 (by kernel_rfl) (by kernel_rfl) (by kernel_rfl) (fun _ _ _ h => h) ?hd8 ?hw8 (by assumption) ?_
        case hi8 => (simp only [List.getElem?_toArray, List.getElem?_cons_zero, List.getElem?_cons_succ]; exact rfl)
        case hd8 => rfl
        case hw8 => rfl
        try simp only [Act.put, List.setIfInBounds_toArray, List.set_cons_zero, List.set_cons_succ]
        refine take_no (i := 8) (oi := ?o9) (d := (some 31)) ?hi9 (by kernel_rfl) (by kernel_rfl) (by kernel_rfl) (fun _ _ _ h => h) ?hd9 ?hw9 (by assumption) ?_
        case hi9 => (simp only [List.getElem?_toArray, List.getElem?_cons_zero, List.getElem?_cons_succ]; exact rfl)
        case hd9 => rfl
        case hw9 => rfl
        try simp only [Act.put, List.setIfInBounds_toArray, List.set_cons_zero, List.set_cons_succ]
        refine take_no (i := 9) (oi := ?o10) (d := (some 32)) ?hi10 (by kernel_rfl) (by kernel_rfl) (by kernel_rfl) (fun _ _ _ h => h) ?hd10 ?hw10 (by assumption) ?_
        case hi10 => (simp only [List.getElem?_toArray, List.getElem?_cons_zero, List.getElem?_cons_succ]; exact rfl)
        case hd10 => rfl
        case hw10 => rfl
        try simp only [Act.put, List.setIfInBounds_toArray, List.set_cons_zero, List.set_cons_succ]
        refine take_no (i := 10) (oi := ?o11) (d := (some 33)) ?hi11 (by kernel_rfl) (by kernel_rfl) (by kernel_rfl) (fun _ _ _ h => h) ?hd11 ?hw11 (by assumption) ?_
        case hi11 => (simp only [List.getElem?_toArray, List.getElem?_cons_zero, List.getElem?_cons_succ]; exact rfl)
        case hd11 => rfl
        case hw11 => rfl
        try simp only [Act.put, List.setIfInBounds_toArray, List.set_cons_zero, List.set_cons_succ]
        refine take_no (i := 11) (oi := ?o12) (d := (some 34)) ?hi12 (by kernel_rfl) (by kernel_rfl) (by kernel_rfl) (fun _ _ _ h => h) ?hd12 ?hw12 (by assumption) ?_
        case hi12 => (simp only [List.getElem?_toArray, List.getElem?_cons_zero, List.getElem?_cons_succ]; exact rfl)
        case hd12 => rfl
        case hw12 => rfl
        try simp only [Act.put, List.setIfInBounds_toArray, List.set_cons_zero, List.set_cons_succ]
        refine take_no (i := 12) (oi := ?o13) (d := (some 35)) ?hi13 (by kernel_rfl) (by kernel_rfl) (by kernel_rfl) (fun _ _ _ h => h) ?hd13 ?hw13 (by assumption) ?_
        case hi13 => (simp only [List.getElem?_toArray, List.getElem?_cons_zero, List.getElem?_cons_succ]; exact rfl)
        case hd13 => rfl
        case hw13 => rfl
        try simp only [Act.put, List.setIfInBounds_toArray, List.set_cons_zero, List.set_cons_succ]
        refine take_no (i := 13) (oi := ?o14) (d := (some 36)) ?hi14 (by kernel_rfl) (by kernel_rfl) (by kernel_rfl) (fun _ _ _ h => h) ?hd14 ?hw14 (by assumption) ?_
        case hi14 => (simp only [List.getElem?_toArray, List.getElem?_cons_zero, List.getElem?_cons_succ]; exact rfl)
        case hd14 => rfl
        case hw14 => rfl
        try simp only [Act.put, List.setIfInBounds_toArray, List.set_cons_zero, List.set_cons_succ]
        refine take_no (i := 14) (oi := ?o15) (d := (some 37)) ?hi15 (by kernel_rfl) (by kernel_rfl) (by kernel_rfl) (fun _ _ _ h => h) ?hd15 ?hw15 (by assumption) ?_
        case hi15 => (simp only [List.getElem?_toArray, List.getElem?_cons_zero, List.getElem?_cons_succ]; exact rfl)
        case hd15 => rfl
        case hw15 => rfl
        try simp only [Act.put, List.setIfInBounds_toArray, List.set_cons_zero, List.set_cons_succ]
        refine take_yes (i := 15) (oi := ?o16) (d := (some 38)) (v := ?v16) ?hi16 (by kernel_rfl) (by kernel_rfl) (by kernel_rfl) (fun _ _ _ h => h) ?hd16 ?hw16 ?hy16 (by assumption) ?_
        case hi16 => (simp only [List.getElem?_toArray, List.getElem?_cons_zero, List.getElem?_cons_succ]; exact rfl)
        case hd16 => rfl
        case hw16 => rfl
        case hy16 => (intro w hSw; (try dsimp only at hSw); go_simp; try with_reducible rfl)
        try simp only [Act.put, List.setIfInBounds_toArray, List.set_cons_zero, List.set_cons_succ]
        refine take_yes (i := 16) (oi := ?o17) (d := (some 39)) (v := ?v17) ?hi17 (by kernel_rfl) (by kernel_rfl) (by kernel_rfl) (fun _ _ _ h => h) ?hd17 ?hw17 ?hy17 (by assumption) ?_
        case hi17 => (simp only [List.getElem?_toArray, List.getElem?_cons_zero, List.getElem?_cons_succ]; exact rfl)
        case hd17 => rfl
        case hw17 => rfl
        case hy17 => (intro w hSw; (try dsimp only at hSw); go_simp; try with_reducible rfl)
        try simp only [Act.put, List.setIfInBounds_toArray, List.set_cons_zero, List.set_cons_succ]
        refine take_yes (i := 17) (oi := ?o18) (d := (some 40)) (v := ?v18) ?hi18 (by kernel_rfl) (by kernel_rfl) (by kernel_rfl) (fun _ _ _ h => h) ?hd18 ?hw18 ?hy18 (by assumption) ?_
        case hi18 => (simp only [List.getElem?_toArray, List.getElem?_cons_zero, List.getElem?_cons_succ]; exact rfl)
        case hd18 => rfl
        case hw18 => rfl
        case hy18 => (intro w hSw; (try dsimp only at hSw); go_simp; try with_reducible rfl)
        try simp only [Act.put, List.setIfInBounds_toArray, List.set_cons_zero, List.set_cons_succ]
        refine take_yes (i := 18) (oi := ?o19) (d := (some 41)) (v := ?v19) ?hi19 (by kernel_rfl) (by kernel_rfl) (by kernel_rfl) (fun _ _ _ h => h) ?hd19 ?hw19 ?hy19 (by assumption) ?_
        case hi19 => (simp only [List.getElem?_toArray, List.getElem?_cons_zero, List.getElem?_cons_succ]; exact rfl)
        case hd19 => rfl
        case hw19 => rfl
        case hy19 => (intro w hSw; (try dsimp only at hSw); go_simp; try with_reducible rfl)
        try simp only [Act.put, List.setIfInBounds_toArray, List.set_cons_zero, List.set_cons_succ]
        refine take_yes (i := 19) (oi := ?o20) (d := (some 42)) (v := ?v20) ?hi20 (by kernel_rfl) (by kernel_rfl) (by kernel_rfl) (fun _ _ _ h => h) ?hd20 ?hw20 ?hy20 (by assumption) ?_
        case hi20 => (simp only [List.getElem?_toArray, List.getElem?_cons_zero, List.getElem?_cons_succ]; exact rfl)
        case hd20 => rfl
        case hw20 => rfl
        case hy20 => (intro w hSw; (try dsimp only at hSw); go_simp; try with_reducible rfl)
        try simp only [Act.put, List.setIfInBounds_toArray, List.set_cons_zero, List.set_cons_succ]
        refine take_yes (i := 20) (oi := ?o21) (d := (some 43)) (v := ?v21) ?hi21 (by kernel_rfl) (by kernel_rfl) (by kernel_rfl) (fun _ _ _ h => h) ?hd21 ?hw21 ?hy21 (by assumption) ?_
        case hi21 => (simp only [List.getElem?_toArray, List.getElem?_cons_zero, List.getElem?_cons_succ]; exact rfl)
        case hd21 => rfl
        case hw21 => rfl
        case hy21 => (intro w hSw; (try dsimp only at hSw); go_simp; try with_reducible rfl)
        try simp only [Act.put, List.setIfInBounds_toArray, List.set_cons_zero, List.set_cons_succ]
        refine take_yes (i := 21) (oi := ?o22) (d := (some 44)) (v := ?v22) ?hi22 (by kernel_rfl) (by kernel_rfl) (by kernel_rfl) (fun _ _ _ h => h) ?hd22 ?hw22 ?hy22 (by assumption) ?_
        case hi22 => (simp only [List.getElem?_toArray, List.getElem?_cons_zero, List.getElem?_cons_succ]; exact rfl)
        case hd22 => rfl
        case hw22 => rfl
        case hy22 => (intro w hSw; (try dsimp only at hSw); go_simp; try with_reducible rfl)
        try simp only [Act.put, List.setIfInBounds_toArray, List.set_cons_zero, List.set_cons_succ]
        refine take_yes (i := 22) (oi := ?o23) (d := (some 45)) (v := ?v23) ?hi23 (by kernel_rfl) (by kernel_rfl) (by kernel_rfl) (fun _ _ _ h => h) ?hd23 ?hw23 ?hy23 (by assumption) ?_
        case hi23 => (simp only [List.getElem?_toArray, List.getElem?_cons_zero, List.getElem?_cons_succ]; exact rfl)
        case hd23 => rfl
        case hw23 => rfl
        case hy23 => (intro w hSw; (try dsimp only at hSw); go_simp; try with_reducible rfl)
        try simp only [Act.put, List.setIfInBounds_toArray, List.set_cons_zero, List.set_cons_succ]
        refine take_yes (i := 23) (oi := ?o24) (d := (some 46)) (v := ?v24) ?hi24 (by kernel_rfl) (by kernel_rfl) (by kernel_rfl) (fun _ _ _ h => h) ?hd24 ?hw24 ?hy24 (by assumption) ?_
        case hi24 => (simp only [List.getElem?_toArray, List.getElem?_cons_zero, List.getElem?_cons_succ]; exact rfl)
        case hd24 => rfl
        case hw24 => rfl
        case hy24 => (intro w hSw; (try dsimp only at hSw); go_simp; try with_reducible rfl)
        try simp only [Act.put, List.setIfInBounds_toArray, List.set_cons_zero, List.set_cons_succ]
        refine take_yes (i := 24) (oi := ?o25) (d := (some 47)) (v := ?v25) ?hi25 (by kernel_rfl) (by kernel_rfl) (by kernel_rfl) (fun _ _ _ h => h) ?hd25 ?hw25 ?hy25 (by assumption) ?_
        case hi25 => (simp only [List.getElem?_toArray, List.getElem?_cons_zero, List.getElem?_cons_succ]; exact rfl)
        case hd25 => rfl
        case hw25 => rfl
        case hy25 => (intro w hSw; (try dsimp only at hSw); go_simp; try with_reducible rfl)
        try simp only [Act.put, List.setIfInBounds_toArray, List.set_cons_zero, List.set_cons_succ]
        refine take_yes (i := 25) (oi := ?o26) (d := (some 48)) (v := ?v26) ?hi26 (by kernel_rfl) (by kernel_rfl) (by kernel_rfl) (fun _ _ _ h => h) ?hd26 ?hw26 ?hy26 (by assumption) ?_
        case hi26 => (simp only [List.getElem?_toArray, List.getElem?_cons_zero, List.getElem?_cons_succ]; exact rfl)
        case hd26 => rfl
        case hw26 => rfl
        case hy26 => (intro w hSw; (try dsimp only at hSw); go_simp; try with_reducible rfl)
        try simp only [Act.put, List.setIfInBounds_toArray, List.set_cons_zero, List.set_cons_succ]
        refine take_yes (i := 26) (oi := ?o27) (d := (some 49)) (v := ?v27) ?hi27 (by kernel_rfl) (by kernel_rfl) (by kernel_rfl) (fun _ _ _ h => h) ?hd27 ?hw27 ?hy27 (by assumption) ?_
        case hi27 => (simp only [List.getElem?_toArray, List.getElem?_cons_zero, List.getElem?_cons_succ]; exact rfl)
        case hd27 => rfl
        case hw27 => rfl
        case hy27 => (intro w hSw; (try dsimp only at hSw); go_simp; try with_reducible rfl)
        try simp only [Act.put, List.setIfInBounds_toArray, List.set_cons_zero, List.set_cons_succ]
        refine take_yes (i := 27) (oi := ?o28) (d := (some 50)) (v := ?v28) ?hi28 (by kernel_rfl) (by kernel_rfl) (by kernel_rfl) (fun _ _ _ h => h) ?hd28 ?hw28 ?hy28 (by assumption) ?_
        case hi28 => (simp only [List.getElem?_toArray, List.getElem?_cons_zero, List.getElem?_cons_succ]; exact rfl)
        case hd28 => rfl
        case hw28 => rfl
        case hy28 => (intro w hSw; (try dsimp only at hSw); go_simp; try with_reducible rfl)
        try simp only [Act.put, List.setIfInBounds_toArray, List.set_cons_zero, List.set_cons_succ]
        refine take_yes (i := 28) (oi := ?o29) (d := (some 51)) (v := ?v29) ?hi29 (by kernel_rfl) (by kernel_rfl) (by kernel_rfl) (fun _ _ _ h => h) ?hd29 ?hw29 ?hy29 (by assumption) ?_
        case hi29 => (simp only [List.getElem?_toArray, List.getElem?_cons_zero, List.getElem?_cons_succ]; exact rfl)
        case hd29 => rfl
        case hw29 => rfl
        case hy29 => (intro w hSw; (try dsimp only at hSw); go_simp; try with_reducible rfl)
        try simp only [Act.put, List.setIfInBounds_toArray, List.set_cons_zero, List.set_cons_succ]
        refine take_yes (i := 29) (oi := ?o30) (d := (some 52)) (v := ?v30) ?hi30 (by kernel_rfl) (by kernel_rfl) (by kernel_rfl) (fun _ _ _ h => h) ?hd30 ?hw30 ?hy30 (by assumption) ?_
        case hi30 => (simp only [List.getElem?_toArray, List.getElem?_cons_zero, List.getElem?_cons_succ]; exact rfl)
        case hd30 => rfl
        case hw30 => rfl
        case hy30 => (intro w hSw; (try dsimp only at hSw); go_simp; try with_reducible rfl)
        try simp only [Act.put, List.setIfInBounds_toArray, List.set_cons_zero, List.set_cons_succ]
        refine wpAnyH_ready (rs := [30]) (by kernel_rfl) (by simp) ?_
        refine AllReadyH.cons rfl (fun K hK => ?_) AllReadyH.nil
        go_simp
        (go_at_call 84; refine (HMK.out _).mono ?_; rintro e w3 ⟨rfl, rfl⟩)
        go_wp2_with fail
        refine hK.out _ _ (by assumption) (fun hHeld30 => ?_)
        clear hK K
        try simp only [Act.put, List.setIfInBounds_toArray, List.set_cons_zero, List.set_cons_succ]
        refine take_yes (i := 31) (oi := ?o31) (d := (some 54)) (v := ?v31) ?hi31 (by kernel_rfl) (by kernel_rfl) (by kernel_rfl) (fun _ _ _ h => h) ?hd31 ?hw31 ?hy31 (by assumption) ?_
        case hi31 => (simp only [List.getElem?_toArray, List.getElem?_cons_zero, List.getElem?_cons_succ]; exact rfl)
        case hd31 => rfl
        case hw31 => rfl
        case hy31 => (intro w hSw; (try dsimp only at hSw); go_simp; try with_reducible rfl)
        try simp only [Act.put, List.setIfInBounds_toArray, List.set_cons_zero, List.set_cons_succ]
        refine take_yes (i := 32) (oi := ?o32) (d := (some 55)) (v := ?v32) ?hi32 (by kernel_rfl) (by kernel_rfl) (by kernel_rfl) (fun _ _ _ h => h) ?hd32 ?hw32 ?hy32 (by assumption) ?_
        case hi32 => (simp only [List.getElem?_toArray, List.getElem?_cons_zero, List.getElem?_cons_succ]; exact rfl)
        case hd32 => rfl
        case hw32 => rfl
        case hy32 => (intro w hSw; (try dsimp only at hSw); go_simp; try with_reducible rfl)
        try simp only [Act.put, List.setIfInBounds_toArray, List.set_cons_zero, List.set_cons_succ]
        refine take_yes (i := 33) (oi := ?o33) (d := (some 56)) (v := ?v33) ?hi33 (by kernel_rfl) (by kernel_rfl) (by kernel_rfl) (fun _ _ _ h => h) ?hd33 ?hw33 ?hy33 (by assumption) ?_
        case hi33 => (simp only [List.getElem?_toArray, List.getElem?_cons_zero, List.getElem?_cons_succ]; exact rfl)
        case hd33 => rfl
        case hw33 => rfl
        case hy33 => (intro w hSw; (try dsimp only at hSw); go_simp; try with_reducible rfl)
        try simp only [Act.put, List.setIfInBounds_toArray, List.set_cons_zero, List.set_cons_succ]
        refine take_yes (i := 34) (oi := ?o34) (d := (some 57)) (v := ?v34) ?hi34 (by kernel_rfl) (by kernel_rfl) (by kernel_rfl) (fun _ _ _ h => h) ?hd34 ?hw34 ?hy34 (by assumption) ?_
        case hi34 => (simp only [List.getElem?_toArray, List.getElem?_cons_zero, List.getElem?_cons_succ]; exact rfl)
        case hd34 => rfl
        case hw34 => rfl
        case hy34 => (intro w hSw; (try dsimp only at hSw); go_simp; try with_reducible rfl)
        try simp only [Act.put, List.setIfInBounds_toArray, List.set_cons_zero, List.set_cons_succ]
        refine wpAnyH_done (by kernel_rfl) ?_ _
        go_wp2_with fail
        go_roundw
        case rel => exact ⟨k + 1, _, by omega, by go_num, rfl⟩
        case measure => simp [intOf]; omega
      · obtain rfl : k = zs.length + 12 := by omega
        go_wp2_with fail
        go_ret
        exact ⟨rfl, ext_drewN (Below.refl _ _) _⟩

end Go.Proofs.YtpoijhjjbmaedaaGreatDoor.Cab
end

/- CabLentC: The kit's lent cabins: lent, kept, written over; lists of blocks compared. -/
section
namespace Go.Proofs.YtpoijhjjbmaedaaGreatDoor.Cab
open Go.RowKit

theorem lentC_head : True := trivial
def LentCabinOut (r wd : Int) (zs : List Int) (w : World) (e : Ending) (w' : World) : Prop := ∃ g cap, e = .returned (.agg #[.int .i64 r, .int .i64 wd, .slice (some ⟨g, 0, none⟩) zs.length cap]) ∧ w'.ownsRow w.heap.size 3 1 (.slice (some ⟨g, 0, none⟩) (zs.length + 12) cap) (zs.length + 12) (ints (zs ++ marks 1 12)) ∧ Below w.heap.size w w'
theorem LentInts (zs : List Int) (A : Option Addr) (c : Nat) (w : World) (hI : Ints w A zs) (hN : A = none → zs = [] ∧ c = 0) (hlen : zs.length ≤ 17592186043904) :
    Calls Tryz.prog 43 #[.slice A zs.length c] w (LentOut zs w) := by
  cases A with
  | none =>
    obtain ⟨h1, h2⟩ := hN rfl
    subst h2
    have := LentInts_none zs h1 w
    rw [show zs.length = 0 from by rw [h1]; rfl]
    exact this
  | some ad => exact LentInts_some zs ad c w hI hlen

-- gangwaykit.LentCabin
set_option maxRecDepth 100000 in
set_option maxHeartbeats 2000000 in
theorem LentCabin (r wd : Int) (zs : List Int) (A : Option Addr) (c : Nat) (w : World) (hI : Ints w A zs) (hN : A = none → zs = [] ∧ c = 0) (hlen : zs.length ≤ 17592186043904) :
    Calls Tryz.prog 14 #[.agg #[.int .i64 r, .int .i64 wd, .slice A zs.length c]] w (LentCabinOut r wd zs w) := by
  have HI := Lib.hid (hI.keep (ext_alloc (ext_alloc (Below.refl _ w) (.cells #[.int .i64 r, .int .i64 wd, .slice A zs.length c] 24)) (.cells #[.int .i64 0, .int .i64 0, .slice none 0 0] 24)))
  have HN := Lib.hid hN
  clear hI hN
  go_enter Tryz.func14, Tryz.ntmps14
  go_wp2_with fail
  refine (LentInts zs A c _ HI.out HN.out hlen).mono ?_
  rintro e w1 ⟨g, cap, rfl, hown, hb⟩
  have hown2 : w1.ownsRow (w.heap.size + 2) 3 1 (.slice (some ⟨g, 0, none⟩) (zs.length + 12) cap) (zs.length + 12) (ints (zs ++ marks 1 12)) := by simpa using hown
  have HOWN := Lib.hid hown2
  clear hown hown2
  have hA1 := ((Arr.fresh w 24 #[.int .i64 r, .int .i64 wd, .slice A zs.length c]).alloc (.cells #[.int .i64 0, .int .i64 0, .slice none 0 0] 24)).keep hb
  have hA2 := (Arr.new (w := w.alloc (.cells #[.int .i64 r, .int .i64 wd, .slice A zs.length c] 24)) (g := w.heap.size + 1) (t := 24) (cs := #[.int .i64 0, .int .i64 0, .slice none 0 0]) (by simp)).keep hb
  have hbw := ext_trans (ext_alloc (ext_alloc (Below.refl _ w) _) _) hb
  have x0 : w1.cell? ⟨w.heap.size, 0, none⟩ = some (.int .i64 r) := hA1.cell 0
  have x1 : w1.cell? ⟨w.heap.size, 1, none⟩ = some (.int .i64 wd) := hA1.cell 1
  have x2 : w1.cell? ⟨w.heap.size, 2, none⟩ = some (.slice A zs.length c) := hA1.cell 2
  have m2 := hA1.mark 2
  have y0 : w1.cell? ⟨w.heap.size + 1, 0, none⟩ = some (.int .i64 0) := hA2.cell 0
  have y1 : w1.cell? ⟨w.heap.size + 1, 1, none⟩ = some (.int .i64 0) := hA2.cell 1
  have y2 : w1.cell? ⟨w.heap.size + 1, 2, none⟩ = some (.slice none 0 0) := hA2.cell 2
  have n0 := hA2.mark 0
  have n1 := hA2.mark 1
  have n2 := hA2.mark 2
  have HA2 := Lib.hid hA2
  clear hA1 hA2
  go_wp2_with fail
  have hF := (((HA2.out.other (p := ⟨w.heap.size, 2, none⟩) (by simp) (.slice (some ⟨g, 0, none⟩) zs.length cap)).put 0 (.int .i64 r)).put 1 (.int .i64 wd)).put 2 (.slice (some ⟨g, 0, none⟩) zs.length cap)
  have hl := run_load_blk (P := Tryz.prog) 24 hF _ Tryz.underlying24 rfl size3
  refine bodyPost_ret (results_cell Tryz.results14 _ (by rfl) hl) rfl ⟨g, cap, rfl, ?_, ?_⟩
  · exact own_base_le (own_put (own_put (own_put (own_put HOWN.out (by simp) _) (by simp) _) (by simp) _) (by simp) _) (by omega)
  · exact ext_setCell (ext_setCell (ext_setCell (ext_setCell hbw (Nat.le_refl _) _) (Nat.le_succ _) _) (Nat.le_succ _) _) (Nat.le_succ _) _

-- gangwaykit.SameCabin, a cabin and its like
set_option maxRecDepth 100000 in
set_option maxHeartbeats 2000000 in
theorem SameCabin (r wd : Int) (zs : List Int) (A B : Option Addr) (c d : Nat) (w : World) (hI : Ints w A zs) (hJ : Ints w B zs) (hlen : zs.length ≤ 17592186043904) :
    Calls Tryz.prog 52 #[.agg #[.int .i64 r, .int .i64 wd, .slice A zs.length c], .agg #[.int .i64 r, .int .i64 wd, .slice B zs.length d]] w fun e w' => e = .returned (.bool true) ∧ Below w.heap.size w w' := by
  have HI := Lib.hid (hI.keep (ext_alloc (ext_alloc (Below.refl _ w) (.cells #[.int .i64 r, .int .i64 wd, .slice A zs.length c] 24)) (.cells #[.int .i64 r, .int .i64 wd, .slice B zs.length d] 24)))
  have HJ := Lib.hid (hJ.keep (ext_alloc (ext_alloc (Below.refl _ w) (.cells #[.int .i64 r, .int .i64 wd, .slice A zs.length c] 24)) (.cells #[.int .i64 r, .int .i64 wd, .slice B zs.length d] 24)))
  clear hI hJ
  go_enter Tryz.func52, Tryz.ntmps52
  go_wp2_with fail
  refine (SameInts zs A B c d _ HI.out HJ.out hlen).mono ?_
  rintro e w1 ⟨rfl, hb⟩
  have hbw := ext_trans (ext_alloc (ext_alloc (Below.refl _ w) _) _) hb
  go_wp2_with fail
  go_ret
  exact ⟨rfl, hbw⟩

-- gangwaykit.KeptCabin, a lent cabin that stayed
set_option maxRecDepth 100000 in
set_option maxHeartbeats 2000000 in
theorem KeptCabin (r wd : Int) (zs : List Int) (base g cap : Nat) (B : Option Addr) (d : Nat) (w : World) (hown : w.ownsRow base 3 1 (.slice (some ⟨g, 0, none⟩) (zs.length + 12) cap) (zs.length + 12) (ints (zs ++ marks 1 12))) (hJ : Ints w B zs) (hlen : zs.length ≤ 17592186043904) :
    Calls Tryz.prog 17 #[.agg #[.int .i64 r, .int .i64 wd, .slice (some ⟨g, 0, none⟩) zs.length cap], .agg #[.int .i64 r, .int .i64 wd, .slice B zs.length d]] w fun e w' => e = .returned (.bool true) ∧ Below w.heap.size w w' := by
  have hI : Ints w (some ⟨g, 0, none⟩) zs := fun _ => ⟨g, 0, rfl, (own_lt hown rfl).1, fun j hj => by rw [Nat.zero_add]; exact (lent_cell hown).1 j hj⟩
  have hext := ext_alloc (ext_alloc (Below.refl w.heap.size w) (.cells #[.int .i64 r, .int .i64 wd, .slice (some ⟨g, 0, none⟩) zs.length cap] 24)) (.cells #[.int .i64 r, .int .i64 wd, .slice B zs.length d] 24)
  have HI := Lib.hid (hI.keep hext)
  have HJ := Lib.hid (hJ.keep hext)
  have HOWN := Lib.hid (own_keep hown hext)
  clear hI hJ hown hext
  go_enter Tryz.func17, Tryz.ntmps17
  go_wp2_with fail
  refine (SameCabin r wd zs _ B cap d _ HI.out HJ.out hlen).mono ?_
  rintro e w1 ⟨rfl, hb⟩
  have hbw := ext_trans (ext_alloc (ext_alloc (Below.refl _ w) _) _) hb
  have hA1 := ((Arr.fresh w 24 #[.int .i64 r, .int .i64 wd, .slice (some ⟨g, 0, none⟩) zs.length cap]).alloc (.cells #[.int .i64 r, .int .i64 wd, .slice B zs.length d] 24)).keep hb
  have hA2 := (Arr.new (w := w.alloc (.cells #[.int .i64 r, .int .i64 wd, .slice (some ⟨g, 0, none⟩) zs.length cap] 24)) (g := w.heap.size + 1) (t := 24) (cs := #[.int .i64 r, .int .i64 wd, .slice B zs.length d]) (by simp)).keep hb
  have HJ1 := Lib.hid (HJ.out.keep hb)
  have HOWN1 := Lib.hid (own_keep HOWN.out hb)
  have x2 : w1.cell? ⟨w.heap.size, 2, none⟩ = some (.slice (some ⟨g, 0, none⟩) zs.length cap) := hA1.cell 2
  have y2 : w1.cell? ⟨w.heap.size + 1, 2, none⟩ = some (.slice B zs.length d) := hA2.cell 2
  clear hb hA1 hA2
  go_wp2_with fail
  refine (KeptInts zs base g cap B d _ HOWN1.out HJ1.out hlen).mono ?_
  rintro e w2 ⟨rfl, hb⟩
  have hbx := ext_trans hbw hb
  go_wp2_with fail
  go_ret
  exact ⟨rfl, hbx⟩

end Go.Proofs.YtpoijhjjbmaedaaGreatDoor.Cab
end
