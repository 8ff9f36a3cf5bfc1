/- The contracts of the kit's copies: CopyInts, CopyCabin; the laws' thirty, awake. -/
import Derived.Test.YtablpncipkbfhaaDoorCab5
import Derived.Test.YtablpncipkbfhaaDoorCabAns
import Derived.Laws.AppendOwnNone
import Derived.OwnWalk
namespace Go.Proofs.YtablpncipkbfhaaDoor.Cab
open Go.RowKit

theorem int_info : (Tryd.prog.info? 3).map (fun i => (i.zero, i.size, i.bytes)) = some (some (.int .i64 0), 1, 8) := by kernel_rfl
def ints (zs : List Int) : List Value := zs.map (Value.int .i64)
theorem ints_at {zs : List Int} {j : Nat} {u : Value} (h : (ints zs)[j]? = some u) : j < zs.length ∧ u = .int .i64 (zs.getD j 0) := by
  unfold ints at h
  rw [List.getElem?_map] at h
  obtain ⟨v, h1, h2⟩ := Option.map_eq_some_iff.1 h
  obtain ⟨h3, h4⟩ := List.getElem?_eq_some_iff.1 h1
  exact ⟨h3, by rw [← h2, List.getD_eq_getElem?_getD, h1]; rfl⟩
theorem ints_get {zs : List Int} {j : Nat} (h : j < zs.length) : (ints zs)[j]? = some (.int .i64 (zs.getD j 0)) := by
  unfold ints
  rw [List.getElem?_map, List.getElem?_eq_getElem h, List.getD_eq_getElem?_getD, List.getElem?_eq_getElem h]; rfl
theorem ints_one {zs : List Int} : ∀ u ∈ ints zs, u.oneCell' = true := by
  intro u hu
  unfold ints at hu
  obtain ⟨z, _, rfl⟩ := List.mem_map.1 hu
  rfl
theorem ints_len (zs : List Int) : (ints zs).length = zs.length := by simp [ints]

theorem Ints.set {w : World} {A : Option Addr} {zs : List Int} (h : Ints w A zs) {p : Addr} (hp : ∀ b off, A = some ⟨b, off, none⟩ → b ≠ p.block) (u : Value) : Ints (w.setCell p u) A zs := fun hn => by
  obtain ⟨b, off, h1, h2, h3⟩ := h hn
  refine ⟨b, off, h1, by rw [World.size_setCell]; exact h2, fun j hj => ?_⟩
  rw [World.cell?_setCell_other _ _ _ _ (fun e => hp b off h1 (by rw [e]))]
  exact h3 j hj
/-- an owned row of ints, as a slice -/
theorem own_ints {w : World} {base n : Nat} {v : Value} {zs : List Int} (h : w.ownsRow base 3 1 v n (ints zs)) : ∃ A c, v = .slice A zs.length c ∧ Ints w A zs ∧ (∀ b off, A = some ⟨b, off, none⟩ → base ≤ b) ∧ n = zs.length := by
  have hn : n = zs.length := by have := h.1; rw [ints_len] at this; omega
  subst hn
  rcases h.2 with ⟨rfl, h2⟩ | ⟨g, cap, cur, rfl, hb, hh, hc, hm, hs, ht⟩
  · exact ⟨none, 0, by rw [h2], fun hne => absurd (List.length_eq_zero_iff.1 h2) hne, (fun _ _ h => by cases h), rfl⟩
  · refine ⟨some ⟨g, 0, none⟩, cap, rfl, fun _ => ⟨g, 0, rfl, (Array.getElem?_eq_some_iff.1 hh).1, fun j hj => ?_⟩, (fun b off h => by injection h with h; injection h with h; omega), rfl⟩
    rw [Nat.zero_add, h.cellAt j (by omega)]
    exact ints_get hj

def IntsOut (zs : List Int) (w : World) (e : Ending) (w' : World) : Prop := ∃ A' c', e = .returned (.slice A' zs.length c') ∧ Ints w' A' zs ∧ (∀ b off, A' = some ⟨b, off, none⟩ → w.heap.size ≤ b) ∧ Below w.heap.size w w'

-- gangwaykit.CopyInts
set_option maxRecDepth 100000 in
set_option maxHeartbeats 1000000 in
theorem CopyInts (zs : List Int) (A : Option Addr) (c : Nat) (w : World) (hI : Ints w A zs) (hN : A = none → zs = [] ∧ c = 0) (hlen : zs.length ≤ 17592186043904) :
    Calls Tryd.prog 38 #[.slice A zs.length c] w (IntsOut zs w) := by
  obtain ⟨i0, hi, hz0, hz1, hz2⟩ := info_parts int_info
  cases A with
  | none =>
    obtain ⟨rfl, rfl⟩ := hN rfl
    go_enter Tryd.func38, Tryd.ntmps38
    go_wp2_with (at_builtin; refine wpList_append_own_none rfl (.tmp 4) (.tmp 5) 22 rfl w.heap.size 3 i0 1 Tryd.underlying22 hi (.slice none 0 0) 0 [] rfl ⟨by simp, .inl ⟨rfl, rfl⟩⟩ rfl ?_)
    go_ret
    exact ⟨none, 0, rfl, fun h => absurd rfl h, (fun _ _ h => by cases h), Below.refl _ _⟩
  | some ad =>
    have hcell : ∀ j u, (ints zs)[j]? = some u → w.cell? (ad.add j) = some u := fun j u hu => by
      obtain ⟨hj, rfl⟩ := ints_at hu
      obtain ⟨b, off, hA, hb, h⟩ := hI (by intro e; subst e; simp at hj)
      obtain rfl := Option.some.inj hA
      have := h j hj
      rw [← this]
      congr 1
      unfold Addr.add; split
      · subst_vars; rfl
      · rfl
    have HC := Lib.hid hcell
    clear hcell hI hN
    go_enter Tryd.func38, Tryd.ntmps38
    go_wp2_with (at_builtin; refine wpList_append_own _ rfl (.tmp 4) (.tmp 5) 22 rfl w.heap.size 3 i0 (.int .i64 0) 1 8 Tryd.underlying22 hi hz0 hz1 hz2 rfl (by decide) (.slice none 0 0) 0 [] rfl ⟨by simp, .inl ⟨rfl, rfl⟩⟩ ad zs.length c (ints zs) rfl (by rw [ints_len]; omega) HC.out ints_one (by unfold maxLen; omega) (by omega) (Nat.le_refl _) ?_; intro v1 w1 hown hg hnil)
    go_ret
    obtain ⟨A', c', rfl, h1, h3, h2⟩ := own_ints (by simpa using hown)
    exact ⟨A', c', rfl, h1, h3, (Below.refl _ _).grown hg (Nat.le_refl _) (by simp [Value.ownBlock])⟩

def CabinOut (r wd : Int) (zs : List Int) (w : World) (e : Ending) (w' : World) : Prop := ∃ A' c', e = .returned (.agg #[.int .i64 r, .int .i64 wd, .slice A' zs.length c']) ∧ Ints w' A' zs ∧ Below w.heap.size w w'

-- gangwaykit.CopyCabin
theorem size3 : (Tryd.prog.info? 24).map (·.size) = some 3 := by kernel_rfl
set_option maxRecDepth 100000 in
set_option maxHeartbeats 1000000 in
theorem CopyCabin (r wd : Int) (zs : List Int) (A : Option Addr) (c : Nat) (w : World) (hI : Ints w A zs) (hN : A = none → zs = [] ∧ c = 0) (hlen : zs.length ≤ 17592186043904) :
    Calls Tryd.prog 12 #[.agg #[.int .i64 r, .int .i64 wd, .slice A zs.length c]] w (CabinOut r wd zs w) := by
  have HI := Lib.hid (hI.keep (ext_alloc (ext_alloc (Below.refl _ w) (.cells #[.int .i64 r, .int .i64 wd, .slice A zs.length c] 24)) (.cells #[.int .i64 0, .int .i64 0, .slice none 0 0] 24)))
  have HN := Lib.hid hN
  clear hI hN
  go_enter Tryd.func12, Tryd.ntmps12
  go_wp2_with fail
  refine (CopyInts zs A c _ HI.out HN.out hlen).mono ?_
  rintro e w1 ⟨A', c', rfl, hi, hat, hb⟩
  have hat2 : ∀ b off, A' = some ⟨b, off, none⟩ → w.heap.size + 2 ≤ b := fun b off h => by have := hat b off h; simpa using this
  have HAT := Lib.hid hat2
  clear hat hat2
  have HI1 := Lib.hid hi
  have hA1 := ((Arr.fresh w 24 #[.int .i64 r, .int .i64 wd, .slice A zs.length c]).alloc (.cells #[.int .i64 0, .int .i64 0, .slice none 0 0] 24)).keep hb
  have hA2 := (Arr.new (w := w.alloc (.cells #[.int .i64 r, .int .i64 wd, .slice A zs.length c] 24)) (g := w.heap.size + 1) (t := 24) (cs := #[.int .i64 0, .int .i64 0, .slice none 0 0]) (by simp)).keep hb
  have hbw := ext_trans (ext_alloc (ext_alloc (Below.refl _ w) _) _) hb
  have x0 : w1.cell? ⟨w.heap.size, 0, none⟩ = some (.int .i64 r) := hA1.cell 0
  have x1 : w1.cell? ⟨w.heap.size, 1, none⟩ = some (.int .i64 wd) := hA1.cell 1
  have x2 : w1.cell? ⟨w.heap.size, 2, none⟩ = some (.slice A zs.length c) := hA1.cell 2
  have m2 := hA1.mark 2
  have y0 : w1.cell? ⟨w.heap.size + 1, 0, none⟩ = some (.int .i64 0) := hA2.cell 0
  have y1 : w1.cell? ⟨w.heap.size + 1, 1, none⟩ = some (.int .i64 0) := hA2.cell 1
  have y2 : w1.cell? ⟨w.heap.size + 1, 2, none⟩ = some (.slice none 0 0) := hA2.cell 2
  have n0 := hA2.mark 0
  have n1 := hA2.mark 1
  have n2 := hA2.mark 2
  have HA2 := Lib.hid hA2
  clear hA1 hA2
  go_wp2_with fail
  have hF := (((HA2.out.other (p := ⟨w.heap.size, 2, none⟩) (by simp) (.slice A' zs.length c')).put 0 (.int .i64 r)).put 1 (.int .i64 wd)).put 2 (.slice A' zs.length c')
  have hl := run_load_blk (P := Tryd.prog) 24 hF _ Tryd.underlying24 rfl size3
  refine bodyPost_ret (results_cell Tryd.results12 _ (by rfl) hl) rfl ⟨A', c', rfl, ?_, ?_⟩
  · refine (((HI1.out.set (fun b off h => ?_) _).set (fun b off h => ?_) _).set (fun b off h => ?_) _).set (fun b off h => ?_) _
    all_goals have := HAT.out b off h; simp only; omega
  · exact ext_setCell (ext_setCell (ext_setCell (ext_setCell hbw (Nat.le_refl _) _) (Nat.le_succ _) _) (Nat.le_succ _) _) (Nat.le_succ _) _

end Go.Proofs.YtablpncipkbfhaaDoor.Cab
