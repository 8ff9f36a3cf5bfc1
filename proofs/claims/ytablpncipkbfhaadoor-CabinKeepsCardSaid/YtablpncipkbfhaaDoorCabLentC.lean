/- The kit's lent cabins: lent, kept, written over; lists of blocks compared. -/
import Derived.Test.YtablpncipkbfhaaDoorCabKept
namespace Go.Proofs.YtablpncipkbfhaaDoor.Cab
open Go.RowKit

-- gangwaykit.SameSpans, two lists of the same blocks
set_option maxRecDepth 100000 in
set_option maxHeartbeats 2000000 in
theorem SameSpans (l : List (Nat × Nat)) (b1 b2 : Nat) (v1 v2 : Value) (w : World) (h1 : w.ownsRow b1 59 2 v1 l.length (spans l)) (h2 : w.ownsRow b2 59 2 v2 l.length (spans l)) (hl : l.length ≤ 100000) :
    Calls Tryd.prog 31 #[v1, v2] w fun e w' => e = .returned (.bool true) ∧ Below w.heap.size w w' := by
  obtain ⟨A1, c1, rfl⟩ := own_slice h1
  obtain ⟨A2, c2, rfl⟩ := own_slice h2
  have H1 := Lib.hid h1; have H2 := Lib.hid h2
  clear h1 h2
  go_enter Tryd.func31, Tryd.ntmps31
  go_wp2_with fail
  go_loopw [5] (fun i wr => ∃ k n : Nat, k ≤ l.length ∧ i = .int .i64 k ∧ wr = w.drewN n) (fun i _ => (l.length - intOf i).toNat)
  case atStart => exact ⟨0, 0, by omega, rfl, rfl⟩
  case round =>
    obtain ⟨k, n, hk, rfl, rfl⟩ := hrel
    by_cases h : k < l.length
    · obtain ⟨g1, d1, e1⟩ := own_forms H1.out (by intro e; injection e with _ e; omega)
      obtain ⟨g2, d2, e2⟩ := own_forms H2.out (by intro e; injection e with _ e; omega)
      injection e1 with e1 _ f1
      injection e2 with e2 _ f2
      subst e1 e2 f1 f2
      obtain ⟨s0, s1⟩ := spans_at h
      have p0 := (H1.out.cellAt (k * 2) (by omega)).trans s0
      have p1 := (H1.out.cellAt (k * 2 + 1) (by omega)).trans s1
      have q0 := (H2.out.cellAt (k * 2) (by omega)).trans s0
      have q1 := (H2.out.cellAt (k * 2 + 1) (by omega)).trans s1
      clear s0 s1
      have h0 : (0 : Int) ≤ (k : Int) := by omega
      have h9 : (k : Int) < (l.length : Int) := by omega
      generalize ((l[k]).1 : Int) = X at *
      generalize ((l[k]).2 : Int) = Y at *
      go_wp2_with fail
      refine wp_region_quiet_lit (by kernel_rfl) (by kernel_rfl) ?_
      repeat (first | go_big_quiet_step ((fail)) | quiet_step ((fail)))
      refine wpQuiet_nil ?_
      intro _ hw'
      obtain ⟨nq, hw''⟩ := hw'
      subst hw''
      go_wp2_with fail
      go_roundw
      case rel => exact ⟨k + 1, _, by omega, by go_num, rfl⟩
      case measure => simp [intOf]; omega
    · obtain rfl : k = l.length := by omega
      go_wp2_with fail
      go_ret
      exact ⟨rfl, ext_drewN (Below.refl _ _) _⟩

def LentCabinOut (r wd : Int) (zs : List Int) (w : World) (e : Ending) (w' : World) : Prop := ∃ g cap, e = .returned (.agg #[.int .i64 r, .int .i64 wd, .slice (some ⟨g, 0, none⟩) zs.length cap]) ∧ w'.ownsRow w.heap.size 3 1 (.slice (some ⟨g, 0, none⟩) (zs.length + 12) cap) (zs.length + 12) (ints (zs ++ marks 1 12)) ∧ Below w.heap.size w w'
theorem LentInts (zs : List Int) (A : Option Addr) (c : Nat) (w : World) (hI : Ints w A zs) (hN : A = none → zs = [] ∧ c = 0) (hlen : zs.length ≤ 17592186043904) :
    Calls Tryd.prog 43 #[.slice A zs.length c] w (LentOut zs w) := by
  cases A with
  | none =>
    obtain ⟨h1, h2⟩ := hN rfl
    subst h2
    have := LentInts_none zs h1 w
    rw [show zs.length = 0 from by rw [h1]; rfl]
    exact this
  | some ad => exact LentInts_some zs ad c w hI hlen

-- gangwaykit.LentCabin
set_option maxRecDepth 100000 in
set_option maxHeartbeats 2000000 in
theorem LentCabin (r wd : Int) (zs : List Int) (A : Option Addr) (c : Nat) (w : World) (hI : Ints w A zs) (hN : A = none → zs = [] ∧ c = 0) (hlen : zs.length ≤ 17592186043904) :
    Calls Tryd.prog 24 #[.agg #[.int .i64 r, .int .i64 wd, .slice A zs.length c]] w (LentCabinOut r wd zs w) := by
  have HI := Lib.hid (hI.keep (ext_alloc (ext_alloc (Below.refl _ w) (.cells #[.int .i64 r, .int .i64 wd, .slice A zs.length c] 24)) (.cells #[.int .i64 0, .int .i64 0, .slice none 0 0] 24)))
  have HN := Lib.hid hN
  clear hI hN
  go_enter Tryd.func24, Tryd.ntmps24
  go_wp2_with fail
  refine (LentInts zs A c _ HI.out HN.out hlen).mono ?_
  rintro e w1 ⟨g, cap, rfl, hown, hb⟩
  have hown2 : w1.ownsRow (w.heap.size + 2) 3 1 (.slice (some ⟨g, 0, none⟩) (zs.length + 12) cap) (zs.length + 12) (ints (zs ++ marks 1 12)) := by simpa using hown
  have HOWN := Lib.hid hown2
  clear hown hown2
  have hA1 := ((Arr.fresh w 24 #[.int .i64 r, .int .i64 wd, .slice A zs.length c]).alloc (.cells #[.int .i64 0, .int .i64 0, .slice none 0 0] 24)).keep hb
  have hA2 := (Arr.new (w := w.alloc (.cells #[.int .i64 r, .int .i64 wd, .slice A zs.length c] 24)) (g := w.heap.size + 1) (t := 24) (cs := #[.int .i64 0, .int .i64 0, .slice none 0 0]) (by simp)).keep hb
  have hbw := ext_trans (ext_alloc (ext_alloc (Below.refl _ w) _) _) hb
  have x0 : w1.cell? ⟨w.heap.size, 0, none⟩ = some (.int .i64 r) := hA1.cell 0
  have x1 : w1.cell? ⟨w.heap.size, 1, none⟩ = some (.int .i64 wd) := hA1.cell 1
  have x2 : w1.cell? ⟨w.heap.size, 2, none⟩ = some (.slice A zs.length c) := hA1.cell 2
  have m2 := hA1.mark 2
  have y0 : w1.cell? ⟨w.heap.size + 1, 0, none⟩ = some (.int .i64 0) := hA2.cell 0
  have y1 : w1.cell? ⟨w.heap.size + 1, 1, none⟩ = some (.int .i64 0) := hA2.cell 1
  have y2 : w1.cell? ⟨w.heap.size + 1, 2, none⟩ = some (.slice none 0 0) := hA2.cell 2
  have n0 := hA2.mark 0
  have n1 := hA2.mark 1
  have n2 := hA2.mark 2
  have HA2 := Lib.hid hA2
  clear hA1 hA2
  go_wp2_with fail
  have hF := (((HA2.out.other (p := ⟨w.heap.size, 2, none⟩) (by simp) (.slice (some ⟨g, 0, none⟩) zs.length cap)).put 0 (.int .i64 r)).put 1 (.int .i64 wd)).put 2 (.slice (some ⟨g, 0, none⟩) zs.length cap)
  have hl := run_load_blk (P := Tryd.prog) 24 hF _ Tryd.underlying24 rfl size3
  refine bodyPost_ret (results_cell Tryd.results24 _ (by rfl) hl) rfl ⟨g, cap, rfl, ?_, ?_⟩
  · exact own_base_le (own_put (own_put (own_put (own_put HOWN.out (by simp) _) (by simp) _) (by simp) _) (by simp) _) (by omega)
  · exact ext_setCell (ext_setCell (ext_setCell (ext_setCell hbw (Nat.le_refl _) _) (Nat.le_succ _) _) (Nat.le_succ _) _) (Nat.le_succ _) _

-- gangwaykit.SameCabin, a cabin and its like
set_option maxRecDepth 100000 in
set_option maxHeartbeats 2000000 in
theorem SameCabin (r wd : Int) (zs : List Int) (A B : Option Addr) (c d : Nat) (w : World) (hI : Ints w A zs) (hJ : Ints w B zs) (hlen : zs.length ≤ 17592186043904) :
    Calls Tryd.prog 44 #[.agg #[.int .i64 r, .int .i64 wd, .slice A zs.length c], .agg #[.int .i64 r, .int .i64 wd, .slice B zs.length d]] w fun e w' => e = .returned (.bool true) ∧ Below w.heap.size w w' := by
  have HI := Lib.hid (hI.keep (ext_alloc (ext_alloc (Below.refl _ w) (.cells #[.int .i64 r, .int .i64 wd, .slice A zs.length c] 24)) (.cells #[.int .i64 r, .int .i64 wd, .slice B zs.length d] 24)))
  have HJ := Lib.hid (hJ.keep (ext_alloc (ext_alloc (Below.refl _ w) (.cells #[.int .i64 r, .int .i64 wd, .slice A zs.length c] 24)) (.cells #[.int .i64 r, .int .i64 wd, .slice B zs.length d] 24)))
  clear hI hJ
  go_enter Tryd.func44, Tryd.ntmps44
  go_wp2_with fail
  refine (SameInts zs A B c d _ HI.out HJ.out hlen).mono ?_
  rintro e w1 ⟨rfl, hb⟩
  have hbw := ext_trans (ext_alloc (ext_alloc (Below.refl _ w) _) _) hb
  go_wp2_with fail
  go_ret
  exact ⟨rfl, hbw⟩

-- gangwaykit.KeptCabin, a lent cabin that stayed
set_option maxRecDepth 100000 in
set_option maxHeartbeats 2000000 in
theorem KeptCabin (r wd : Int) (zs : List Int) (base g cap : Nat) (B : Option Addr) (d : Nat) (w : World) (hown : w.ownsRow base 3 1 (.slice (some ⟨g, 0, none⟩) (zs.length + 12) cap) (zs.length + 12) (ints (zs ++ marks 1 12))) (hJ : Ints w B zs) (hlen : zs.length ≤ 17592186043904) :
    Calls Tryd.prog 29 #[.agg #[.int .i64 r, .int .i64 wd, .slice (some ⟨g, 0, none⟩) zs.length cap], .agg #[.int .i64 r, .int .i64 wd, .slice B zs.length d]] w fun e w' => e = .returned (.bool true) ∧ Below w.heap.size w w' := by
  have hI : Ints w (some ⟨g, 0, none⟩) zs := fun _ => ⟨g, 0, rfl, (own_lt hown rfl).1, fun j hj => by rw [Nat.zero_add]; exact (lent_cell hown).1 j hj⟩
  have hext := ext_alloc (ext_alloc (Below.refl w.heap.size w) (.cells #[.int .i64 r, .int .i64 wd, .slice (some ⟨g, 0, none⟩) zs.length cap] 24)) (.cells #[.int .i64 r, .int .i64 wd, .slice B zs.length d] 24)
  have HI := Lib.hid (hI.keep hext)
  have HJ := Lib.hid (hJ.keep hext)
  have HOWN := Lib.hid (own_keep hown hext)
  clear hI hJ hown hext
  go_enter Tryd.func29, Tryd.ntmps29
  go_wp2_with fail
  refine (SameCabin r wd zs _ B cap d _ HI.out HJ.out hlen).mono ?_
  rintro e w1 ⟨rfl, hb⟩
  have hbw := ext_trans (ext_alloc (ext_alloc (Below.refl _ w) _) _) hb
  have hA1 := ((Arr.fresh w 24 #[.int .i64 r, .int .i64 wd, .slice (some ⟨g, 0, none⟩) zs.length cap]).alloc (.cells #[.int .i64 r, .int .i64 wd, .slice B zs.length d] 24)).keep hb
  have hA2 := (Arr.new (w := w.alloc (.cells #[.int .i64 r, .int .i64 wd, .slice (some ⟨g, 0, none⟩) zs.length cap] 24)) (g := w.heap.size + 1) (t := 24) (cs := #[.int .i64 r, .int .i64 wd, .slice B zs.length d]) (by simp)).keep hb
  have HJ1 := Lib.hid (HJ.out.keep hb)
  have HOWN1 := Lib.hid (own_keep HOWN.out hb)
  have x2 : w1.cell? ⟨w.heap.size, 2, none⟩ = some (.slice (some ⟨g, 0, none⟩) zs.length cap) := hA1.cell 2
  have y2 : w1.cell? ⟨w.heap.size + 1, 2, none⟩ = some (.slice B zs.length d) := hA2.cell 2
  clear hb hA1 hA2
  go_wp2_with fail
  refine (KeptInts zs base g cap B d _ HOWN1.out HJ1.out hlen).mono ?_
  rintro e w2 ⟨rfl, hb⟩
  have hbx := ext_trans hbw hb
  go_wp2_with fail
  go_ret
  exact ⟨rfl, hbx⟩

-- gangwaykit.OverCabin
set_option maxRecDepth 100000 in
set_option maxHeartbeats 2000000 in
theorem OverCabin (r wd : Int) (n base g cap : Nat) (xs : List Value) (w : World) (hown : w.ownsRow base 3 1 (.slice (some ⟨g, 0, none⟩) (n + 12) cap) (n + 12) xs) (hn : n ≤ 17592186043904) :
    Calls Tryd.prog 30 #[.agg #[.int .i64 r, .int .i64 wd, .slice (some ⟨g, 0, none⟩) n cap]] w fun e w' => (∃ v, e = .returned v) ∧ w.grownBy w' (some g) := by
  have HOWN := Lib.hid (own_alloc hown (.cells #[.int .i64 r, .int .i64 wd, .slice (some ⟨g, 0, none⟩) n cap] 24))
  clear hown
  go_enter Tryd.func30, Tryd.ntmps30
  go_wp2_with fail
  refine (OverInts n base g cap xs _ HOWN.out hn).mono ?_
  rintro e w1 ⟨⟨v, rfl⟩, hg⟩
  have hgw := (World.grownBy_alloc w _ (some g)).trans hg
  go_wp2_with fail
  exact bodyPost_end (results_none Tryd.results30 _ _ _) rfl ⟨⟨_, rfl⟩, hgw⟩

end Go.Proofs.YtablpncipkbfhaaDoor.Cab
