/- The kit's Pick, the laws' some. -/
import Derived.Test.YtablpncipkbfhaaDoorKit5
import Derived.Test.YtablpncipkbfhaaDoorCabPlain3
import Derived.Test.YtablpncipkbfhaaDoorCab9
namespace Go.Proofs.YtablpncipkbfhaaDoor.Cab
open Go.RowKit

-- gangwaykit.Pick
set_option maxRecDepth 100000 in
set_option maxHeartbeats 1000000 in
theorem Pick (x n : Int) (h1 : 1 ≤ n) (h2 : n ≤ 1024) (w : World) :
    Calls Tryd.prog 18 #[.int .i64 x, .int .i64 n] w fun e w' => e = .returned (.int .i64 (x % n)) ∧ w' = w := by
  have e0 : ¬ n = 0 := by omega
  have p0 := Int.emod_nonneg x (show n ≠ 0 by omega)
  have p1 := Int.emod_lt_of_pos x (show 0 < n by omega)
  have e1 : (0 ≤ x.tmod n ∧ x.tmod n = x % n) ∨ (x.tmod n < 0 ∧ -n < x.tmod n ∧ x.tmod n + n = x % n) := by
    rw [Int.tmod_eq_emod]
    split
    · left; omega
    · rename_i h
      have : ¬ x % n = 0 := fun h0 => h (.inr (Int.dvd_of_emod_eq_zero h0))
      rw [show ((n.natAbs : Nat) : Int) = n from by omega]
      right; omega
  rcases e1 with ⟨hn, hq⟩ | ⟨hn, hm, hq⟩
  · have v1 : IntKind.i64.wrap (x.tmod n) = x.tmod n := IntWalk.i64_in _ (by omega)
    have HQ := Lib.hid hq
    clear hq
    go_enter Tryd.func18, Tryd.ntmps18
    go_wp2_with fail
    go_ret
    exact ⟨by rw [← HQ.out]; rfl, rfl⟩
  · have v1 : IntKind.i64.wrap (x.tmod n) = x.tmod n := IntWalk.i64_in _ (by omega)
    have v2 : IntKind.i64.wrap (x.tmod n + n) = x.tmod n + n := IntWalk.i64_in _ (by omega)
    have HQ := Lib.hid hq
    clear hq
    go_enter Tryd.func18, Tryd.ntmps18
    go_wp2_with fail
    go_ret
    exact ⟨by rw [← HQ.out]; rfl, rfl⟩

def SomeOut (r wd : Int) (zs : List Int) (w : World) (e : Ending) (w' : World) : Prop := ∃ A c, e = .returned (.agg #[.int .i64 r, .int .i64 wd, .slice A zs.length c]) ∧ Ints w' A zs ∧ Below w.heap.size w w'
/-- is bit a of n set? -/
def bitB (n : Int) (a : Nat) : Bool := Go.bits BinOp.and IntKind.i64 (n / 2 ^ a) 1 == 1

-- gangwaylaw14.some
set_option maxRecDepth 100000 in
set_option maxHeartbeats 1000000 in
theorem Some (x y bits : Int) (w : World) :
    Calls Tryd.prog 14 #[.int .i64 x, .int .i64 y, .int .i64 bits] w (SomeOut (1 + x % 64) (1 + y % 16) (som (bitB bits) ((1 + y % 16).toNat - 1)) w) := by
  have px0 := Int.emod_nonneg x (show (64 : Int) ≠ 0 by omega)
  have px1 := Int.emod_lt_of_pos x (show (0 : Int) < 64 by omega)
  have py0 := Int.emod_nonneg y (show (16 : Int) ≠ 0 by omega)
  have py1 := Int.emod_lt_of_pos y (show (0 : Int) < 16 by omega)
  generalize hr : 1 + x % 64 = r at *
  generalize hd : 1 + y % 16 = wd at *
  have b1 : 1 ≤ r ∧ r ≤ 64 ∧ 1 ≤ wd ∧ wd ≤ 16 := by omega
  obtain ⟨r1, r2, r3, r4⟩ := b1
  have HR := Lib.hid hr; have HD := Lib.hid hd
  clear hr hd px0 px1 py0 py1
  obtain ⟨i0, hi, hz0, hz1, hz2⟩ := info_parts int_info
  go_enter Tryd.func14, Tryd.ntmps14
  go_wp2_with fail
  refine (Pick x 64 (by decide) (by decide) _).mono ?_
  rintro e w1 ⟨rfl, hw⟩
  subst hw
  rw [← HR.out]
  go_wp2_with fail
  refine (Pick y 16 (by decide) (by decide) _).mono ?_
  rintro e w1 ⟨rfl, hw⟩
  subst hw
  go_wp2_with fail
  rw [HR.out, HD.out]
  go_loopw [8] (fun i wr => ∃ (k : Nat) (v : Value), 1 ≤ k ∧ (k : Int) ≤ wd ∧ i = .int .i64 k ∧ Arr wr w.heap.size 24 #[.int .i64 0, .int .i64 0, .slice none 0 0] ∧ Arr wr (w.heap.size + 1) 24 #[.int .i64 r, .int .i64 wd, v] ∧
    wr.ownsRow (w.heap.size + 2) 3 1 v (som (bitB bits) (k - 1)).length (ints (som (bitB bits) (k - 1))) ∧ Below w.heap.size w wr) (fun i _ => (wd - intOf i).toNat)
  case atStart =>
    have hF := Arr.new (w := w.alloc (.cells #[.int .i64 0, .int .i64 0, .slice none 0 0] 24)) (g := w.heap.size + 1) (t := 24) (cs := #[.int .i64 r, .int .i64 wd, .slice none 0 0]) (by simp)
    exact ⟨1, .slice none 0 0, by omega, by omega, rfl, (Arr.fresh w _ _).alloc _, hF, own_nil _ _ _ _, ext_alloc (ext_alloc (Below.refl _ w) _) _⟩
  case round =>
    obtain ⟨k, v, hk1, hk, rfl, hA0, hA1, hown, hb⟩ := hrel
    obtain ⟨A, c, rfl, hI, hat, _⟩ := own_ints hown
    have x0 : wr.cell? ⟨w.heap.size + 1, 0, none⟩ = some (.int .i64 r) := hA1.cell 0
    have x1 : wr.cell? ⟨w.heap.size + 1, 1, none⟩ = some (.int .i64 wd) := hA1.cell 1
    have x2 : wr.cell? ⟨w.heap.size + 1, 2, none⟩ = some (.slice A (som (bitB bits) (k - 1)).length c) := hA1.cell 2
    obtain ⟨j, rfl⟩ : ∃ j, k = j + 1 := ⟨k - 1, by omega⟩
    rw [show j + 1 - 1 = j from by omega] at hown hI x2 hA1
    by_cases h : ((j + 1 : Nat) : Int) < wd
    · cases hbit : bitB bits (j + 1) with
      | true =>
        have hbit2 : (Go.bits BinOp.and IntKind.i64 (bits / 2 ^ (j + 1)) 1 == 1) = true := hbit
        have HBIT := Lib.hid hbit
        have HOWN := Lib.hid hown
        have HA0 := Lib.hid hA0
        have HA1 := Lib.hid hA1
        have HB := Lib.hid hb
        have hl := som_len (t := bitB bits) j
        have hz := hb.size
        have hlt := hA1.lt
        have hnew : ∀ i u, [Value.int .i64 ((j + 1 : Nat) : Int)][i]? = some u → (wr.alloc (.cells #[.int .i64 ((j + 1 : Nat) : Int)] 3)).cell? ((⟨wr.heap.size, 0, none⟩ : Addr).add i) = some u := fun i u hu => by
          obtain rfl : i = 0 := by
            rcases Nat.eq_zero_or_pos i with h0 | h0
            · exact h0
            · rw [List.getElem?_eq_none (by simp; omega)] at hu; cases hu
          rw [add_zero_off, ← hu]
          exact (Arr.fresh wr _ _).cell 0
        have HNEW := Lib.hid hnew
        clear hbit hown hA0 hA1 hb hI hat hnew
        go_wp2_with (at_builtin; refine wpList_append_own _ rfl (.tmp 29) (.tmp 31) 22 rfl (w.heap.size + 2) 3 i0 (.int .i64 0) 1 8 Tryd.underlying22 hi hz0 hz1 hz2 rfl (by decide) (.slice A (som (bitB bits) j).length c) _ _ rfl (own_alloc HOWN.out _) ⟨wr.heap.size, 0, none⟩ 1 1 [.int .i64 ((j + 1 : Nat) : Int)] rfl (by simp) HNEW.out (by intro u hu; rw [List.mem_singleton.1 hu]; rfl) (by unfold maxLen; omega) (by omega) (by simp; omega) ?_; intro v1 w1 hown1 hg hnil; obtain ⟨A1, c1, rfl⟩ := own_slice hown1; have HB1 := Lib.hid (ext_app (ext_alloc HB.out _) (own_alloc HOWN.out _) hg (by omega)); have HA01 := Lib.hid ((HA0.out.alloc _).app (own_alloc HOWN.out _) hg (by omega)); have hA11 := (HA1.out.alloc _).app (own_alloc HOWN.out _) hg (by omega); have x2 := hA11.cell 2; have m2 := hA11.mark 2; have HA11 := Lib.hid hA11; have HOWN1 := Lib.hid hown1; clear hown1 hg hnil hA11)
        go_roundw
        case rel =>
          refine ⟨j + 2, .slice A1 _ c1, by omega, by omega, by go_num, HA01.out.other (by simp) _, HA11.out.put 2 _, ?_, ext_setCell HB1.out (by simp) _⟩
          rw [show j + 2 - 1 = j + 1 from by omega, som_yes HBIT.out]
          have := own_put HOWN1.out (p := ⟨w.heap.size + 1, 2, none⟩) (by simp) (.slice A1 ((som (bitB bits) j).length + 1) c1)
          simpa [ints] using this
        case measure => simp [intOf]; omega
      | false =>
        have hbit2 : (Go.bits BinOp.and IntKind.i64 (bits / 2 ^ (j + 1)) 1 == 1) = false := hbit
        have HBIT := Lib.hid hbit
        have HOWN := Lib.hid hown
        have HA0 := Lib.hid hA0
        have HA1 := Lib.hid hA1
        have HB := Lib.hid hb
        clear hbit hown hA0 hA1 hb hI hat
        go_wp2_with fail
        go_roundw
        case rel => 
          refine ⟨j + 2, _, by omega, by omega, by go_num, HA0.out, HA1.out, ?_, HB.out⟩
          rw [show j + 2 - 1 = j + 1 from by omega, som_no HBIT.out]
          exact HOWN.out
        case measure => simp [intOf]; omega
    · have h' : wd ≤ ((j + 1 : Nat) : Int) := by omega
      have y0 : wr.cell? ⟨w.heap.size, 0, none⟩ = some (.int .i64 0) := hA0.cell 0
      have y1 : wr.cell? ⟨w.heap.size, 1, none⟩ = some (.int .i64 0) := hA0.cell 1
      have y2 : wr.cell? ⟨w.heap.size, 2, none⟩ = some (.slice none 0 0) := hA0.cell 2
      have n0 := hA0.mark 0
      have n1 := hA0.mark 1
      have n2 := hA0.mark 2
      have HA0 := Lib.hid hA0
      have HOWN := Lib.hid hown
      have HB := Lib.hid hb
      have ej : wd.toNat - 1 = j := by omega
      have HJ := Lib.hid ej
      clear hA0 hA1 hown hb hI hat ej
      go_wp2_with fail
      have hF := ((HA0.out.put 0 (.int .i64 r)).put 1 (.int .i64 wd)).put 2 (.slice A (som (bitB bits) j).length c)
      have hl := run_load_blk (P := Tryd.prog) 24 hF _ Tryd.underlying24 rfl size3
      rw [HJ.out]
      refine bodyPost_ret (results_cell Tryd.results14 _ (by rfl) hl) rfl ⟨A, c, rfl, ?_, ?_⟩
      · have := own_put (own_put (own_put HOWN.out (p := ⟨w.heap.size, 0, none⟩) (by simp) (.int .i64 r)) (p := ⟨w.heap.size, 1, none⟩) (by simp) (.int .i64 wd)) (p := ⟨w.heap.size, 2, none⟩) (by simp) (.slice A (som (bitB bits) j).length c)
        obtain ⟨A', c', e1, hI, _⟩ := own_ints this
        injection e1 with e1 e2 e3
        subst e1
        exact hI
      · exact ext_setCell (ext_setCell (ext_setCell HB.out (Nat.le_refl _) _) (Nat.le_refl _) _) (Nat.le_refl _) _

end Go.Proofs.YtablpncipkbfhaaDoor.Cab
