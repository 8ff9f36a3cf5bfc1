/- CabinKeeps: lists are new memory. -/
import Derived.Test.YtablpncipkbfhaaDoorCabApart
import Derived.Test.YtablpncipkbfhaaDoorCabLawF
namespace Go.Proofs.YtablpncipkbfhaaDoor.Cab
open Go.RowKit

theorem Blk.of_own {w : World} {base n g c q : Nat} {xs : List Value} (h : w.ownsRow base 59 2 (.slice (some ⟨g, 0, none⟩) n c) n xs) : Blk w g c q 0 ∧ n ≤ c := by
  rcases h.2 with ⟨h0, _⟩ | ⟨g', cap, cur, hv, hb, hh, hnc, hcm, hcs, ht⟩
  · cases h0
  · injection hv with e1 _ e2
    injection e1 with e1
    injection e1 with e1
    subst e1 e2
    exact ⟨⟨cur, hh, hcs, fun i hi => absurd hi (by omega)⟩, hnc⟩
def two (a b : Nat) : Nat → Nat
  | 0 => a
  | _ + 1 => b

set_option maxRecDepth 100000 in
set_option maxHeartbeats 4000000 in
theorem Keeps (a0 a1 a2 : Int) (w : World) (hev : EV w) :
    Calls Tryd.prog 8 #[.int .i64 a0, .int .i64 a1, .int .i64 a2] w fun e w' => e = .returned (.bool true) ∧ Below w.heap.size w w' := by
  have HE := Lib.hid hev
  clear hev
  obtain ⟨r, hr⟩ : ∃ r, 1 + a0 % 64 = r := ⟨_, rfl⟩
  obtain ⟨wd, hd⟩ : ∃ wd, 1 + a1 % 16 = wd := ⟨_, rfl⟩
  obtain ⟨r1, r2, r3, r4⟩ := some_bounds hr hd
  obtain ⟨W, hW⟩ : ∃ W : Nat, wd = (W : Int) := ⟨wd.toNat, by omega⟩
  subst hW
  have HR := Lib.hid hr; have HD := Lib.hid hd
  clear hr hd
  have q2 : r.toNat * W ≤ 64 * 16 := Nat.mul_le_mul (by omega) (by omega)
  have q1 : 0 < r.toNat * W := Nat.mul_pos (by omega) (by omega)
  have hok := som_ok (t := bitB a2) r1 r2 r3 r4
  have hlen := som_len (t := bitB a2) ((W : Int).toNat - 1)
  obtain ⟨zs, hzs⟩ : ∃ zs, som (bitB a2) ((W : Int).toNat - 1) = zs := ⟨_, rfl⟩
  rw [hzs] at hok hlen
  have HZ := Lib.hid hzs
  have HOK := Lib.hid hok
  clear hzs hok
  have hl : zs.length ≤ 20000000000000 := by omega
  obtain ⟨l, hll⟩ : ∃ l, full (stB W zs) (r.toNat * W) = l := ⟨_, rfl⟩
  have hl1 := full_len (st := stB W zs) (r.toNat * W)
  have hl0 : 0 < l.length := by rw [← hll, full_pos q1]; simp
  rw [hll] at hl1
  have hl2 : l.length ≤ 1100 := by omega
  have HLL := Lib.hid hll
  clear hll hl1 q1 q2
  go_enter Tryd.func8, Tryd.ntmps8
  go_wp2_with fail
  refine (Awake _ HE.out).mono ?_
  rintro e w1 ⟨rfl, hb1⟩
  go_wp2_with fail
  refine (SomeAt a0 a1 a2 r W HR.out HD.out _).mono ?_
  rw [HZ.out]
  rintro e w2 ⟨A, c, rfl, hI, hb⟩
  have hb2 := ext_trans hb1 hb
  have HI := Lib.hid (hI.keep (ext_alloc (Below.refl _ w2) (.cells #[.int .i64 r, .int .i64 (W : Int), .slice A zs.length c] 24)))
  have hA2 := Arr.fresh w2 24 #[.int .i64 r, .int .i64 (W : Int), .slice A zs.length c]
  obtain ⟨W2, hW2⟩ : ∃ W2, w2.alloc (.cells #[.int .i64 r, .int .i64 (W : Int), .slice A zs.length c] 24) = W2 := ⟨_, rfl⟩
  have hzW : W2.heap.size = w2.heap.size + 1 := by rw [← hW2]; simp
  rw [hW2] at HI hA2
  have HW2 := Lib.hid hW2
  clear hb hb1 hI HE hW2
  have hbW : Below w.heap.size w W2 := by rw [← HW2.out]; exact ext_alloc hb2 _
  go_wp2_with fail
  rw [HW2.out]
  refine (Blocks_yes r W zs A c _ HI.out hl HOK.out).mono ?_
  rw [HLL.out]
  rintro e w3 ⟨v1, rfl, hown1, hb⟩
  obtain ⟨g1, c1, rfl⟩ := own_forms hown1 (by intro e; rw [e] at hown1; rcases hown1.2 with ⟨_, h0⟩ | ⟨g', c', _, h0, _⟩; omega; cases h0)
  have hA3 := hA2.keep hb
  have hB3 := hb
  have H1 := Lib.hid hown1
  have hg1 := own_lt (g := g1) hown1 rfl
  clear hb hown1 hb2
  have x0 : w3.cell? ⟨w2.heap.size, 0, none⟩ = some (.int .i64 r) := hA3.cell 0
  have x1 : w3.cell? ⟨w2.heap.size, 1, none⟩ = some (.int .i64 (W : Int)) := hA3.cell 1
  have x2 : w3.cell? ⟨w2.heap.size, 2, none⟩ = some (.slice A zs.length c) := hA3.cell 2
  go_wp2_with fail
  refine (Blocks_yes r W zs A c _ (HI.out.keep hB3) hl HOK.out).mono ?_
  rw [HLL.out]
  rintro e w4 ⟨v2, rfl, hown2, hb⟩
  obtain ⟨g2, c2, rfl⟩ := own_forms hown2 (by intro e; rw [e] at hown2; rcases hown2.2 with ⟨_, h0⟩ | ⟨g', c', _, h0, _⟩; omega; cases h0)
  have hA4 := hA3.keep hb
  have hB4 := ext_trans hB3 hb
  have H1b := Lib.hid (own_keep H1.out hb)
  have H2 := Lib.hid hown2
  have hg2 := own_lt (g := g2) hown2 rfl
  clear hb hown2 H1 hA3 hB3 x0 x1 x2
  go_wp2_with fail
  refine (CopySpans l _ g1 c1 _ H1b.out (by omega)).mono ?_
  rintro e w5 ⟨v3, rfl, hown3, hb⟩
  have hA5 := hA4.keep hb
  have hB5 := ext_trans hB4 hb
  have H1c := Lib.hid (own_keep H1b.out hb)
  have H2c := Lib.hid (own_keep H2.out hb)
  have H3 := Lib.hid hown3
  clear hb hown3 H1b H2 hA4 hB4
  go_wp2_with fail
  refine (SameSpans l _ _ _ _ _ H1c.out H2c.out (by omega)).mono ?_
  rintro e w6 ⟨rfl, hb⟩
  have hz6 := hb.size
  have hA6 := hA5.keep hb
  have hB6 := ext_trans hB5 hb
  have H1d := Lib.hid (own_keep H1c.out hb)
  have H2d := Lib.hid (own_keep H2c.out hb)
  have H3d := Lib.hid (own_keep H3.out hb)
  have hG1 := own_lt (g := g1) H1d.out rfl
  have hG2 := own_lt (g := g2) H2d.out rfl
  have hne12 : g1 ≠ g2 := by omega
  clear hb H1c H2c H3 hA5 hB5
  have hal := ext_alloc (Below.refl w6.heap.size w6) (.cells #[.slice (some ⟨g1, 0, none⟩) l.length c1, .slice (some ⟨g2, 0, none⟩) l.length c2] 48)
  have hAr := Arr.fresh w6 48 #[.slice (some ⟨g1, 0, none⟩) l.length c1, .slice (some ⟨g2, 0, none⟩) l.length c2]
  have hhdr : Hdr (w6.alloc (.cells #[.slice (some ⟨g1, 0, none⟩) l.length c1, .slice (some ⟨g2, 0, none⟩) l.length c2] 48)) w6.heap.size 2 (two g1 g2) (fun _ => l.length) (two c1 c2) := fun q hq => by
    rw [hAr.cell q]
    rcases (show q = 0 ∨ q = 1 by omega) with rfl | rfl <;> rfl
  have hblk : ∀ q, q < 2 → Blk (w6.alloc (.cells #[.slice (some ⟨g1, 0, none⟩) l.length c1, .slice (some ⟨g2, 0, none⟩) l.length c2] 48)) (two g1 g2 q) (two c1 c2 q) q 0 := fun q hq => by
    rcases (show q = 0 ∨ q = 1 by omega) with rfl | rfl
    · exact (Blk.of_own (q := 0) H1d.out).1.keep hal
    · exact (Blk.of_own (q := 1) H2d.out).1.keep hal
  have hnc : ∀ q, q < 2 → l.length ≤ two c1 c2 q ∧ l.length ≤ 2000 := fun q hq => by
    rcases (show q = 0 ∨ q = 1 by omega) with rfl | rfl
    · exact ⟨(Blk.of_own (q := 0) H1d.out).2, by omega⟩
    · exact ⟨(Blk.of_own (q := 1) H2d.out).2, by omega⟩
  have hnn : ∀ p q, p < 2 → q < 2 → p ≠ q → two g1 g2 p ≠ two g1 g2 q := fun p q hp hq hpq => by
    rcases (show p = 0 ∨ p = 1 by omega) with rfl | rfl <;> rcases (show q = 0 ∨ q = 1 by omega) with rfl | rfl
    · exact absurd rfl hpq
    · exact hne12
    · exact fun h => hne12 h.symm
    · exact absurd rfl hpq
  have hnh : ∀ q, q < 2 → two g1 g2 q ≠ w6.heap.size := fun q hq => by
    rcases (show q = 0 ∨ q = 1 by omega) with rfl | rfl
    · show g1 ≠ w6.heap.size; omega
    · show g2 ≠ w6.heap.size; omega
  have HAP := Lib.hid (ApartSpans w6.heap.size 2 2 (two g1 g2) (fun _ => l.length) (two c1 c2) _ hhdr hblk hnn hnh (by simp) (by omega) hnc (by omega))
  have hB6a := ext_trans hB6 hal
  have hA6a := hA6.keep hal
  have H3e := Lib.hid (own_keep H3d.out hal)
  clear hhdr hblk hnc hnn hnh hal hAr H1d H2d H3d hA6 hB6
  go_wp2_with fail
  refine HAP.out.mono ?_
  rintro e w7 ⟨rfl, ht⟩
  have hS : ∀ k, inG (two g1 g2) 2 k → k = g1 ∨ k = g2 := fun k ⟨q, h1, h2⟩ => by
    rcases (show q = 0 ∨ q = 1 by omega) with rfl | rfl
    · exact .inl h2
    · exact .inr h2
  have hB7 : Below W2.heap.size W2 w7 := ht.to_below hB6a (fun k hk => by rcases hS k hk with h | h <;> omega)
  have hA7 : Arr w7 w2.heap.size 24 #[.int .i64 r, .int .i64 (W : Int), .slice A zs.length c] := ht.arr hA6a (fun hk => by rcases hS _ hk with h | h <;> omega)
  have H3f := Lib.hid (ht.own H3e.out (fun g hg hk => by have := own_lt H3e.out hg; rcases hS _ hk with h | h <;> omega))
  clear ht hS hB6a hA6a H3e HAP
  have x0 : w7.cell? ⟨w2.heap.size, 0, none⟩ = some (.int .i64 r) := hA7.cell 0
  have x1 : w7.cell? ⟨w2.heap.size, 1, none⟩ = some (.int .i64 (W : Int)) := hA7.cell 1
  have x2 : w7.cell? ⟨w2.heap.size, 2, none⟩ = some (.slice A zs.length c) := hA7.cell 2
  go_wp2_with fail
  refine (Blocks_yes r W zs A c _ (HI.out.keep hB7) hl HOK.out).mono ?_
  rw [HLL.out]
  rintro e w8 ⟨v4, rfl, hown4, hb⟩
  have hB8 := ext_trans hB7 hb
  have H3g := Lib.hid (own_keep H3f.out hb)
  have H4 := Lib.hid hown4
  clear hb hown4 H3f hB7 hA7 x0 x1 x2
  go_wp2_with fail
  refine (SameSpans l _ _ _ _ _ H4.out H3g.out (by omega)).mono ?_
  rintro e w9 ⟨rfl, hb⟩
  have hB9 := ext_trans hB8 hb
  go_wp2_with fail
  go_ret
  exact ⟨rfl, ext_trans hbW hB9⟩

end Go.Proofs.YtablpncipkbfhaaDoor.Cab
