/- CabinBlocks: blocks, windows, neighbours. -/
import Derived.Test.YtablpncipkbfhaaDoorCabPlain5
import Derived.Test.YtablpncipkbfhaaDoorCabLawF
import Derived.Test.YtablpncipkbfhaaDoorCab14
namespace Go.Proofs.YtablpncipkbfhaaDoor.Cab
open Go.RowKit

theorem block_at {st : Nat → Bool} {l : List (Nat × Nat)} {e : Nat} (h : chain st 0 l e) {i : Nat} (hi : i < l.length) :
    (l[i]).1 = begins l i ∧ 1 ≤ (l[i]).2 ∧ st (begins l i) = true ∧ (∀ j, 0 < j → j < (l[i]).2 → st (begins l i + j) = false) ∧ (begins l i + (l[i]).2 = e ∨ st (begins l i + (l[i]).2) = true) ∧ begins l i + (l[i]).2 ≤ e := by
  simpa using chain_at h hi
theorem or_three {a b : Bool} (h : (a || b) = true) : (a = true ∧ b = true) ∨ (a = true ∧ b = false) ∨ (a = false ∧ b = true) := by
  cases a <;> cases b <;> simp_all
theorem Window_at (r : Int) (W : Nat) (zs : List Int) (A : Option Addr) (c : Nat) (s : Int) (sn : Nat) (hs : s = (sn : Int)) (w : World) (hI : Ints w A zs) (hlen : zs.length ≤ 20000000000000) (hok : okC r W zs = true) (h1 : (sn : Int) < r * W) :
    Calls Tryd.prog 20 #[.agg #[.int .i64 r, .int .i64 (W : Int), .slice A zs.length c], .int .i64 s] w fun e w' => e = .returned (.tuple #[.bool (winB W sn), .bool (aisB W zs sn), .int .i64 0]) ∧ Below w.heap.size w w' := by
  subst hs
  exact Window_yes r W zs A c sn _ _ _ w hI hlen hok (by omega) h1 rfl rfl rfl
theorem Beside_up_at (r : Int) (W : Nat) (zs : List Int) (A : Option Addr) (c : Nat) (s t : Int) (sn : Nat) (b : Bool) (hb : besB W zs sn ((sn : Int) + 1) = b) (hs : s = (sn : Int)) (ht : t = (sn : Int) + 1) (w : World) (hI : Ints w A zs) (hlen : zs.length ≤ 20000000000000) (hok : okC r W zs = true) (h1 : (sn : Int) + 1 < r * W) :
    Calls Tryd.prog 19 #[.agg #[.int .i64 r, .int .i64 (W : Int), .slice A zs.length c], .int .i64 s, .int .i64 t] w fun e w' => e = .returned (.tuple #[.bool b, .int .i64 0]) ∧ Below w.heap.size w w' := by
  subst hs ht hb
  exact Beside_yes r W zs A c _ _ w hI hlen hok (by omega) (by omega) (by omega) h1
theorem Beside_down_at (r : Int) (W : Nat) (zs : List Int) (A : Option Addr) (c : Nat) (s t : Int) (sn : Nat) (b : Bool) (hb : besB W zs sn ((sn : Int) + 1) = b) (hs : s = (sn : Int)) (ht : t = (sn : Int) + 1) (w : World) (hI : Ints w A zs) (hlen : zs.length ≤ 20000000000000) (hok : okC r W zs = true) (h1 : (sn : Int) + 1 < r * W) :
    Calls Tryd.prog 19 #[.agg #[.int .i64 r, .int .i64 (W : Int), .slice A zs.length c], .int .i64 t, .int .i64 s] w fun e w' => e = .returned (.tuple #[.bool b, .int .i64 0]) ∧ Below w.heap.size w w' := by
  subst hs ht
  rw [bes_comm] at hb
  subst hb
  exact Beside_yes r W zs A c _ _ w hI hlen hok (by omega) h1 (by omega) (by omega)

set_option maxRecDepth 100000 in
set_option maxHeartbeats 2000000 in
theorem BlocksLaw (a0 a1 a2 : Int) (w : World) (hev : EV w) :
    Calls Tryd.prog 9 #[.int .i64 a0, .int .i64 a1, .int .i64 a2] w fun e w' => e = .returned (.bool true) ∧ Below w.heap.size w w' := by
  have HE := Lib.hid hev
  clear hev
  have p0 := Int.emod_nonneg a0 (show (8 : Int) ≠ 0 by omega)
  have p1 := Int.emod_lt_of_pos a0 (show (0 : Int) < 8 by omega)
  obtain ⟨r, hr⟩ : ∃ r, 1 + a0 % 8 % 64 = r := ⟨_, rfl⟩
  obtain ⟨wd, hd⟩ : ∃ wd, 1 + a1 % 16 = wd := ⟨_, rfl⟩
  obtain ⟨r1, r2, r3, r4⟩ := some_bounds hr hd
  obtain ⟨W, hW⟩ : ∃ W : Nat, wd = (W : Int) := ⟨wd.toNat, by omega⟩
  subst hW
  have HR := Lib.hid hr; have HD := Lib.hid hd
  clear hr hd p0 p1
  have q1 : 1 ≤ r * W := by have := Int.mul_le_mul r1 r3 (by omega) (by omega); omega
  have q2 : r * W ≤ 64 * 16 := Int.mul_le_mul (by omega) (by omega) (by omega) (by omega)
  have hok := som_ok (t := bitB a2) r1 r2 r3 r4
  have hlen := som_len (t := bitB a2) ((W : Int).toNat - 1)
  have hcount := block_count (bitB a2) (show 0 < r.toNat by omega) (show 0 < W by omega)
  rw [show (W : Int).toNat = W from by omega] at hok hlen
  obtain ⟨zs, hzs⟩ : ∃ zs, som (bitB a2) (W - 1) = zs := ⟨_, rfl⟩
  rw [hzs] at hok hlen hcount
  have HZ := Lib.hid (show som (bitB a2) ((W : Int).toNat - 1) = zs from by rw [show (W : Int).toNat = W from by omega]; exact hzs)
  have HOK := Lib.hid hok
  clear hzs hok
  have hl : zs.length ≤ 20000000000000 := by omega
  obtain ⟨n, hn⟩ : ∃ n : Nat, r.toNat * W = n := ⟨_, rfl⟩
  have hnr : (n : Int) = r * W := by rw [← hn, Int.natCast_mul, Int.toNat_of_nonneg (by omega)]
  have hchain := full_chain (st := stB W zs) (stB_zero W zs) (show 0 < n by omega)
  rw [hn] at hcount
  obtain ⟨l, hll⟩ : ∃ l, full (stB W zs) n = l := ⟨_, rfl⟩
  have hl1 := full_len (st := stB W zs) n
  rw [hll] at hcount hchain hl1
  have hl2 : l.length ≤ 1100 := by omega
  have hl0 : 0 < l.length := by rw [hcount]; exact Nat.mul_pos (by omega) (by omega)
  have hcnt : (l.length : Int) = r * ((zs.length : Int) + 1) := by rw [hcount, Int.natCast_mul, Int.toNat_of_nonneg (by omega)]; rfl
  have HLL := Lib.hid (show full (stB W zs) (r.toNat * W) = l from by rw [hn]; exact hll)
  have HCH := Lib.hid hchain
  have HCNT := Lib.hid hcnt
  have HNR := Lib.hid hnr
  clear hcount hl1 hll hcnt hn hchain hnr
  go_enter Tryd.func9, Tryd.ntmps9
  go_wp2_with fail
  refine (Awake _ HE.out).mono ?_
  rintro e w1 ⟨rfl, hb1⟩
  go_wp2_with fail
  refine (Pick a0 8 (by decide) (by decide) _).mono ?_
  rintro e w1' ⟨rfl, hw1⟩
  subst hw1
  go_wp2_with fail
  refine (SomeAt (a0 % 8) a1 a2 r W HR.out HD.out _).mono ?_
  rw [HZ.out]
  rintro e w2 ⟨A, c, rfl, hI, hb⟩
  have hb2 := ext_trans hb1 hb
  have HI := Lib.hid (hI.keep (ext_alloc (Below.refl _ w2) (.cells #[.int .i64 r, .int .i64 (W : Int), .slice A zs.length c] 24)))
  clear hb hb1 hI
  go_wp2_with fail
  refine (Blocks_yes r W zs A c _ HI.out hl HOK.out).mono ?_
  rw [HLL.out]
  rintro e w3 ⟨v, rfl, hown, hb⟩
  obtain ⟨gl, cl, rfl⟩ := own_forms hown (by intro e; rw [e] at hown; rcases hown.2 with ⟨_, h0⟩ | ⟨g', c', _, h0, _⟩; omega; cases h0)
  have hA3 := (Arr.fresh w2 24 #[.int .i64 r, .int .i64 (W : Int), .slice A zs.length c]).keep hb
  have HI3 := Lib.hid (HI.out.keep hb)
  have HO3 := Lib.hid hown
  have hb3 := ext_trans (ext_alloc hb2 _) hb
  clear hb hb2 HI HE hown
  go_wp2_with fail
  go_loopw [10, 11] (fun m i wr => ∃ (j : Nat), j ≤ l.length ∧ i = .int .i64 j ∧ m = .int .i64 (begins l j : Nat) ∧ Arr wr w2.heap.size 24 #[.int .i64 r, .int .i64 (W : Int), .slice A zs.length c] ∧ Ints wr A zs ∧
    wr.ownsRow (w2.alloc (.cells #[.int .i64 r, .int .i64 (W : Int), .slice A zs.length c] 24)).heap.size 59 2 (.slice (some ⟨gl, 0, none⟩) l.length cl) l.length (spans l) ∧ Below w.heap.size w wr) (fun _ i _ => (l.length - intOf i).toNat)
  case atStart => exact ⟨0, by omega, rfl, rfl, hA3, HI3.out, HO3.out, hb3⟩
  case round =>
    obtain ⟨j, hj, rfl, rfl, hA, hI, hown, hb⟩ := hrel
    rename World => wo
    have hzo := hA.lt
    have HI4 := Lib.hid hI
    have HO4 := Lib.hid hown
    clear hI
    have x0 : wo.cell? ⟨w2.heap.size, 0, none⟩ = some (.int .i64 r) := hA.cell 0
    have x1 : wo.cell? ⟨w2.heap.size, 1, none⟩ = some (.int .i64 (W : Int)) := hA.cell 1
    have x2 : wo.cell? ⟨w2.heap.size, 2, none⟩ = some (.slice A zs.length c) := hA.cell 2
    by_cases h : j < l.length
    · obtain ⟨s0, s1⟩ := spans_at h
      have p0 := (hown.cellAt (j * 2) (by omega)).trans s0
      have p1 := (hown.cellAt (j * 2 + 1) (by omega)).trans s1
      obtain ⟨f1, f2, f3, f4, f5, f6⟩ := block_at HCH.out h
      have hbn := begins_next h
      rw [f1] at p0
      obtain ⟨cnt, hcn⟩ : ∃ cnt, (l[j]).2 = cnt := ⟨_, rfl⟩
      obtain ⟨ba, hba⟩ : ∃ ba, begins l j = ba := ⟨_, rfl⟩
      rw [hcn] at p1 f2 f4 f5 f6 hbn
      rw [hba] at p0 f3 f4 f5 f6 hbn
      rw [hba]
      have h0 : (0 : Int) ≤ (j : Int) := by omega
      have h9 : (j : Int) < (l.length : Int) := by omega
      have hrow := one_row (f := ba) (show 0 < W by omega) (cnt - 1) (fun i h1 h2 => (stB_no (f4 i h1 (by omega))).1)
      have HBN := Lib.hid hbn
      have hbaz : (ba : Int) + (cnt : Int) ≤ 1024 := by have := HNR.out; omega
      have w0 : ¬ (W : Int) = 0 := by omega
      have w00 : ¬ W = 0 := by omega
      have hc0 : ¬ cnt = 0 := by omega
      have hc1 : ¬ (cnt : Int) < 1 := by omega
      have hc2 : decide ((cnt : Int) < 1) = false := decide_eq_false hc1
      obtain ⟨Q, hQ⟩ : ∃ Q : Nat, ba / W = Q := ⟨_, rfl⟩
      have hQ2 : Q ≤ ba := by rw [← hQ]; exact Nat.div_le_self _ _
      have v1 : IntKind.i64.wrap ((ba : Int).tdiv (W : Int)) = (Q : Int) := by rw [Int.tdiv_eq_ediv_of_nonneg (by omega), ← Int.natCast_ediv, hQ]; exact IntWalk.i64_in _ (by omega)
      have v2 : IntKind.i64.wrap (((ba : Int) + (cnt : Int) - 1).tdiv (W : Int)) = (Q : Int) := by
        rw [Int.tdiv_eq_ediv_of_nonneg (by omega), show (ba : Int) + (cnt : Int) - 1 = ((ba + (cnt - 1) : Nat) : Int) from by omega, ← Int.natCast_ediv, hrow, hQ]; exact IntWalk.i64_in _ (by omega)
      have d1 : (ba : Int) / (W : Int) = (Q : Int) := by rw [← Int.natCast_ediv, hQ]
      have d2 : ((ba : Int) + (cnt : Int) - 1) / (W : Int) = (Q : Int) := by
        rw [show (ba : Int) + (cnt : Int) - 1 = ((ba + (cnt - 1) : Nat) : Int) from by omega, ← Int.natCast_ediv, hrow, hQ]
      have HF3 := Lib.hid f3; have HF4 := Lib.hid f4; have HF5 := Lib.hid f5
      have hA' := hA.alloc (.cells #[.int .i64 (ba : Int), .int .i64 (cnt : Int)] 59)
      have hG' := Arr.fresh wo 59 #[.int .i64 (ba : Int), .int .i64 (cnt : Int)]
      have HI' := Lib.hid (HI4.out.keep (ext_alloc (Below.refl _ wo) (.cells #[.int .i64 (ba : Int), .int .i64 (cnt : Int)] 59)))
      have HO' := Lib.hid (own_alloc HO4.out (.cells #[.int .i64 (ba : Int), .int .i64 (cnt : Int)] 59))
      have hb' := ext_alloc hb (.cells #[.int .i64 (ba : Int), .int .i64 (cnt : Int)] 59)
      clear s0 s1 f1 f3 f4 f5 hbn hba hcn hrow hQ hown hA hb HI4 HO4
      go_wp2_with fail
      refine wp_region_quiet_lit (by kernel_rfl) (by kernel_rfl) ?_
      repeat (first | go_big_quiet_step ((fail)) | quiet_step ((fail)))
      refine wpQuiet_nil ?_
      intro _ hw'
      obtain ⟨nq, hw''⟩ := hw'
      subst hw''
      go_wp2_with fail
      go_loopw [13] (fun i wi => ∃ k : Nat, k ≤ cnt ∧ i = .int .i64 k ∧ Arr wi wo.heap.size 59 #[.int .i64 (ba : Int), .int .i64 (cnt : Int)] ∧ Arr wi w2.heap.size 24 #[.int .i64 r, .int .i64 (W : Int), .slice A zs.length c] ∧ Ints wi A zs ∧
        wi.ownsRow (w2.alloc (.cells #[.int .i64 r, .int .i64 (W : Int), .slice A zs.length c] 24)).heap.size 59 2 (.slice (some ⟨gl, 0, none⟩) l.length cl) l.length (spans l) ∧ Below w.heap.size w wi) (fun i _ => (cnt - intOf i).toNat)
      case atStart => exact ⟨0, by omega, rfl, hG'.drewN _, hA'.drewN _, HI'.out.keep (ext_drewN (Below.refl _ _) _), own_keep HO'.out (ext_drewN (Below.refl _ _) _), ext_drewN hb' _⟩
      case round =>
        clear hA' hG' HI' HO' hb' x0 x1 x2 p0 p1 v1 v2 d1 d2
        obtain ⟨k, hk, rfl, hG, hA, hI, hown, hb⟩ := hrel
        have HI3 := Lib.hid hI
        have HO3 := Lib.hid hown
        clear hI hown
        have x0 : wr.cell? ⟨w2.heap.size, 0, none⟩ = some (.int .i64 r) := hA.cell 0
        have x1 : wr.cell? ⟨w2.heap.size, 1, none⟩ = some (.int .i64 (W : Int)) := hA.cell 1
        have x2 : wr.cell? ⟨w2.heap.size, 2, none⟩ = some (.slice A zs.length c) := hA.cell 2
        have g0 : wr.cell? ⟨wo.heap.size, 0, none⟩ = some (.int .i64 (ba : Int)) := hG.cell 0
        have g1 : wr.cell? ⟨wo.heap.size, 1, none⟩ = some (.int .i64 (cnt : Int)) := hG.cell 1
        by_cases hkc0 : k < cnt
        · have hkc1 : (k : Int) < (cnt : Int) := by omega
          obtain ⟨sn, hsn⟩ : ∃ sn : Nat, ba + k = sn := ⟨_, rfl⟩
          have hsn2 : (ba : Int) + (k : Int) = (sn : Int) := by omega
          have hsr : (sn : Int) < r * W := by have := HNR.out; omega
          have hbes : (sn : Int) + 1 < r * W → besB W zs (sn : Int) ((sn : Int) + 1) = decide (k + 1 < cnt) := fun hlt => by
            by_cases hc : k + 1 < cnt
            · rw [decide_eq_true hc]
              exact bes_in (by omega) (by rw [← hsn, Nat.add_assoc]; exact HF4.out (k + 1) (by omega) hc)
            · rw [decide_eq_false hc]
              refine bes_out (by omega) ?_
              rcases HF5.out with h5 | h5
              · have := HNR.out; omega
              · rw [← hsn, show ba + k + 1 = ba + cnt from by omega]; exact h5
          have hmid : 0 < k → k + 1 < cnt → winB W sn = false ∧ aisB W zs sn = false := fun h1 h2 =>
            mid_none (by omega) (by rw [← hsn]; exact HF4.out k h1 hkc0) (by rw [← hsn, Nat.add_assoc]; exact HF4.out (k + 1) (by omega) h2)
          have hend : k = 0 ∨ k + 1 = cnt → (winB W sn || aisB W zs sn) = true := fun h1 => by
            rcases h1 with h1 | h1
            · exact first_some (by rw [← hsn, h1]; exact HF3.out)
            · refine last_some (by omega) ?_
              rcases HF5.out with h5 | h5
              · left; rw [← hsn, show ba + k + 1 = n from by omega]
                have hm : n = r.toNat * W := by have := HNR.out; have h6 : ((r.toNat * W : Nat) : Int) = r * W := by rw [Int.natCast_mul, Int.toNat_of_nonneg (by omega)]
                                                omega
                rw [hm]; exact Nat.mul_mod_left _ _
              · right; rw [← hsn, show ba + k + 1 = ba + cnt from by omega]; exact h5
          have HBES := Lib.hid hbes; have HMID := Lib.hid hmid; have HEND := Lib.hid hend; have HSN := Lib.hid hsn2
          clear hbes hmid hend hsn hsn2
          go_wp2_with fail
          refine (Window_at r W zs A c _ sn HSN.out _ HI3.out hl HOK.out hsr).mono ?_
          rintro e w4 ⟨rfl, hb0⟩
          have hA4 := hA.keep hb0
          have hG4 := hG.keep hb0
          have HI4 := Lib.hid (HI3.out.keep hb0)
          have HO4 := Lib.hid (own_keep HO3.out hb0)
          have hb4 := ext_trans hb hb0
          clear hb0 hA hG HI3 HO3 hb x0 x1 x2 g0 g1
          have x0 : w4.cell? ⟨w2.heap.size, 0, none⟩ = some (.int .i64 r) := hA4.cell 0
          have x1 : w4.cell? ⟨w2.heap.size, 1, none⟩ = some (.int .i64 (W : Int)) := hA4.cell 1
          have x2 : w4.cell? ⟨w2.heap.size, 2, none⟩ = some (.slice A zs.length c) := hA4.cell 2
          have g1 : w4.cell? ⟨wo.heap.size, 1, none⟩ = some (.int .i64 (cnt : Int)) := hG4.cell 1
          obtain ⟨bw, hbw⟩ : ∃ bw, winB W sn = bw := ⟨_, rfl⟩
          obtain ⟨bs, hbs⟩ : ∃ bs, aisB W zs sn = bs := ⟨_, rfl⟩
          have hmid := HMID.out; have hend := HEND.out
          rw [hbw, hbs] at hmid hend
          rw [hbw, hbs]
          clear hbw hbs HMID HEND
          have hsn2 := HSN.out
          by_cases hV : 0 < k ∧ k + 1 < cnt
          · obtain ⟨hV1, hkc⟩ := hV
            obtain ⟨rfl, rfl⟩ := hmid hV1 hkc
            have k1 : (0 : Int) < (k : Int) := by omega
            have k2 : (k : Int) < (cnt : Int) - 1 := by omega
            have k3 : ¬ k = 0 := by omega
            have k4 : ((k : Int) == 0) = false := beq_eq_false_iff_ne.2 (by omega)
            have k5 : ((k : Int) == (cnt : Int) - 1) = false := beq_eq_false_iff_ne.2 (by omega)
            have hkc2 : (k : Int) + 1 < (cnt : Int) := by omega
            clear hmid hend
            have hn1 : (sn : Int) + 1 < r * W := by have := HNR.out; omega
            have hbb : besB W zs (sn : Int) ((sn : Int) + 1) = true := by rw [HBES.out hn1, decide_eq_true hkc]
            go_wp2_with fail
            refine (Beside_up_at r W zs A c _ _ sn _ hbb (by omega) (by omega) _ HI4.out hl HOK.out hn1).mono ?_
            rintro e w5 ⟨rfl, hb⟩
            have hA5 := hA4.keep hb
            have hG5 := hG4.keep hb
            have HI5 := Lib.hid (HI4.out.keep hb)
            have HO5 := Lib.hid (own_keep HO4.out hb)
            have hb5 := ext_trans hb4 hb
            clear hb hA4 hG4 HI4 HO4 hb4 x0 x1 x2 g1
            have x0 : w5.cell? ⟨w2.heap.size, 0, none⟩ = some (.int .i64 r) := hA5.cell 0
            have x1 : w5.cell? ⟨w2.heap.size, 1, none⟩ = some (.int .i64 (W : Int)) := hA5.cell 1
            have x2 : w5.cell? ⟨w2.heap.size, 2, none⟩ = some (.slice A zs.length c) := hA5.cell 2
            have g1 : w5.cell? ⟨wo.heap.size, 1, none⟩ = some (.int .i64 (cnt : Int)) := hG5.cell 1
            go_wp2_with fail
            refine (Beside_down_at r W zs A c _ _ sn _ hbb (by omega) (by omega) _ HI5.out hl HOK.out hn1).mono ?_
            rintro e w6 ⟨rfl, hb⟩
            have hA6 := hA5.keep hb
            have hG6 := hG5.keep hb
            have HI6 := Lib.hid (HI5.out.keep hb)
            have HO6 := Lib.hid (own_keep HO5.out hb)
            have hb6 := ext_trans hb5 hb
            clear hb hA5 hG5 HI5 HO5 hb5 x0 x1 x2 g1 hbb
            have x0 : w6.cell? ⟨w2.heap.size, 0, none⟩ = some (.int .i64 r) := hA6.cell 0
            have x1 : w6.cell? ⟨w2.heap.size, 1, none⟩ = some (.int .i64 (W : Int)) := hA6.cell 1
            have x2 : w6.cell? ⟨w2.heap.size, 2, none⟩ = some (.slice A zs.length c) := hA6.cell 2
            have g1 : w6.cell? ⟨wo.heap.size, 1, none⟩ = some (.int .i64 (cnt : Int)) := hG6.cell 1
            go_wp2_with fail
            go_roundw
            case rel => exact ⟨k + 1, by omega, by first | go_num | (congr 1; omega), hG6, hA6, HI6.out, HO6.out, hb6⟩
            case measure => simp [intOf]; omega
          · have hor : k = 0 ∨ k + 1 = cnt := by omega
            have hsome := or_three (hend hor)
            clear hmid hend hV
            by_cases hk0 : k = 0
            · have k1 : ¬ (0 : Int) < (k : Int) := by omega
              have k4 : ((k : Int) == 0) = true := beq_iff_eq.2 (by omega)
              clear hor
              by_cases hkc : k + 1 < cnt
              · have hkc2 : (k : Int) + 1 < (cnt : Int) := by omega
                have hkc3 : (1 : Int) < (cnt : Int) := by omega
                rcases hsome with ⟨rfl, rfl⟩ | ⟨rfl, rfl⟩ | ⟨rfl, rfl⟩
                all_goals
                  have hn1 : (sn : Int) + 1 < r * W := by have := HNR.out; omega
                  have hbb : besB W zs (sn : Int) ((sn : Int) + 1) = true := by rw [HBES.out hn1, decide_eq_true hkc]
                  go_wp2_with fail
                  refine (Beside_up_at r W zs A c _ _ sn _ hbb (by omega) (by omega) _ HI4.out hl HOK.out hn1).mono ?_
                  rintro e w5 ⟨rfl, hb⟩
                  have hA5 := hA4.keep hb
                  have hG5 := hG4.keep hb
                  have HI5 := Lib.hid (HI4.out.keep hb)
                  have HO5 := Lib.hid (own_keep HO4.out hb)
                  have hb5 := ext_trans hb4 hb
                  clear hb hA4 hG4 HI4 HO4 hb4 x0 x1 x2 g1
                  have x0 : w5.cell? ⟨w2.heap.size, 0, none⟩ = some (.int .i64 r) := hA5.cell 0
                  have x1 : w5.cell? ⟨w2.heap.size, 1, none⟩ = some (.int .i64 (W : Int)) := hA5.cell 1
                  have x2 : w5.cell? ⟨w2.heap.size, 2, none⟩ = some (.slice A zs.length c) := hA5.cell 2
                  have g1 : w5.cell? ⟨wo.heap.size, 1, none⟩ = some (.int .i64 (cnt : Int)) := hG5.cell 1
                  go_wp2_with fail
                  refine (Beside_down_at r W zs A c _ _ sn _ hbb (by omega) (by omega) _ HI5.out hl HOK.out hn1).mono ?_
                  rintro e w6 ⟨rfl, hb⟩
                  have hA6 := hA5.keep hb
                  have hG6 := hG5.keep hb
                  have HI6 := Lib.hid (HI5.out.keep hb)
                  have HO6 := Lib.hid (own_keep HO5.out hb)
                  have hb6 := ext_trans hb5 hb
                  clear hb hA5 hG5 HI5 HO5 hb5 x0 x1 x2 g1 hbb
                  have x0 : w6.cell? ⟨w2.heap.size, 0, none⟩ = some (.int .i64 r) := hA6.cell 0
                  have x1 : w6.cell? ⟨w2.heap.size, 1, none⟩ = some (.int .i64 (W : Int)) := hA6.cell 1
                  have x2 : w6.cell? ⟨w2.heap.size, 2, none⟩ = some (.slice A zs.length c) := hA6.cell 2
                  have g1 : w6.cell? ⟨wo.heap.size, 1, none⟩ = some (.int .i64 (cnt : Int)) := hG6.cell 1
                  go_wp2_with fail
                  go_roundw
                  case rel => exact ⟨k + 1, by omega, by first | go_num | (congr 1; omega), hG6, hA6, HI6.out, HO6.out, hb6⟩
                  case measure => simp [intOf]; omega
              · have hkc2 : ¬ (k : Int) + 1 < (cnt : Int) := by omega
                have hkc3 : ¬ (1 : Int) < (cnt : Int) := by omega
                rcases hsome with ⟨rfl, rfl⟩ | ⟨rfl, rfl⟩ | ⟨rfl, rfl⟩
                all_goals
                  by_cases hn1 : (sn : Int) + 1 < r * W
                  · have hbb : besB W zs (sn : Int) ((sn : Int) + 1) = false := by rw [HBES.out hn1, decide_eq_false hkc]
                    go_wp2_with fail
                    refine (Beside_up_at r W zs A c _ _ sn _ hbb (by omega) (by omega) _ HI4.out hl HOK.out hn1).mono ?_
                    rintro e w5 ⟨rfl, hb⟩
                    have hA5 := hA4.keep hb
                    have hG5 := hG4.keep hb
                    have HI5 := Lib.hid (HI4.out.keep hb)
                    have HO5 := Lib.hid (own_keep HO4.out hb)
                    have hb5 := ext_trans hb4 hb
                    clear hb hA4 hG4 HI4 HO4 hb4 x0 x1 x2 g1
                    have x0 : w5.cell? ⟨w2.heap.size, 0, none⟩ = some (.int .i64 r) := hA5.cell 0
                    have x1 : w5.cell? ⟨w2.heap.size, 1, none⟩ = some (.int .i64 (W : Int)) := hA5.cell 1
                    have x2 : w5.cell? ⟨w2.heap.size, 2, none⟩ = some (.slice A zs.length c) := hA5.cell 2
                    have g1 : w5.cell? ⟨wo.heap.size, 1, none⟩ = some (.int .i64 (cnt : Int)) := hG5.cell 1
                    go_wp2_with fail
                    refine (Beside_down_at r W zs A c _ _ sn _ hbb (by omega) (by omega) _ HI5.out hl HOK.out hn1).mono ?_
                    rintro e w6 ⟨rfl, hb⟩
                    have hA6 := hA5.keep hb
                    have hG6 := hG5.keep hb
                    have HI6 := Lib.hid (HI5.out.keep hb)
                    have HO6 := Lib.hid (own_keep HO5.out hb)
                    have hb6 := ext_trans hb5 hb
                    clear hb hA5 hG5 HI5 HO5 hb5 x0 x1 x2 g1 hbb
                    have x0 : w6.cell? ⟨w2.heap.size, 0, none⟩ = some (.int .i64 r) := hA6.cell 0
                    have x1 : w6.cell? ⟨w2.heap.size, 1, none⟩ = some (.int .i64 (W : Int)) := hA6.cell 1
                    have x2 : w6.cell? ⟨w2.heap.size, 2, none⟩ = some (.slice A zs.length c) := hA6.cell 2
                    have g1 : w6.cell? ⟨wo.heap.size, 1, none⟩ = some (.int .i64 (cnt : Int)) := hG6.cell 1
                    go_wp2_with fail
                    go_roundw
                    case rel => exact ⟨k + 1, by omega, by first | go_num | (congr 1; omega), hG6, hA6, HI6.out, HO6.out, hb6⟩
                    case measure => simp [intOf]; omega
                  · have hn2 : r * (W : Int) ≤ (sn : Int) + 1 := by omega
                    go_wp2_with fail
                    go_roundw
                    case rel => exact ⟨k + 1, by omega, by first | go_num | (congr 1; omega), hG4, hA4, HI4.out, HO4.out, hb4⟩
                    case measure => simp [intOf]; omega
            · have k1 : (0 : Int) < (k : Int) := by omega
              have k2 : ¬ (k : Int) < (cnt : Int) - 1 := by omega
              have k4 : ((k : Int) == 0) = false := beq_eq_false_iff_ne.2 (by omega)
              have k5 : ((k : Int) == (cnt : Int) - 1) = true := beq_iff_eq.2 (by omega)
              have hkc : ¬ k + 1 < cnt := by omega
              have hkc2 : ¬ (k : Int) + 1 < (cnt : Int) := by omega
              clear hor
              rcases hsome with ⟨rfl, rfl⟩ | ⟨rfl, rfl⟩ | ⟨rfl, rfl⟩
              all_goals
                by_cases hn1 : (sn : Int) + 1 < r * W
                · have hbb : besB W zs (sn : Int) ((sn : Int) + 1) = false := by rw [HBES.out hn1, decide_eq_false hkc]
                  go_wp2_with fail
                  refine (Beside_up_at r W zs A c _ _ sn _ hbb (by omega) (by omega) _ HI4.out hl HOK.out hn1).mono ?_
                  rintro e w5 ⟨rfl, hb⟩
                  have hA5 := hA4.keep hb
                  have hG5 := hG4.keep hb
                  have HI5 := Lib.hid (HI4.out.keep hb)
                  have HO5 := Lib.hid (own_keep HO4.out hb)
                  have hb5 := ext_trans hb4 hb
                  clear hb hA4 hG4 HI4 HO4 hb4 x0 x1 x2 g1
                  have x0 : w5.cell? ⟨w2.heap.size, 0, none⟩ = some (.int .i64 r) := hA5.cell 0
                  have x1 : w5.cell? ⟨w2.heap.size, 1, none⟩ = some (.int .i64 (W : Int)) := hA5.cell 1
                  have x2 : w5.cell? ⟨w2.heap.size, 2, none⟩ = some (.slice A zs.length c) := hA5.cell 2
                  have g1 : w5.cell? ⟨wo.heap.size, 1, none⟩ = some (.int .i64 (cnt : Int)) := hG5.cell 1
                  go_wp2_with fail
                  refine (Beside_down_at r W zs A c _ _ sn _ hbb (by omega) (by omega) _ HI5.out hl HOK.out hn1).mono ?_
                  rintro e w6 ⟨rfl, hb⟩
                  have hA6 := hA5.keep hb
                  have hG6 := hG5.keep hb
                  have HI6 := Lib.hid (HI5.out.keep hb)
                  have HO6 := Lib.hid (own_keep HO5.out hb)
                  have hb6 := ext_trans hb5 hb
                  clear hb hA5 hG5 HI5 HO5 hb5 x0 x1 x2 g1 hbb
                  have x0 : w6.cell? ⟨w2.heap.size, 0, none⟩ = some (.int .i64 r) := hA6.cell 0
                  have x1 : w6.cell? ⟨w2.heap.size, 1, none⟩ = some (.int .i64 (W : Int)) := hA6.cell 1
                  have x2 : w6.cell? ⟨w2.heap.size, 2, none⟩ = some (.slice A zs.length c) := hA6.cell 2
                  have g1 : w6.cell? ⟨wo.heap.size, 1, none⟩ = some (.int .i64 (cnt : Int)) := hG6.cell 1
                  go_wp2_with fail
                  go_roundw
                  case rel => exact ⟨k + 1, by omega, by first | go_num | (congr 1; omega), hG6, hA6, HI6.out, HO6.out, hb6⟩
                  case measure => simp [intOf]; omega
                · have hn2 : r * (W : Int) ≤ (sn : Int) + 1 := by omega
                  go_wp2_with fail
                  go_roundw
                  case rel => exact ⟨k + 1, by omega, by first | go_num | (congr 1; omega), hG4, hA4, HI4.out, HO4.out, hb4⟩
                  case measure => simp [intOf]; omega
        · obtain rfl : k = cnt := by omega
          have HBN2 := HBN.out
          go_wp2_with fail
          go_roundw
          case rel => exact ⟨j + 1, by omega, by go_num, by rw [HBN2]; go_num, hA, HI3.out, HO3.out, hb⟩
          case measure => simp [intOf]; omega
    · obtain rfl : j = l.length := by omega
      have hall := chain_all HCH.out
      rw [Nat.zero_add] at hall
      rw [hall]
      have hnr := HNR.out
      have hcnt := HCNT.out
      have e1 : ((n : Int) == r * (W : Int)) = true := beq_iff_eq.2 hnr
      have e2 : ((l.length : Int) == r * ((zs.length : Int) + 1)) = true := beq_iff_eq.2 hcnt
      have v9 : IntKind.i64.wrap (r * ((zs.length : Int) + 1)) = r * ((zs.length : Int) + 1) := IntWalk.i64_in _ (by omega)
      have HNR' := HNR
      clear hnr hcnt hown
      go_wp2_with fail
      go_ret
      exact ⟨by first | rfl | simp, hb⟩

end Go.Proofs.YtablpncipkbfhaaDoor.Cab
