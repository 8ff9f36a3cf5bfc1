/- Packed: Scan, Scan2, Scan3, AwkPlain. -/
import Derived.Test.YtbnkanehjnepbaaGreatDoorPk8
import Derived.Deep.CutRange
import Derived.Test.YtbnkanehjnepbaaGreatDoorPk1
import Derived.Scope
import Derived.Shelf.Abstract
import Derived.RegionIn
import Derived.KernelRfl
set_option linter.unusedVariables false
set_option linter.unusedSimpArgs false
/- Layer 8: a frame is read. -/
section
set_option linter.unusedVariables false
set_option linter.unusedSimpArgs false
namespace Go.Proofs.YtbnkanehjnepbaaGreatDoor.En
open Go.RowKit
open Go.Proofs.YtbnkanehjnepbaaGreatDoor.Oc (le val Bs bytesV byteV okA okA_some okA_none ClOut RdAt tk tk_ok tk_short tk_err tk_len bytesV_len)
open Go.Proofs.YtbnkanehjnepbaaGreatDoor.Cr (CrcTab crc)

theorem tk_five (bs : By) (n : Nat) (t2 t3 t4 t5 : By × By × Int) (h2 : tk bs 0 8 = t2) (h3 : tk t2.2.1 t2.2.2 8 = t3) (h4 : tk t3.2.1 t3.2.2 n = t4) (h5 : tk t4.2.1 t4.2.2 4 = t5) :
    (t5.2.2 = 0 ↔ 20 + n ≤ bs.length) ∧ (20 + n ≤ bs.length → t2.1 = bs.take 8 ∧ t3.1 = (bs.drop 8).take 8 ∧ t4.1 = (bs.drop 16).take n ∧ t5.1 = (bs.drop (16 + n)).take 4) := by
  by_cases h : 20 + n ≤ bs.length
  · rw [tk_ok (by omega)] at h2
    subst h2
    simp only at h3
    rw [tk_ok (by rw [List.length_drop]; omega)] at h3
    subst h3
    simp only at h4
    rw [tk_ok (by rw [List.length_drop, List.length_drop]; omega)] at h4
    subst h4
    simp only at h5
    rw [tk_ok (by rw [List.length_drop, List.length_drop, List.length_drop]; omega)] at h5
    subst h5
    refine ⟨by simp [h], fun _ => ?_⟩
    simp [List.drop_drop]
  · refine ⟨⟨fun h0 => absurd h0 ?_, fun h0 => absurd h0 h⟩, fun h0 => absurd h0 h⟩
    have hE : ∀ (l : By) (e : Int) (k : Nat), e ≠ 0 → (tk l e k).2.2 ≠ 0 := fun l e k he => by rw [tk_err he]; exact he
    rcases Nat.lt_or_ge bs.length 8 with c1 | c1
    · rw [tk_short c1] at h2; subst h2
      rw [← h5, ← h4, ← h3]; exact hE _ _ _ (hE _ _ _ (hE _ _ _ (by decide)))
    · rw [tk_ok c1] at h2; subst h2
      simp only at h3
      rcases Nat.lt_or_ge (bs.drop 8).length 8 with c2 | c2
      · rw [tk_short c2] at h3; subst h3
        rw [← h5, ← h4]; exact hE _ _ _ (hE _ _ _ (by decide))
      · rw [tk_ok c2] at h3; subst h3
        simp only at h4
        rcases Nat.lt_or_ge ((bs.drop 8).drop 8).length n with c3 | c3
        · rw [tk_short c3] at h4; subst h4
          rw [← h5]; exact hE _ _ _ (by decide)
        · rw [tk_ok c3] at h4; subst h4
          simp only at h5
          rw [List.length_drop] at c2
          rw [List.length_drop, List.length_drop] at c3
          rw [tk_short (by rw [List.length_drop, List.length_drop, List.length_drop]; omega)] at h5
          subst h5; decide
def frV (A : Option Addr) (c : Nat) (f : Fr) : Array Value := #[.int .u64 (f.epoch : Nat), .int .u64 (f.seq : Nat), .slice A f.body.length c]
def FgOut (b : By) (w : World) (e : Ending) (w' : World) : Prop :=
  Below w.heap.size w w' ∧ ((fget b).1 ≠ 0 ∧ e = .returned (.tuple #[.agg #[.int .u64 0, .int .u64 0, .slice none 0 0], .int .i64 0, .int .i64 (fget b).1]) ∨
    (fget b).1 = 0 ∧ ∃ A c, e = .returned (.tuple #[.agg (frV A c (fget b).2), .int .i64 ((fget b).2.size : Nat), .int .i64 0]) ∧ ((fget b).2.body ≠ [] → ∃ g, A = some ⟨g, 0, none⟩ ∧ w.heap.size ≤ g ∧ Blk w' 5 g (fget b).2.body) ∧ (∀ g off, A = some ⟨g, off, none⟩ → w.heap.size ≤ g))
theorem fr_size : (Tryz.prog.info? 234).map (·.size) = some 3 := by kernel_rfl
theorem results_cell_tmp2 {P : Program} {fn : Func} {p q r : Tmp} {ty : TypeId} (h : fn.results = #[.cell p ty, .tmp q, .tmp r]) (tmps : Array Value) {w : World} {ad : Addr} {v : Value}
    (hp : tmps.getD p undef = .pointer (some ad)) (hl : (loadVar ty ad).run P w = .ok v w) : (results fn tmps).run P w = .ok (.tuple #[v, tmps.getD q undef, tmps.getD r undef]) w := by
  have hp' : tmps[p]?.getD undef = .pointer (some ad) := by simpa using hp
  simp [results, h, hp', asAddr, hl]
-- frame.Get
set_option maxRecDepth 100000 in
set_option maxHeartbeats 4000000 in
theorem FGet_in (b : By) (g off c : Nat) (w : World) (hB : Bs w (some ⟨g, off, none⟩) b) (hc : b.length ≤ c) (hl : b.length ≤ 268435456) (ht : CrcTab w) :
    Calls Tryz.prog 217 #[.slice (some ⟨g, off, none⟩) b.length c] w (FgOut b w) := by
  obtain ⟨rr, hrr⟩ : ∃ rr, w.heap.size = rr := ⟨_, rfl⟩
  obtain ⟨w0, hw0⟩ : ∃ w0, w.alloc (.cells #[.int .u64 0, .int .u64 0, .slice none 0 0] 234) = w0 := ⟨_, rfl⟩
  have hb0 : Below w.heap.size w w0 := by rw [← hw0]; exact ext_alloc (Below.refl _ _) _
  have ha0 : Arr w0 rr 234 #[.int .u64 0, .int .u64 0, .slice none 0 0] := by rw [← hw0, ← hrr]; exact Arr.fresh w _ _
  obtain ⟨m, hm⟩ : ∃ m, (b.take 54).length = m := ⟨_, rfl⟩
  have hm2 : m = min 54 b.length := by rw [← hm, List.length_take]
  have HOF := Oc.Of_in (b.take 54) (some ⟨g, off, none⟩) c w0 ((hB.take 54).keep hb0) (okA_some _ _) (by rw [hm, hm2]; omega)
  rw [hm] at HOF
  have hmi : (min (b.length : Int) 54) = (m : Int) := by omega
  have hlc : (b.length : Int) ≤ (c : Int) := by omega
  have hmc : (m : Int) ≤ (c : Int) := by omega
  have hm0 : (0 : Int) ≤ (m : Int) := by omega
  have HB := Lib.hid hB; have HT := Lib.hid ht; have HOF := Lib.hid HOF; have HM := Lib.hid hm; have HM2 := Lib.hid hm2; have HB0 := Lib.hid hb0; have HA0 := Lib.hid ha0; have HRR := Lib.hid hrr; have HW0 := Lib.hid hw0; have HL := Lib.hid hl; have HC := Lib.hid hc
  clear hB ht hm hm2 hb0 ha0 hrr hw0 hl hc
  go_enter Tryz.func217, Tryz.ntmps217
  go_upto_region 1 with fail
  rw [HW0.out, HRR.out]
  go_cut [5] from 10 to 15 (fun s5 wc => ∃ p q, s5 = .pointer (some ⟨p, 0, none⟩) ∧ RdAt wc p q (b.take 54) 0 ∧ w0.heap.size ≤ q ∧ Below w0.heap.size w0 wc)
  case first =>
    go_wp2_with fail
    · obtain rfl : m = 54 := by have := HM2.out; omega
      refine HOF.out.mono ?_
      rintro e w2 ⟨p, q, rfl, hrd, hpw, hqw, hb2⟩
      go_wp2_with fail
      go_meet
      exact ⟨p, q, rfl, hrd, hqw, hb2⟩
    · obtain rfl : m = b.length := by have := HM2.out; omega
      refine HOF.out.mono ?_
      rintro e w2 ⟨p, q, rfl, hrd, hpw, hqw, hb2⟩
      go_wp2_with fail
      go_meet
      exact ⟨p, q, rfl, hrd, hqw, hb2⟩
  case rest =>
    obtain ⟨p, q, rfl, hrd, hqw, hb2⟩ := hcut
    have HRD := Lib.hid hrd; have HQW := Lib.hid hqw; have HB2 := Lib.hid (show Below w.heap.size w wc from ext_trans HB0.out hb2); have HA2 := Lib.hid (HA0.out.keep hb2)
    have hrq : rr ≠ q := by have h1 := HA0.out.lt; omega
    have HRQ := Lib.hid hrq
    have hqw2 : w.heap.size ≤ q := Nat.le_trans HB0.out.size hqw
    have HQ2 := Lib.hid hqw2
    clear hrd hqw hb2 hrq hqw2 HOF HB0 HA0 HW0 hmi hmc hm0
    by_cases hs : m < 2
    · have HFG := Lib.hid (show fget b = (4, Fr.zero) from by unfold fget; rw [if_pos (by rw [HM.out]; exact hs)])
      go_wp2_with fail
      refine (Oc.RTwo_in p q (b.take 54) 0 wc HRD.out).mono ?_
      unfold Oc.RdOut
      rw [tk_short (by rw [HM.out]; exact hs)]
      rintro e w3 ⟨rfl, hrd3, ht3⟩
      have HRD3 := Lib.hid hrd3; have HA3 := Lib.hid (ht3.arr HA2.out HRQ.out); have HB3 := Lib.hid (ht3.fresh HB2.out (fun k e => by have := HQ2.out; omega))
      clear hrd3 ht3 hs
      go_wp2_with fail
      refine (Oc.RErr_in p q [] 4 w3 HRD3.out).mono ?_
      rintro e w4 ⟨rfl, hw4⟩
      rw [hw4]
      clear hw4 w4
      go_wp2_with (first | (refine wpList_store_blk rfl 234 _ _ rfl rr 234 _ #[.int .u64 0, .int .u64 0, .slice none 0 0] HA3.out rfl rfl rfl fr_size (by simp [Value.oneCell']) ?_; intro wz hAz hgz hsz; have HAz := Lib.hid hAz; have HGz := Lib.hid hgz; clear hAz hgz hsz))
      refine bodyPost_ret (results_cell_tmp2 Tryz.results217 _ (by rfl) (run_load_blk 234 HAz.out _ Tryz.underlying234 rfl fr_size)) rfl ?_
      exact ⟨ext_only HB3.out HGz.out (by have := HRR.out; omega), .inl ⟨by rw [HFG.out]; decide, by rw [HFG.out]; rfl⟩⟩
    · go_wp2_with fail
      refine (Oc.RTwo_in p q (b.take 54) 0 wc HRD.out).mono ?_
      unfold Oc.RdOut
      rw [tk_ok (by rw [HM.out]; omega)]
      simp only
      obtain ⟨n, hn⟩ : ∃ n, val ((b.take 54).take 2) = n := ⟨_, rfl⟩
      have hnl : n < 65536 := by rw [← hn]; exact Nat.lt_of_lt_of_le (Oc.val_lt _) (Nat.pow_le_pow_right (by decide : 0 < 256) (show _ ≤ 2 by rw [List.length_take]; exact Nat.min_le_left _ _))
      obtain ⟨L1, hL1⟩ : ∃ L1, (b.take 54).drop 2 = L1 := ⟨_, rfl⟩
      have hl1 : L1.length = m - 2 := by rw [← hL1, List.length_drop, HM.out]
      rw [hn, hL1]
      rintro e w3 ⟨rfl, hrd3, ht3⟩
      have HRD3 := Lib.hid hrd3; have HT3 := Lib.hid ht3; have HA3 := Lib.hid (ht3.arr HA2.out HRQ.out); have HN := Lib.hid hn; have HL1 := Lib.hid hl1; have HL1e := Lib.hid hL1; have HMS := Lib.hid hs
      have HB3 := Lib.hid (ht3.fresh HB2.out (fun k e => by have := HQ2.out; omega))
      clear hrd3 ht3 hn hL1 hl1 hs
      have hnl' : (n : Int) < 65536 := by omega
      have hn0 : (0 : Int) ≤ (n : Int) := by omega
      go_wp2_with fail
      refine (Oc.RErr_in p q L1 0 w3 HRD3.out).mono ?_
      rintro e w4 ⟨rfl, hw4⟩
      rw [hw4]
      clear hw4 w4
      by_cases hn3 : 32 < n
      · have HFG := Lib.hid (show fget b = (80, Fr.zero) from by unfold fget; rw [if_neg (by rw [HM.out]; exact HMS.out), if_pos (by rw [HN.out]; exact hn3)])
        have hn4 : (32 : Int) < (n : Int) := by omega
        go_wp2_with (first | (refine wpList_store_blk rfl 234 _ _ rfl rr 234 _ #[.int .u64 0, .int .u64 0, .slice none 0 0] HA3.out rfl rfl rfl fr_size (by simp [Value.oneCell']) ?_; intro wz hAz hgz hsz; have HAz := Lib.hid hAz; have HGz := Lib.hid hgz; clear hAz hgz hsz))
        refine bodyPost_ret (results_cell_tmp2 Tryz.results217 _ (by rfl) (run_load_blk 234 HAz.out _ Tryz.underlying234 rfl fr_size)) rfl ?_
        exact ⟨ext_only HB3.out HGz.out (by have := HRR.out; omega), .inl ⟨by rw [HFG.out]; decide, by rw [HFG.out]; rfl⟩⟩
      · have hn4 : decide ((32 : Int) < (n : Int)) = false := by rw [decide_eq_false_iff_not]; omega
        have hn6 : decide (32 < n) = false := by rw [decide_eq_false_iff_not]; omega
        have hnn : n ≤ 32 := by omega
        have HNN := Lib.hid hnn
        clear hnn hnl hnl'
        have HN3 := Lib.hid hn3
        obtain ⟨t2, ht2⟩ : ∃ t2, tk L1 0 8 = t2 := ⟨_, rfl⟩
        obtain ⟨t3, ht3⟩ : ∃ t3, tk t2.2.1 t2.2.2 8 = t3 := ⟨_, rfl⟩
        obtain ⟨t4, ht4⟩ : ∃ t4, tk t3.2.1 t3.2.2 n = t4 := ⟨_, rfl⟩
        obtain ⟨t5, ht5⟩ : ∃ t5, tk t4.2.1 t4.2.2 4 = t5 := ⟨_, rfl⟩
        have HFV := Lib.hid (tk_five L1 n t2 t3 t4 t5 ht2 ht3 ht4 ht5)
        have HE2 := Lib.hid ht2; have HE3 := Lib.hid ht3; have HE4 := Lib.hid ht4; have HE5 := Lib.hid ht5
        clear ht2 ht3 ht4 ht5 hn3
        go_wp2_with fail
        refine (Oc.REight_in p q L1 0 w3 HRD3.out).mono ?_
        unfold Oc.RdOut
        rw [HE2.out]
        rintro e w4 ⟨rfl, hrd4, ht4⟩
        have HRD4 := Lib.hid hrd4; have HT4 := Lib.hid (HT3.out.trans ht4)
        clear hrd4 ht4
        go_wp2_with fail
        refine (Oc.REight_in p q t2.2.1 t2.2.2 w4 HRD4.out).mono ?_
        unfold Oc.RdOut
        rw [HE3.out]
        rintro e w5 ⟨rfl, hrd5, ht5⟩
        have HRD5 := Lib.hid hrd5; have HT5 := Lib.hid (HT4.out.trans ht5)
        clear hrd5 ht5
        go_wp2_with fail
        refine (Oc.RTake_any p q n t3.2.1 t3.2.2 w5 HRD5.out (by have := HNN.out; omega)).mono ?_
        unfold Oc.RtOut
        rw [HE4.out]
        rintro e w6 ⟨A6, c6, rfl, hbk, hfr, hrd6, ht6⟩
        have HRD6 := Lib.hid hrd6; have HT6 := Lib.hid (HT5.out.trans ht6); have HBK := Lib.hid hbk; have HFR := Lib.hid hfr; have HZ5 := Lib.hid HT5.out.size
        clear hbk hfr hrd6 ht6
        go_wp2_with fail
        obtain ⟨fb, hfb⟩ : ∃ fb, w6.heap.size = fb := ⟨_, rfl⟩
        obtain ⟨w7, hw7⟩ : ∃ w7, w6.alloc (.cells #[.int .u64 (val t2.1 : Nat), .int .u64 (val t3.1 : Nat), .slice A6 t4.1.length c6] 234) = w7 := ⟨_, rfl⟩
        have hb7 : Below w6.heap.size w6 w7 := by rw [← hw7]; exact ext_alloc (Below.refl _ _) _
        have ha7 : Arr w7 fb 234 #[.int .u64 (val t2.1 : Nat), .int .u64 (val t3.1 : Nat), .slice A6 t4.1.length c6] := by rw [← hw7, ← hfb]; exact Arr.fresh w6 _ _
        have hfq : fb ≠ q := by
          obtain ⟨_, _, h1, _⟩ := HRD6.out.rest.ex
          have := h1.lt; omega
        rw [hw7, hfb]
        have HRD7 := Lib.hid (HRD6.out.keep hb7); have HT7 := Lib.hid (HT6.out.below hb7); have HFB := Lib.hid hfb; have HA7 := Lib.hid ha7; have HFQ := Lib.hid hfq; have HB7 := Lib.hid hb7
        clear hb7 ha7 hfq hw7 hfb
        refine (Oc.RFour_in p q t4.2.1 t4.2.2 w7 HRD7.out).mono ?_
        unfold Oc.RdOut
        rw [HE5.out]
        rintro e w8 ⟨rfl, hrd8, ht8⟩
        have HRD8 := Lib.hid hrd8; have HT8 := Lib.hid (HT7.out.trans ht8); have HA8 := Lib.hid (ht8.arr HA7.out HFQ.out); have HTT := Lib.hid ht8
        clear hrd8 ht8
        go_wp2_with fail
        refine (FSize_in n HNN.out w8).mono ?_
        rintro e w9 ⟨rfl, hw9⟩
        rw [hw9]
        clear hw9 w9
        go_wp2_with fail
        refine (Oc.RErr_in p q t5.2.1 t5.2.2 w8 HRD8.out).mono ?_
        rintro e w9 ⟨rfl, hw9⟩
        rw [hw9]
        clear hw9 w9
        obtain ⟨e5, he5⟩ : ∃ e5, t5.2.2 = e5 := ⟨_, rfl⟩
        rw [he5] at HFV ⊢
        clear he5
        have HBL := Lib.hid (show Below w.heap.size w w8 from HT8.out.fresh HB2.out (fun k e => by have := HQ2.out; omega))
        have HA8r := Lib.hid (HT8.out.arr HA2.out HRQ.out)
        by_cases h5 : e5 = 0
        · subst h5
          have hen : 20 + n ≤ L1.length := HFV.out.1.1 rfl
          obtain ⟨f2, f3, f4, f5⟩ := HFV.out.2 hen
          have hmn : 22 + n ≤ m := by have h1 := HL1.out; have h2 := HMS.out; omega
          have hmb : m ≤ b.length := by have := HM2.out; omega
          have hsb : Bs w8 (some ⟨g, off, none⟩) (b.take (18 + n)) := by
            have hB := HB.out
            have h1 : g < w.heap.size := by
              obtain ⟨g', o', e', h1, _⟩ := hB (by intro e; rw [e] at hmb; simp at hmb; omega)
              injection e' with e'; injection e' with e'; omega
            exact ((hB.keep HBL.out).take (18 + n))
          have HSB := Lib.hid hsb; have HF2 := Lib.hid f2; have HF3 := Lib.hid f3; have HF4 := Lib.hid f4; have HF5 := Lib.hid f5; have HMN := Lib.hid hmn; have HMB := Lib.hid hmb
          have hlen : (b.take (18 + n)).length = 18 + n := by rw [List.length_take]; omega
          have HCR := Cr.Sum_in (b.take (18 + n)) (some ⟨g, off, none⟩) c w8 hsb (HT.out.keep HBL.out) (by rw [hlen]; have := HNN.out; omega)
          rw [hlen] at HCR
          have HCR := Lib.hid HCR
          obtain ⟨k, hk⟩ : ∃ k, 18 + n = k := ⟨_, rfl⟩
          rw [hk] at HCR
          have hkc : (k : Int) ≤ (c : Int) := by have := HC.out; omega
          have hk0 : (0 : Int) ≤ (k : Int) := by omega
          have hwp : wrap64 (22 + (n : Int) - 4) = (k : Int) := by
            have := HNN.out
            unfold wrap64; omega
          have HK := Lib.hid hk
          clear hen f2 f3 f4 f5 hmn hmb hsb hlen hk
          have hbt : (b.take 54).take (18 + n) = b.take (18 + n) := by rw [List.take_take]; congr 1; have := HNN.out; omega
          have hvs : val (((b.take 54).drop (18 + n)).take 4) = val t5.1 := by rw [HF5.out, ← HL1e.out, List.drop_drop]; congr 3; omega
          obtain ⟨v5, hv5⟩ : ∃ v5, val t5.1 = v5 := ⟨_, rfl⟩
          obtain ⟨CR, hCR⟩ : ∃ CR, crc 0 (b.take (18 + n)) = CR := ⟨_, rfl⟩
          rw [hv5] at hvs ⊢
          rw [show crc 0 (b.take k) = CR from by rw [← HK.out]; exact hCR] at HCR
          have HFE := Lib.hid (show fget b = if v5 = CR then (0, ⟨val t2.1, val t3.1, t4.1⟩) else (81, Fr.zero) from by
            have h4 := HMS.out; have h1 := HMN.out
            unfold fget
            rw [if_neg (by rw [HM.out]; exact h4), if_neg (by rw [HN.out]; exact HN3.out), if_neg (by rw [HM.out, HN.out]; omega), HN.out, hvs, hCR, HF2.out, HF3.out, HF4.out, ← HL1e.out, List.drop_drop, List.drop_drop])
          clear hbt hvs hCR
          go_wp2_with fail
          refine HCR.out.mono ?_
          rintro e w9 ⟨rfl, hw9⟩
          rw [hw9]
          clear hw9 w9
          by_cases hsm : v5 = CR
          · have hq1 : (v5 != CR) = false := by simp [hsm]
            have hq2 : ((v5 : Int) != (CR : Int)) = false := by simp [hsm]
            have HFG := Lib.hid (show fget b = (0, ⟨val t2.1, val t3.1, t4.1⟩) from by rw [HFE.out, if_pos hsm])
            clear hsm
            go_wp2_with (first | (refine wpList_load_blk rfl 234 _ rfl fb 234 _ HA8.out rfl _ Tryz.underlying234 rfl fr_size ?_) | (refine wpList_store_blk rfl 234 _ _ rfl rr 234 _ #[.int .u64 (val t2.1 : Nat), .int .u64 (val t3.1 : Nat), .slice A6 t4.1.length c6] HA8r.out rfl rfl rfl fr_size (by simp [Value.oneCell']) ?_; intro wz hAz hgz hsz; have HAz := Lib.hid hAz; have HGz := Lib.hid hgz; clear hAz hgz hsz))
            refine bodyPost_ret (results_cell_tmp2 Tryz.results217 _ (by rfl) (run_load_blk 234 HAz.out _ Tryz.underlying234 rfl fr_size)) rfl ?_
            refine ⟨ext_only HBL.out HGz.out (by have := HRR.out; omega), .inr ⟨by rw [HFG.out], A6, c6, ?_, ?_, ?_⟩⟩
            · rw [HFG.out]
              have hl4 : t4.1.length = n := by rw [HF4.out, List.length_take, List.length_drop]; have h1 := HL1.out; have h2 := HMN.out; omega
              show _ = Ending.returned (.tuple #[.agg (frV A6 c6 ⟨val t2.1, val t3.1, t4.1⟩), .int .i64 ((22 + t4.1.length : Nat) : Int), .int .i64 0])
              rw [show ((22 + t4.1.length : Nat) : Int) = 22 + (n : Int) from by rw [hl4]; omega]
              rfl
            · rw [HFG.out]
              intro hne
              obtain ⟨g', e1, e2, e3⟩ := HBK.out hne
              have h1 : Blk w7 5 g' t4.1 := e3.same (HB7.out.block _ e3.lt)
              have h2 : g' ≠ q := fun e => by have h3 := HZ5.out; subst e; have h4 : g' < w5.heap.size := (by obtain ⟨_, _, h1, _⟩ := HRD5.out.rest.ex; exact h1.lt); omega
              have h3 : Blk w8 5 g' t4.1 := h1.same (HTT.out.block _ h1.lt h2)
              refine ⟨g', e1, ?_, h3.same (HGz.out.block _ h3.lt (fun e => ?_))⟩
              · have h4 := HB2.out.size; have h5 := HZ5.out; omega
              · injection e with e
                have h4 := HA2.out.lt; have h5 := HZ5.out; omega
            · intro g' off' e
              have h1 := HFR.out g' off' e
              have h4 := HB2.out.size; have h5 := HZ5.out; omega
          · have hq1 : (v5 != CR) = true := by simp [hsm]
            have hq2 : ((v5 : Int) != (CR : Int)) = true := by simp; omega
            have HFG := Lib.hid (show fget b = (81, Fr.zero) from by rw [HFE.out, if_neg hsm])
            clear hsm
            go_wp2_with (first | (refine wpList_store_blk rfl 234 _ _ rfl rr 234 _ #[.int .u64 0, .int .u64 0, .slice none 0 0] HA8r.out rfl rfl rfl fr_size (by simp [Value.oneCell']) ?_; intro wz hAz hgz hsz; have HAz := Lib.hid hAz; have HGz := Lib.hid hgz; clear hAz hgz hsz))
            refine bodyPost_ret (results_cell_tmp2 Tryz.results217 _ (by rfl) (run_load_blk 234 HAz.out _ Tryz.underlying234 rfl fr_size)) rfl ?_
            exact ⟨ext_only HBL.out HGz.out (by have := HRR.out; omega), .inl ⟨by rw [HFG.out]; decide, by rw [HFG.out]; rfl⟩⟩
        · have hn1 : (e5 != 0) = true := by simp [h5]
          have HFG := Lib.hid (show fget b = (4, Fr.zero) from by
            have h1 := HFV.out.1
            have h2 : ¬ 20 + n ≤ L1.length := fun hh => h5 (h1.2 hh)
            have h3 := HL1.out; have h4 := HMS.out
            unfold fget
            rw [if_neg (by rw [HM.out]; exact h4), if_neg (by rw [HN.out]; exact HN3.out), if_pos (by rw [HM.out, HN.out]; omega)])
          clear h5
          go_wp2_with (first | (refine wpList_store_blk rfl 234 _ _ rfl rr 234 _ #[.int .u64 0, .int .u64 0, .slice none 0 0] HA8r.out rfl rfl rfl fr_size (by simp [Value.oneCell']) ?_; intro wz hAz hgz hsz; have HAz := Lib.hid hAz; have HGz := Lib.hid hgz; clear hAz hgz hsz))
          refine bodyPost_ret (results_cell_tmp2 Tryz.results217 _ (by rfl) (run_load_blk 234 HAz.out _ Tryz.underlying234 rfl fr_size)) rfl ?_
          exact ⟨ext_only HBL.out HGz.out (by have := HRR.out; omega), .inl ⟨by rw [HFG.out]; decide, by rw [HFG.out]; rfl⟩⟩

end Go.Proofs.YtbnkanehjnepbaaGreatDoor.En
end

/- Layer 8: a row of frames that is empty. -/
section
set_option linter.unusedVariables false
set_option linter.unusedSimpArgs false
namespace Go.Proofs.YtbnkanehjnepbaaGreatDoor.En
open Go.RowKit
open Go.Proofs.YtbnkanehjnepbaaGreatDoor.Oc (le val Bs bytesV byteV okA okA_some okA_none ClOut RdAt tk tk_ok tk_short tk_err tk_len bytesV_len nil_no)
open Go.Proofs.YtbnkanehjnepbaaGreatDoor.Cr (CrcTab crc)

theorem noGoto_ret {Q : Exit → Act → World → Prop} {a : Act} {w : World} (h : Q .ret a w) : Exit.noGoto Q .ret a w := h
-- bytes.Clone
set_option maxRecDepth 100000 in
set_option maxHeartbeats 2000000 in
theorem BClone_in (bs : By) (g off c : Nat) (w : World) (hB : Bs w (some ⟨g, off, none⟩) bs) (hne : bs ≠ []) (hl : bs.length ≤ 268435456) : Calls Tryz.prog 215 #[.slice (some ⟨g, off, none⟩) bs.length c] w (fun e w' => ∃ gg cc, e = .returned (.slice (some ⟨gg, 0, none⟩) bs.length cc) ∧ Bs w' (some ⟨gg, 0, none⟩) bs ∧ bs.length ≤ cc ∧ w.heap.size ≤ gg ∧ Below w.heap.size w w') := by
  have hpos : 0 < bs.length := List.length_pos_iff.2 hne
  have HB := Lib.hid hB; have HN := Lib.hid hne
  have hq := nil_no ⟨g, off, none⟩ bs.length c
  clear hB hne
  go_enter Tryz.func215, Tryz.ntmps215
  go_wp2_with (refine Oc.wp_app _ rfl _ _ rfl [] bs (some ⟨w.heap.size, 0, none⟩) 0 0 rfl rfl (by simp) (Bs.nil _ _) ⟨g, off, none⟩ bs.length c rfl rfl (HB.out.keep (ext_alloc (Below.refl _ _) _)) (by omega) (by omega) ?_; intro g5 c5 w5 hg5 hb5 hx5 hc5; have HG5 := Lib.hid hg5; have HB5 := Lib.hid hb5; have HX5 := Lib.hid hx5; have HC5 := Lib.hid hc5; clear hg5 hb5 hx5 hc5)
  go_ret
  have hz := HG5.out
  exact ⟨g5, c5, by simp, (HB5.out.bs), by have := HC5.out; simpa using this, by simp at hz; omega, ext_trans (ext_alloc (Below.refl _ _) _) HX5.out⟩
/-- what Each hands over -/
structure EchAt (W : World) (bb be bs : Nat) (b : By) (g c epoch seq : Nat) : Prop where
  row : Arr W bb 51 #[.slice (some ⟨g, 0, none⟩) b.length c]
  bytes : Bs W (some ⟨g, 0, none⟩) b
  cap : b.length ≤ c
  e : Arr W be 30 #[.int .u64 epoch]
  s : Arr W bs 30 #[.int .u64 seq]
theorem EchAt.keep {W W' : World} {bb be bs : Nat} {b : By} {g c epoch seq : Nat} (h : EchAt W bb be bs b g c epoch seq) (hb : Below W.heap.size W W') : EchAt W' bb be bs b g c epoch seq := ⟨h.row.keep hb, h.bytes.keep hb, h.cap, h.e.keep hb, h.s.keep hb⟩
def EcOut (b : By) (epoch seq : Nat) (w : World) (e : Ending) (w' : World) : Prop := ∃ bb be bs g c, e = .returned (.func (.func 216) #[] #[.pointer (some ⟨bs, 0, none⟩), .pointer (some ⟨bb, 0, none⟩), .pointer (some ⟨be, 0, none⟩)]) ∧ EchAt w' bb be bs b g c epoch seq ∧ Below w.heap.size w w'
set_option maxRecDepth 100000 in
set_option maxHeartbeats 2000000 in
theorem Each_in (b : By) (g off c epoch seq : Nat) (w : World) (hB : Bs w (some ⟨g, off, none⟩) b) (hne : b ≠ []) (hl : b.length ≤ 268435456) : Calls Tryz.prog 178 #[.slice (some ⟨g, off, none⟩) b.length c, .int .u64 (epoch : Nat), .int .u64 (seq : Nat)] w (EcOut b epoch seq w) := by
  have HCL := Lib.hid (show ∀ W, Below w.heap.size w W → Calls Tryz.prog 215 #[.slice (some ⟨g, off, none⟩) b.length c] W (fun e w' => ∃ gg cc, e = .returned (.slice (some ⟨gg, 0, none⟩) b.length cc) ∧ Bs w' (some ⟨gg, 0, none⟩) b ∧ b.length ≤ cc ∧ W.heap.size ≤ gg ∧ Below W.heap.size W w') from fun W hW => BClone_in b g off c W (hB.keep hW) hne hl)
  clear hB hne hl
  go_enter Tryz.func178, Tryz.ntmps178
  go_wp2_with fail
  obtain ⟨bb, hbb⟩ : ∃ bb, w.heap.size = bb := ⟨_, rfl⟩
  obtain ⟨w3, hw3⟩ : ∃ w3, (((w.alloc (.cells #[.slice (some ⟨g, off, none⟩) b.length c] 51)).alloc (.cells #[.int .u64 (epoch : Nat)] 30)).alloc (.cells #[.int .u64 (seq : Nat)] 30)) = w3 := ⟨_, rfl⟩
  have a0 : Arr w3 bb 51 #[.slice (some ⟨g, off, none⟩) b.length c] := by rw [← hw3, ← hbb]; exact ((Arr.fresh w _ _).alloc _).alloc _
  have a1 : Arr w3 (bb + 1) 30 #[.int .u64 (epoch : Nat)] := by rw [← hw3, ← hbb]; exact (Arr.new (by simp)).alloc _
  have a2 : Arr w3 (bb + 1 + 1) 30 #[.int .u64 (seq : Nat)] := by rw [← hw3, ← hbb]; exact Arr.new (by simp)
  have hb3 : Below w.heap.size w w3 := by rw [← hw3]; exact ext_alloc (ext_alloc (ext_alloc (Below.refl _ _) _) _) _
  rw [hw3, hbb]
  have HBB := Lib.hid hbb; have HB3 := Lib.hid hb3; have HA0 := Lib.hid a0; have HA1 := Lib.hid a1; have HA2 := Lib.hid a2
  have hcl := HCL.out w3 hb3
  clear hw3 hbb hb3 a0 a1 a2 HCL
  refine hcl.mono ?_
  rintro e w4 ⟨gg, cc, rfl, hB4, hcc, hgg, hb4⟩
  have k0 := HA0.out.keep hb4
  have x0 : w4.cell? ⟨bb, 0, none⟩ = some (.slice (some ⟨g, off, none⟩) b.length c) := k0.cell 0
  have f0 := k0.mark 0
  have hlt : bb < gg := by have := HA0.out.lt; omega
  have HK0 := Lib.hid k0; have HB4 := Lib.hid hB4; have HC4 := Lib.hid hcc; have HX4 := Lib.hid hb4; have HGG := Lib.hid hlt
  clear k0 hB4 hcc hgg hb4 hlt hcl
  go_wp2_with fail
  go_ret
  refine ⟨bb, bb + 1, bb + 1 + 1, gg, cc, rfl, ⟨HK0.out.put 0 _, ?_, HC4.out, (HA1.out.keep HX4.out).other (by show bb + 1 ≠ bb; omega) _, (HA2.out.keep HX4.out).other (by show bb + 1 + 1 ≠ bb; omega) _⟩, ?_⟩
  · exact HB4.out.tch (Tch.at w4 bb 0 _) (fun g' o' e _ hh => by injection e with e; injection e with e; have := HGG.out; omega)
  · exact (ext_trans HB3.out HX4.out).setCell (p := ⟨bb, 0, none⟩) (by have := HBB.out; show w.heap.size ≤ bb; omega) _
-- frame.Each$1, where there is no frame
theorem noGoto_normal {Q : Exit → Act → World → Prop} {a : Act} {w : World} (h : Q .normal a w) : Exit.noGoto Q .normal a w := h
theorem scan_nil {b : By} {epoch seq : Nat} (h : scan b epoch seq = []) : seq + 1 = 18446744073709551616 ∨ (fget b).1 ≠ 0 ∨ (fget b).2.next epoch seq = false := by
  unfold scan at h
  rw [scanF] at h
  by_cases h1 : seq + 1 = 18446744073709551616
  · exact .inl h1
  · rw [if_neg h1] at h
    by_cases h2 : (fget b).1 = 0
    · cases h3 : (fget b).2.next epoch seq
      · exact .inr (.inr rfl)
      · rw [if_pos ⟨h2, h3⟩] at h; cases h
    · exact .inr (.inl h2)
set_option maxHeartbeats 4000000 in
set_option maxRecDepth 100000 in
theorem Each1_none (l : Nat) (W : World) (bb be bs : Nat) (b : By) (g c epoch seq : Nat) (h : EchAt W bb be bs b g c epoch seq) (ht : CrcTab W) (hl : b.length ≤ 268435456) (hseq : seq < 18446744073709551616) (hs : scan b epoch seq = []) :
    Calls Tryz.prog 216 #[.func (.yield l) #[] #[], .pointer (some ⟨bs, 0, none⟩), .pointer (some ⟨bb, 0, none⟩), .pointer (some ⟨be, 0, none⟩)] W fun e W' => (∃ v, e = .returned v) ∧ Below W.heap.size W W' := by
  have x0 : W.cell? ⟨bb, 0, none⟩ = some (.slice (some ⟨g, 0, none⟩) b.length c) := h.row.cell 0
  have x1 : W.cell? ⟨be, 0, none⟩ = some (.int .u64 (epoch : Nat)) := h.e.cell 0
  have x2 : W.cell? ⟨bs, 0, none⟩ = some (.int .u64 (seq : Nat)) := h.s.cell 0
  have HG := Lib.hid (show ∀ w, Below W.heap.size W w → Calls Tryz.prog 217 #[.slice (some ⟨g, 0, none⟩) b.length c] w (FgOut b w) from fun w hb => FGet_in b g 0 c w (h.bytes.keep hb) h.cap hl (ht.keep hb))
  have hcap := h.cap
  have hc1 : (b.length : Int) ≤ (c : Int) := by omega
  have hc2 : (0 : Int) ≤ (b.length : Int) := by omega
  have HEC := Lib.hid h
  have HSC := Lib.hid (scan_nil hs)
  have HSQ := Lib.hid hseq
  clear h ht hs hl hseq hcap
  go_enter Tryz.func216, Tryz.ntmps216
  go_wp2_with fail
  refine wp_scope_straight ?_
  go_wp2_with fail
  refine wp_region_held_drew (S := (fun w' => w'.cell? ⟨bs, 0, none⟩ = some (.int .u64 (seq : Nat)))) (by kernel_rfl) (by exact x2) (fun hHeld => ?_)
  refine tky 0 (some 10) hHeld ?_
  refine tky 1 (some 5) hHeld ?_
  refine tky 2 (some 6) hHeld ?_
  try simp only [Act.put, List.setIfInBounds_toArray, List.set_cons_zero, List.set_cons_succ]
  refine wpAnyH_done (by kernel_rfl) ?_ _
  go_wp2_with fail
  refine wp_label ?_
  go_wp2_with fail
  obtain ⟨W0, hW0⟩ : ∃ W0, W.drew = W0 := ⟨_, rfl⟩
  have y0 : W0.cell? ⟨bb, 0, none⟩ = some (.slice (some ⟨g, 0, none⟩) b.length c) := by rw [← hW0]; exact x0
  have HB0 := Lib.hid (show Below W.heap.size W W0 by rw [← hW0]; exact ext_drew (Below.refl _ _))
  rw [hW0]
  clear x0 x1 x2 hW0
  go_loopw [5, 6] (fun k5 k6 wr => k5 = .int .i64 0 ∧ k6 = .int .u64 (seq : Nat) ∧ wr = W0) (fun _ _ _ => 0)
  case atStart => exact ⟨rfl, rfl, rfl⟩
  case round =>
    obtain ⟨rfl, rfl, hwr⟩ := hrel
    rw [hwr]
    clear hwr
    by_cases hq : seq + 1 = 18446744073709551616
    · have hw : IntKind.u64.wrap ((seq : Int) + 1) = 0 := by rw [IntKind.wrap_u64]; omega
      clear hq
      go_wp2_with fail
      refine noGoto_normal ?_
      exact bodyPost_end (results_none Tryz.results216 _ _ _) rfl ⟨⟨_, rfl⟩, HB0.out⟩
    · have hw : IntKind.u64.wrap ((seq : Int) + 1) = ((seq + 1 : Nat) : Int) := by have := HSQ.out; rw [IntKind.wrap_u64]; omega
      have HQ := Lib.hid hq
      clear hq
      have hb0 : (seq : Int) + 1 ≠ 0 := by omega
      have hb1 : ((seq : Int) + 1 != 0) = true := by simpa using hb0
      clear hb0
      go_wp2_with fail
      refine (HG.out W0 HB0.out).mono ?_
      rintro e w2 ⟨hb2, ⟨hne, rfl⟩ | ⟨he0, A, c2, rfl, _, _⟩⟩
      · have hn1 : ((fget b).1 != 0) = true := by simp [hne]
        have HB2 := Lib.hid (ext_trans HB0.out hb2)
        clear hb2 hne
        go_wp2_with fail
        refine noGoto_normal ?_
        exact bodyPost_end (results_none Tryz.results216 _ _ _) rfl ⟨⟨_, rfl⟩, by have := HB2.out; repeat (first | with_reducible exact Below.refl _ _ | with_reducible refine ext_alloc ?_ _ | with_reducible refine ext_drew ?_ | with_reducible refine ext_drewN ?_ _ | (refine ext_setCell ?_ (by simp at *; omega) _) | with_reducible refine ext_trans ?_ (by assumption))⟩
      · obtain ⟨f, hf⟩ : ∃ f, (fget b).2 = f := ⟨_, rfl⟩
        have hnx : f.epoch ≠ epoch ∨ f.seq ≠ seq + 1 := by
          rcases HSC.out with h | h | h
          · exact absurd h HQ.out
          · exact absurd he0 h
          · rw [hf] at h
            unfold Fr.next at h
            by_cases h1 : f.epoch = epoch
            · right
              intro h2
              rw [h1, h2] at h
              simp at h
            · exact .inl h1
        have HB2 := Lib.hid (ext_trans HB0.out hb2)
        have HE2 := Lib.hid (HEC.out.keep HB2.out)
        rw [hf]
        unfold frV
        obtain ⟨w3, hw3⟩ : ∃ w3, w2.alloc (.cells #[.int .u64 (f.epoch : Nat), .int .u64 (f.seq : Nat), .slice A f.body.length c2] 234) = w3 := ⟨_, rfl⟩
        have hb3 : Below w2.heap.size w2 w3 := by rw [← hw3]; exact ext_alloc (Below.refl _ _) _
        have hA3 : Arr w3 w2.heap.size 234 #[.int .u64 (f.epoch : Nat), .int .u64 (f.seq : Nat), .slice A f.body.length c2] := by rw [← hw3]; exact Arr.fresh w2 _ _
        have z1 : w3.cell? ⟨be, 0, none⟩ = some (.int .u64 (epoch : Nat)) := (HE2.out.keep hb3).e.cell 0
        have z2 : w3.cell? ⟨w2.heap.size, 0, none⟩ = some (.int .u64 (f.epoch : Nat)) := hA3.cell 0
        have z3 : w3.cell? ⟨w2.heap.size, 1, none⟩ = some (.int .u64 (f.seq : Nat)) := hA3.cell 1
        have HBE := Lib.hid (show Below W.heap.size W w3 from ext_trans HB2.out hb3)
        clear hb2 he0 hf hb3 hA3
        by_cases h1 : f.epoch = epoch
        · have h2 : f.seq ≠ seq + 1 := by rcases hnx with h | h; exact absurd h1 h; exact h
          have q1 : ((f.epoch : Nat) != (epoch : Nat)) = false := by simp [h1]
          have q2 : (((f.epoch : Nat) : Int) != ((epoch : Nat) : Int)) = false := by simp [h1]
          have q3 : (((f.seq : Nat) : Int) != (seq : Int) + 1) = true := by simp; omega
          clear hnx h1 h2
          go_wp2_with fail
          refine noGoto_normal ?_
          exact bodyPost_end (results_none Tryz.results216 _ _ _) rfl ⟨⟨_, rfl⟩, HBE.out⟩
        · have q1 : ((f.epoch : Nat) != (epoch : Nat)) = true := by simp [h1]
          have q2 : (((f.epoch : Nat) : Int) != ((epoch : Nat) : Int)) = true := by simp; omega
          clear hnx h1
          go_wp2_with fail
          refine noGoto_normal ?_
          exact bodyPost_end (results_none Tryz.results216 _ _ _) rfl ⟨⟨_, rfl⟩, HBE.out⟩

end Go.Proofs.YtbnkanehjnepbaaGreatDoor.En
end

/- Layer 8: Scan of a row of frames that is empty. -/
section
set_option linter.unusedVariables false
set_option linter.unusedSimpArgs false
namespace Go.Proofs.YtbnkanehjnepbaaGreatDoor.En
open Go.RowKit Go.Shelf
open Go.Proofs.YtbnkanehjnepbaaGreatDoor.Oc (le val Bs bytesV byteV okA okA_some okA_none ClOut RdAt tk tk_ok tk_short tk_err tk_len bytesV_len nil_no)
open Go.Proofs.YtbnkanehjnepbaaGreatDoor.Cr (CrcTab crc)

set_option maxHeartbeats 4000000 in
set_option maxRecDepth 100000 in
theorem FScan_none (b : By) (g off c epoch seq : Nat) (w : World) (hB : Bs w (some ⟨g, off, none⟩) b) (hne : b ≠ []) (hl : b.length ≤ 268435456) (ht : CrcTab w) (hseq : seq < 18446744073709551616) (hs : scan b epoch seq = []) :
    Calls Tryz.prog 118 #[.slice (some ⟨g, off, none⟩) b.length c, .int .u64 (epoch : Nat), .int .u64 (seq : Nat)] w fun e w' => e = .returned (.tuple #[.slice none 0 0, .int .i64 0]) ∧ Below w.heap.size w w' := by
  have HEA := Lib.hid (show ∀ W, Below w.heap.size w W → Calls Tryz.prog 178 #[.slice (some ⟨g, off, none⟩) b.length c, .int .u64 (epoch : Nat), .int .u64 (seq : Nat)] W (EcOut b epoch seq W) from fun W hW => Each_in b g off c epoch seq W (hB.keep hW) hne hl)
  have HT := Lib.hid ht; have HL := Lib.hid hl; have HQ := Lib.hid hseq; have HS := Lib.hid hs
  clear hB hne hl ht hseq hs
  refine (callsIn_wide (n := 9)).1 ?_
  refine callsIn_of_wp_marks Tryz.func118 rfl trivial ?_ rfl
  simp only [Tryz.ntmps118, List.size_toArray, List.length_cons, List.length_nil, Nat.reduceAdd, Nat.reduceSub, Array.replicate_succ, Array.replicate_zero, List.push_toArray, List.append_toArray, List.nil_append, List.cons_append]
  gi_wp2_with (refine ⟨trivial, ?_⟩; gi_at_call 178; refine (callsIn_wide.2 (HEA.out _ (by repeat (first | with_reducible exact Below.refl _ _ | with_reducible refine ext_alloc ?_ _ | with_reducible refine ext_drew ?_ | with_reducible refine ext_drewN ?_ _ | (refine ext_setCell ?_ (by simp at *; omega) _) | with_reducible refine ext_trans ?_ (by assumption))))).mono ?_; rintro e w3 ⟨bb, be, bs, g', c', rfl, hE, hb3⟩)
  obtain ⟨ob, hob⟩ : ∃ ob, w.heap.size = ob := ⟨_, rfl⟩
  obtain ⟨w2, hw2⟩ : ∃ w2, (w.alloc (.cells #[.slice none 0 0] 153)).alloc (.cells #[.int .i64 0] 3) = w2 := ⟨_, rfl⟩
  have a0 : Arr w2 ob 153 #[.slice none 0 0] := by rw [← hw2, ← hob]; exact (Arr.fresh w _ _).alloc _
  have a1 : Arr w2 (ob + 1) 3 #[.int .i64 0] := by rw [← hw2, ← hob]; exact Arr.new (by simp)
  have hb2 : Below w.heap.size w w2 := by rw [← hw2]; exact ext_alloc (ext_alloc (Below.refl _ _) _) _
  rw [hw2] at hb3
  rw [hob]
  have hb03 : Below w.heap.size w w3 := ext_trans hb2 hb3
  have A0 := Lib.hid (a0.keep hb3); have A1 := Lib.hid (a1.keep hb3); have HB := Lib.hid hb03; have HE := Lib.hid hE
  clear hw2 hob a0 a1 hb2 hb3 hb03 hE
  refine wpIn_range_none (n := 9) rfl (by decide) (gf := 216) (lb := #[.pointer (some ⟨bs, 0, none⟩), .pointer (some ⟨bb, 0, none⟩), .pointer (some ⟨be, 0, none⟩)]) rfl trivial (enters_of Tryz.func216 (by kernel_rfl) rfl) ?_ ?_
  · intro l W hW
    exact callsIn_wide.2 (Each1_none l W bb be bs b g' c' epoch seq (HE.out.keep hW) (HT.out.keep (ext_trans HB.out hW)) HL.out HQ.out HS.out)
  · intro D W hD hW hK
    have c0 : W.cell? ⟨ob, 0, none⟩ = some (.slice none 0 0) := (A0.out.keep hW).cell 0
    have c1 : W.cell? ⟨ob + 1, 0, none⟩ = some (.int .i64 0) := (A1.out.keep hW).cell 0
    have HW := Lib.hid (ext_trans HB.out hW); have HK := Lib.hid hK
    clear hW hK
    gi_wp2
    gi_region
    all_goals gi_wp2
    have hk4 : W.drew.heap[D]? = some (.deferred (some [])) := HK.out
    have hgp := grownBy_putObj' W.drew D (.deferred none)
    have hfin : Below w.heap.size w (W.drew.putObj D (.deferred none)) := (ext_drew HW.out).grown hgp (by have := HW.out.size; exact this) (fun k e => by cases e; have := HB.out.size; omega)
    refine ⟨by simp, .inl ⟨_, _, rfl, run_takeDeferred hk4, ?_⟩⟩
    exact ⟨_, results_tmp2 rfl _ _ _, rfl, hfin⟩

/-- what a scan of a log hands over, where there is no frame -/
def WsOut (S : Nat → Prop) (p : Nat) (er : Int) (D : Dev) (w : World) (e : Ending) (w' : World) : Prop := e = .returned (.tuple #[.slice none 0 0, .int .i64 0, .int .i64 er]) ∧ DvIn p D S w' ∧ Tch S w w'
-- wal.Scan
set_option maxRecDepth 100000 in
set_option maxHeartbeats 4000000 in
theorem WScan_none {S : Nat → Prop} {w : World} {r p : Nat} {g : Rg} {d : Dev} (h : RgAt w r p g d.dk.size) (hD : DvIn p d S w) (hr : ¬ S r) (ht : CrcTab w) (htS : ¬ S 1) (epoch seq : Nat) (hseq : seq < 18446744073709551616)
    (hs : (g.read d (0 : Nat) (g.bytes d.dk.size : Nat)).1 = 0 → (g.read d (0 : Nat) (g.bytes d.dk.size : Nat)).2.1 ≠ [] ∧ scan (g.read d (0 : Nat) (g.bytes d.dk.size : Nat)).2.1 epoch seq = []) :
    Calls Tryz.prog 57 #[.pointer (some ⟨r, 0, none⟩), .int .u64 (epoch : Nat), .int .u64 (seq : Nat)] w (WsOut S p (g.read d (0 : Nat) (g.bytes d.dk.size : Nat)).1 (g.read d (0 : Nat) (g.bytes d.dk.size : Nat)).2.2 w) := by
  have hby := h.bytes_le
  have hsz := hD.ok.size
  have hpos : 1 ≤ g.bytes d.dk.size := by unfold Rg.bytes; exact Nat.mul_pos h.count.1 hsz.1
  have HBY := Lib.hid (show ∀ W, Below w.heap.size w W → Calls Tryz.prog 73 #[.pointer (some ⟨r, 0, none⟩)] W (fun e w' => e = .returned (.int .i64 (g.bytes d.dk.size : Nat)) ∧ Below W.heap.size W w') from fun W hW => RBytes_in (h.keep hW))
  have HRR := Lib.hid (show ∀ W, Below w.heap.size w W → Calls Tryz.prog 112 #[.pointer (some ⟨r, 0, none⟩), .int .i64 ((0 : Nat) : Int), .int .i64 (g.bytes d.dk.size : Nat)] W (PRd S p (g.read d (0 : Nat) (g.bytes d.dk.size : Nat)) W) from fun W hW => RRead_in (h.keep hW) ((DvIn_loc p d).below hD hW) hr 0 (g.bytes d.dk.size) (by decide) hby)
  have hlen := g.read_len d 0 (g.bytes d.dk.size) hsz.1
  obtain ⟨er, bs, D, hR⟩ : ∃ er bs D, g.read d ((0 : Nat) : Int) ((g.bytes d.dk.size : Nat) : Int) = (er, bs, D) := ⟨_, _, _, rfl⟩
  obtain ⟨B, hB⟩ : ∃ B, g.bytes d.dk.size = B := ⟨_, rfl⟩
  rw [hR] at HRR hs hlen ⊢
  rw [hB] at HRR HBY hby hpos hlen
  have HT := Lib.hid ht; have HTS := Lib.hid htS; have HS := Lib.hid (show er = 0 → bs ≠ [] ∧ scan bs epoch seq = [] from hs); have HL := Lib.hid (show bs.length ≤ B from hlen); have HBL := Lib.hid hby; have HQ := Lib.hid hseq
  have hq1 : ((B : Int) == 0) = false := by rw [beq_eq_false_iff_ne]; omega
  have hq2 : (B == 0) = false := by rw [beq_eq_false_iff_ne]; omega
  clear h hD hr ht htS hs hby hsz hpos hlen hR hB hseq
  go_enter Tryz.func57, Tryz.ntmps57
  go_wp2_with fail
  refine (HBY.out w (Below.refl _ _)).mono ?_
  rintro e w1 ⟨rfl, hb1⟩
  have HB1 := Lib.hid hb1
  clear hb1
  go_wp2_with fail
  refine (HBY.out w1 HB1.out).mono ?_
  rintro e w2 ⟨rfl, hb2⟩
  have HB2 := Lib.hid (ext_trans HB1.out hb2)
  clear hb2
  go_wp2_with fail
  refine (HRR.out w2 HB2.out).mono ?_
  rintro e w3 ⟨⟨A, c, rfl, hblk, hc⟩, hD3, ht3⟩
  have HBK := Lib.hid (show bs ≠ [] → ∃ g, A = some ⟨g, 0, none⟩ ∧ w2.heap.size ≤ g ∧ Blk w3 5 g bs from hblk); have HC := Lib.hid hc; have HD3 := Lib.hid hD3; have HT3 := Lib.hid (show Tch S w w3 from (Tch.of_below HB2.out).trans ⟨ht3.os, ht3.tape, ht3.output, ht3.size, ht3.block⟩)
  clear hblk hc hD3 ht3
  by_cases h0 : er = 0
  · subst h0
    obtain ⟨hne, hsc⟩ := HS.out rfl
    obtain ⟨gg, rfl, _, hbb⟩ := HBK.out hne
    have HF := Lib.hid (FScan_none bs gg 0 c epoch seq w3 hbb.bsx hne (by have h1 := HL.out; have h2 := HBL.out; omega) (HT.out.tch HT3.out HTS.out) HQ.out hsc)
    clear hne hsc hbb
    go_wp2_with fail
    refine HF.out.mono ?_
    rintro e w4 ⟨rfl, hb4⟩
    have HB4 := Lib.hid hb4
    clear hb4
    go_wp2_with fail
    go_ret3
    exact ⟨rfl, (DvIn_loc p D).below HD3.out HB4.out, HT3.out.below HB4.out⟩
  · have hn1 : (er != 0) = true := by simp [h0]
    clear h0
    go_wp2_with fail
    go_ret3
    exact ⟨rfl, HD3.out, HT3.out⟩

end Go.Proofs.YtbnkanehjnepbaaGreatDoor.En
end

/- Layer 24: the example's device, plainly: three recoveries of it. No program in sight. -/
section
set_option linter.unusedVariables false
set_option linter.unusedSimpArgs false
namespace Go.Proofs.YtbnkanehjnepbaaGreatDoor.Aw
open Go.Proofs.YtbnkanehjnepbaaGreatDoor.En
set_option maxRecDepth 100000

def A0 : Dev := ⟨⟨64, List.replicate 20 (List.replicate 64 0), []⟩, false, -1, 0⟩
def sA : Sl := ⟨⟨0, 4⟩, ⟨4, 4⟩⟩
def gA : Rg := ⟨8, 12⟩
def bodyA : By := [12, 0, 8, 0, 0, 0, 1, 0, 0, 0, 0, 0, 0, 0, 0, 0, 0, 0, 0, 0]
def A1 : Dev := { A0 with count := 2 }
def A2 : Dev := { A0 with count := 14 }
def h1 : Hd := ⟨1, 0, 20, 1455286556⟩
def h2 : Hd := ⟨2, 0, 20, 1455286556⟩
def Z : By := List.replicate 64 0
def B3 : By := bodyA ++ List.replicate 44 0
def H3 : By := hdB h1 ++ List.replicate 32 0
def H6 : By := hdB h2 ++ List.replicate 32 0
def D3 : List By := H3 :: B3 :: List.replicate 18 Z
def A3 : Dev := ⟨⟨64, D3, []⟩, false, -1, 21⟩
def A4 : Dev := { A3 with count := 24 }
def A5 : Dev := { A3 with count := 36 }
def D6 : List By := H3 :: B3 :: Z :: Z :: H6 :: B3 :: List.replicate 14 Z
def A6 : Dev := ⟨⟨64, D6, []⟩, false, -1, 44⟩
def A7 : Dev := { A6 with armed := 0 }
def A8 : Dev := { A6 with down := true }
def L768 : By := List.replicate 768 0
theorem load0 : sA.load A0 = ⟨0, Hd.zero, [], -1, A1⟩ := by kernel_rfl
theorem read1 : gA.read A1 (0 : Nat) (gA.bytes A1.dk.size : Nat) = (0, L768, A2) := by kernel_rfl
theorem scan0 : scan L768 0 0 = [] := by kernel_rfl
theorem save2 : sA.save A2 bodyA 0 = (0, h1, A3) := by kernel_rfl
theorem load3 : sA.load A3 = ⟨0, h1, bodyA, 0, A4⟩ := by kernel_rfl
theorem read4 : gA.read A4 (0 : Nat) (gA.bytes A4.dk.size : Nat) = (0, L768, A5) := by kernel_rfl
theorem scan1 : scan L768 1 0 = [] := by kernel_rfl
theorem save5 : sA.save A5 bodyA 0 = (0, h2, A6) := by kernel_rfl
theorem arm6 : A6.arm 0 = (0, A7) := by kernel_rfl
theorem load7 : sA.load A7 = ⟨60, Hd.zero, [], 0, A8⟩ := by kernel_rfl

end Go.Proofs.YtbnkanehjnepbaaGreatDoor.Aw
end
