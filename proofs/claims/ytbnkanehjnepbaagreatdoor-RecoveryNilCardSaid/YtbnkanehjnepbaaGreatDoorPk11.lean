/- Packed: Region3, Region4, CrcPlain, EnPlain2, Crc, Frame, Wal, Wal2, Wal3, Slots, Slots2, Slots3, Slots4, Slots5. -/
import Derived.Test.YtbnkanehjnepbaaGreatDoorPk1
import Derived.Test.YtbnkanehjnepbaaGreatDoorPk10
import Derived.Test.YtbnkanehjnepbaaGreatDoorPk4
import Derived.Test.YtbnkanehjnepbaaGreatDoorPk7
import Derived.Laws.BitsAllLaws
import Derived.Maps.AppendAt
import Derived.Lib.SlBytesConst
set_option linter.unusedVariables false
set_option linter.unusedSimpArgs false
/- Layer 7: a region is written. -/
section
set_option linter.unusedVariables false
set_option linter.unusedSimpArgs false
namespace Go.Proofs.YtbnkanehjnepbaaGreatDoor.En
open Go.RowKit
open Go.Proofs.YtbnkanehjnepbaaGreatDoor.Oc (Bs bytesV byteV okA okA_some okA_none ClOut bytesV_len bytesV_one bytesV_app u8_info own_blk Concat_in)

theorem Dev.write_size (d : Dev) (at_ : Int) (b : By) : (d.write at_ b).2.dk.size = d.dk.size ∧ (d.write at_ b).2.dk.row.length ≤ d.dk.row.length + 1 ∧ (d.write at_ b).2.dk.dur.length = d.dk.dur.length := by
  unfold Dev.write
  split
  · simp only [Dev.op_dk]
    unfold Dk.write
    split
    · exact ⟨rfl, Nat.le_succ _, rfl⟩
    · split
      · exact ⟨rfl, by simp, rfl⟩
      · exact ⟨rfl, Nat.le_succ _, rfl⟩
  · rw [Dev.op_dk]; exact ⟨rfl, Nat.le_succ _, rfl⟩
theorem DvIn.ok {p : Nat} {d : Dev} {S : Nat → Prop} {w : World} (h : DvIn p d S w) : d.dk.Ok := by
  obtain ⟨kp, SK, h1⟩ := h; obtain ⟨q, h2⟩ := h1.disk; exact h2.ok
/-- what the write's closure holds: at block bb the bytes that are left, at block bx where the region lies -/
structure WrI (S : Nat → Prop) (w1 : World) (bb bx r p size : Nat) (g : Rg) (R : Int × Dev) (ps : List Piece) (W : World) : Prop where
  rg : RgAt W r p g size
  box : W.cell? ⟨bx, 0, none⟩ = some (.pointer (some ⟨r, 0, none⟩))
  body : ∃ d rem A c, DvIn p d (Gr S w1 W) W ∧ d.dk.size = size ∧ Arr W bb 51 #[.slice A rem.length c] ∧ Bs W A rem ∧ (∀ gs off, A = some ⟨gs, off, none⟩ → gs < w1.heap.size ∧ ¬ S gs ∧ gs ≠ bb) ∧ rem.length ≤ c ∧ R = wrP g d ps rem ∧ rem.length = tot ps ∧ d.dk.row.length + rem.length ≤ 1000000
  pcs : ∀ x ∈ ps, x.f < x.t ∧ x.t ≤ size
  tch : Tch (fun k => S k ∨ k = bb) w1 W
def WrE (S : Nat → Prop) (w1 : World) (bb p : Nat) (R : Int × Dev) (er : Int) (W : World) : Prop := ∃ d, R = (er, d) ∧ DvIn p d (Gr S w1 W) W ∧ Tch (fun k => S k ∨ k = bb) w1 W
structure WrO (S : Nat → Prop) (w1 : World) (bb bx r size : Nat) : Prop where
  hbx : bx < w1.heap.size ∧ ¬ S bx ∧ bx ≠ bb
  hbb : bb < w1.heap.size ∧ ¬ S bb
  hr : r < w1.heap.size ∧ ¬ S r ∧ r ≠ bb
  hS : ∀ k, S k → k < w1.heap.size
  hz : 1 ≤ size ∧ size ≤ 4096
theorem wr_fin {S : Nat → Prop} {w1 W V : World} {bb bx r p size : Nat} {g : Rg} {R : Int × Dev} {x : Piece} {ps : List Piece} (hO : WrO S w1 bb bx r size) (h : WrI S w1 bb bx r p size g R (x :: ps) W)
    {A2 : Option Addr} {c2 : Nat} {rem : By} {d3 : Dev} {er : Int} (hR : R = if er = 0 then wrP g d3 ps rem else (er, d3)) (hD : DvIn p d3 (Gr S w1 V) V) (hT : Tch (fun k => S k ∨ k = bb) w1 V)
    (hWV : ∀ k, k < w1.heap.size → ¬ S k → k ≠ bb → V.heap[k]? = W.heap[k]?) (hv : Arr V bb 51 #[.slice A2 rem.length c2]) (hB : Bs V A2 rem)
    (hA : ∀ gs off, A2 = some ⟨gs, off, none⟩ → gs < w1.heap.size ∧ ¬ S gs ∧ gs ≠ bb) (hc : rem.length ≤ c2) (htot : rem.length = tot ps) (hrow : d3.dk.row.length + rem.length ≤ 1000000) (hsz : d3.dk.size = size) :
    (Ending.returned (.int .i64 er) = .returned (.int .i64 0) ∧ WrI S w1 bb bx r p size g R ps V) ∨ ∃ er' : Int, er' ≠ 0 ∧ Ending.returned (.int .i64 er) = .returned (.int .i64 er') ∧ WrE S w1 bb p R er' V := by
  by_cases h0 : er = 0
  · subst h0
    rw [if_pos rfl] at hR
    exact .inl ⟨rfl, ⟨(hWV r hO.hr.1 hO.hr.2.1 hO.hr.2.2).trans h.rg.own, h.rg.size, h.rg.count⟩, (World.cell?_of_block (a := ⟨bx, 0, none⟩) (hWV bx hO.hbx.1 hO.hbx.2.1 hO.hbx.2.2)).trans h.box, ⟨d3, rem, A2, c2, hD, hsz, hv, hB, hA, hc, hR, htot, hrow⟩, fun y hy => h.pcs y (List.mem_cons_of_mem _ hy), hT⟩
  · rw [if_neg h0] at hR
    exact .inr ⟨er, h0, rfl, d3, hR, hD, hT⟩
-- region.Region.Write$1
set_option maxRecDepth 100000 in
set_option maxHeartbeats 4000000 in
theorem wr1_in {S : Nat → Prop} {w1 W : World} {bb bx r p size : Nat} {g : Rg} {R : Int × Dev} {x : Piece} {ps : List Piece} (hO : WrO S w1 bb bx r size) (h : WrI S w1 bb bx r p size g R (x :: ps) W) :
    Calls Tryz.prog 130 (#[.int .i64 ((g.from_ + x.s : Nat) : Int), .int .i64 x.f, .int .i64 x.t] ++ #[.pointer (some ⟨bb, 0, none⟩), .pointer (some ⟨bx, 0, none⟩)]) W fun e W' => (e = .returned (.int .i64 0) ∧ WrI S w1 bb bx r p size g R ps W') ∨ ∃ er : Int, er ≠ 0 ∧ e = .returned (.int .i64 er) ∧ WrE S w1 bb p R er W' := by
  obtain ⟨d, rem, A, c, hD, hsz, hv, hB, hA, hrc, hR, htot, hrow⟩ := h.body
  obtain ⟨hft, hts⟩ := h.pcs x (List.mem_cons_self ..)
  obtain ⟨dl, hdl⟩ : ∃ dl, x.t - x.f = dl := ⟨_, rfl⟩
  rw [tot, hdl] at htot
  have hne : rem ≠ [] := by intro e; rw [e] at htot; simp at htot; omega
  obtain ⟨gs, off, rfl, hgl, hcell⟩ := hB hne
  have hAS := hA gs off rfl
  have hz := h.tch.size
  have x3 : W.cell? ⟨bb, 0, none⟩ = some (.slice (some ⟨gs, off, none⟩) rem.length c) := hv.cell 0
  have m3 : W.frozen? ⟨bb, 0, none⟩ = false := hv.mark 0
  have x0 : W.cell? ⟨r, 0, none⟩ = some (.pointer (some ⟨p, 0, none⟩)) := h.rg.own.cell 0
  have x4 : W.cell? ⟨r, 3, none⟩ = some (.int .i64 size) := h.rg.own.cell 3
  have x5 := h.box
  obtain ⟨a, ha⟩ : ∃ a : Nat, g.from_ + x.s = a := ⟨_, rfl⟩
  rw [ha]
  have hstep : R = if (wr1 g d x rem).1 = 0 then wrP g (wr1 g d x rem).2 ps (rem.drop dl) else wr1 g d x rem := by rw [hR, wrP, hdl]
  have hdi : (x.t : Int) - (x.f : Int) = (dl : Int) := by omega
  have hd0 : (0 : Int) ≤ (dl : Int) := by omega
  have hd4 : (dl : Int) ≤ 4096 := by have := hO.hz; omega
  have hdn : (dl : Int) ≤ (rem.length : Int) := by omega
  have hdc : (dl : Int) ≤ (c : Int) := by omega
  have hnc : (rem.length : Int) ≤ (c : Int) := by omega
  -- the world behind the store, whatever is stored
  have hkp : ∀ u, Tch (· = bb) W (W.setCell ⟨bb, 0, none⟩ u) := fun u => Tch.at W bb 0 u
  have hq0 : ∀ u, (W.setCell ⟨bb, 0, none⟩ u).cell? ⟨r, 0, none⟩ = some (.pointer (some ⟨p, 0, none⟩)) := fun u => ((hkp u).cells h.rg.own.lt hO.hr.2.2 0).trans x0
  have hq4 : ∀ u, (W.setCell ⟨bb, 0, none⟩ u).cell? ⟨r, 3, none⟩ = some (.int .i64 size) := fun u => ((hkp u).cells h.rg.own.lt hO.hr.2.2 3).trans x4
  have hq5 : ∀ u, (W.setCell ⟨bb, 0, none⟩ u).cell? ⟨bx, 0, none⟩ = some (.pointer (some ⟨r, 0, none⟩)) := fun u => ((hkp u).cells (Nat.lt_of_lt_of_le hO.hbx.1 hz) hO.hbx.2.2 0).trans x5
  obtain ⟨A2, hA2⟩ : ∃ A2, (if c = dl then some (⟨gs, off, none⟩ : Addr) else some ⟨gs, off + dl, none⟩) = A2 := ⟨_, rfl⟩
  have hA2s : ∀ g' o', A2 = some ⟨g', o', none⟩ → g' = gs := by
    intro g' o' e
    rw [← hA2] at e
    split at e <;> (injection e with e; injection e with e; exact e.symm)
  have hB2 : ∀ V, V.heap[gs]? = W.heap[gs]? → W.heap.size ≤ V.heap.size → Bs V A2 (rem.drop dl) := by
    intro V hV hVz
    have hVB : Bs V (some ⟨gs, off, none⟩) rem := fun hn => by
      obtain ⟨g', o', e, hl, hc⟩ := hB hn
      injection e with e; injection e with e1 e2; subst e1 e2
      exact ⟨_, _, rfl, Nat.lt_of_lt_of_le hl hVz, fun i u hu => (World.cell?_of_block (a := ⟨gs, off + i, none⟩) hV).trans (hc i u hu)⟩
    rw [← hA2]
    split
    · rename_i e
      rw [List.drop_eq_nil_of_le (by omega)]
      exact Bs.nil _ _
    · exact hVB.drop dl
  have H := Lib.hid h; have HO := Lib.hid hO; have HD := Lib.hid hD; have HSZ := Lib.hid hsz; have HV := Lib.hid hv; have HB := Lib.hid hB; have HAS := Lib.hid hAS; have HT := Lib.hid htot; have HROW := Lib.hid hrow; have HST := Lib.hid hstep; have HFT := Lib.hid hft; have HTS := Lib.hid hts; have HDL := Lib.hid hdl; have HA2 := Lib.hid hA2s; have HB2 := Lib.hid hB2; have HA := Lib.hid ha; have HGL := Lib.hid hgl; have HZ := Lib.hid hz; have HKP := Lib.hid hkp
  have hcd : c = dl ∨ ¬ c = dl := Classical.em _
  clear h hO hD hsz hv hB hA hrc hR htot hrow hstep hft hts hdl hcell hne hA2s hB2 ha hgl hAS hz hkp
  obtain ⟨W1, hW1⟩ : ∃ W1, W.setCell ⟨bb, 0, none⟩ (.slice A2 (rem.length - dl) (c - dl)) = W1 := ⟨_, rfl⟩
  have hT1 : Tch (· = bb) W W1 := by rw [← hW1]; exact HKP.out _
  have hnS : ∀ k, k < w1.heap.size → ¬ S k → ¬ Gr S w1 W k := fun k hk hs hg => by rcases hg with hg | hg; exact hs hg; omega
  have hSl : ∀ k, Gr S w1 W k → k < W.heap.size := fun k hk => by rcases hk with hk | hk; exact Nat.lt_of_lt_of_le (HO.out.hS k hk) HZ.out; exact hk.2
  have hD1 : DvIn p d (Gr S w1 W) W1 := (DvIn_loc p d).tch HD.out hT1 fun k hk e => by subst e; exact hnS _ HO.out.hbb.1 HO.out.hbb.2 hk
  have hB1 : Bs W1 A2 (rem.drop dl) := HB2.out W1 (hT1.block gs HGL.out HAS.out.2.2) hT1.size
  have hv1 : Arr W1 bb 51 #[.slice A2 (rem.length - dl) (c - dl)] := by
    rw [← hW1]; have := HV.out.put 0 (.slice A2 (rem.length - dl) (c - dl)); simpa using this
  have hT01 : Tch (fun k => S k ∨ k = bb) w1 W1 := H.out.tch.trans (hT1.mono fun k _ e => .inr e)
  have hdr : (rem.drop dl).length = rem.length - dl := List.length_drop
  have HW1 := Lib.hid hW1; have HT1 := Lib.hid hT1; have HNS := Lib.hid hnS; have HSL := Lib.hid hSl; have HD1 := Lib.hid hD1; have HB1 := Lib.hid hB1; have HV1 := Lib.hid hv1; have HT01 := Lib.hid hT01; have HDR := Lib.hid hdr
  clear hT1 hnS hSl hD1 hB1 hv1 hT01 hW1 hdr
  by_cases hlt : dl < size
  · have hlt' : (dl : Int) < (size : Int) := by omega
    obtain ⟨er, her⟩ : ∃ er, (d.read (a : Int)).1 = er := ⟨_, rfl⟩
    obtain ⟨b, hb⟩ : ∃ b, (d.read (a : Int)).2.1 = b := ⟨_, rfl⟩
    obtain ⟨d', hd'⟩ : ∃ d', (d.read (a : Int)).2.2 = d' := ⟨_, rfl⟩
    have hrd : d.read (a : Int) = (er, b, d') := by rw [← her, ← hb, ← hd']
    have hdk' : d'.dk = d.dk := by rw [← hd']; exact Dev.read_dk _ _
    have hbl : er = 0 → b.length = size := fun e0 => by rw [← hb, ← HSZ.out]; exact Dev.read_ok (her.trans e0) HD.out.ok
    have hw1r : wr1 g d x rem = if er = 0 then d'.write (a : Int) (b.take x.f ++ rem.take dl ++ b.drop x.t) else (er, d') := by
      unfold wr1
      rw [HDL.out, HSZ.out, if_pos hlt, HA.out, hrd]
    have HRD := Lib.hid (PRead_in HD1.out (a : Int))
    rw [hrd] at HRD
    have HBL := Lib.hid hbl; have HDK' := Lib.hid hdk'; have HWR := Lib.hid hw1r
    clear her hb hd' hrd hdk' hbl hw1r
    go_enter Tryz.func130, Tryz.ntmps130
    go_wp2_with fail
    rw [HW1.out]
    have y0 : W1.cell? ⟨r, 0, none⟩ = some (.pointer (some ⟨p, 0, none⟩)) := by rw [← HW1.out]; exact hq0 _
    have y5 : W1.cell? ⟨bx, 0, none⟩ = some (.pointer (some ⟨r, 0, none⟩)) := by rw [← HW1.out]; exact hq5 _
    refine HRD.out.mono ?_
    rintro e W2 ⟨⟨Ar, cr, rfl, hblk, hcr⟩, hD2, ht2⟩
    have z0 : W2.cell? ⟨r, 0, none⟩ = some (.pointer (some ⟨p, 0, none⟩)) := (World.cell?_of_block (a := ⟨r, 0, none⟩) (ht2.block r (World.block_lt_of_cell? _ _ y0) (HNS.out r HO.out.hr.1 HO.out.hr.2.1))).trans y0
    have z5 : W2.cell? ⟨bx, 0, none⟩ = some (.pointer (some ⟨r, 0, none⟩)) := (World.cell?_of_block (a := ⟨bx, 0, none⟩) (ht2.block bx (World.block_lt_of_cell? _ _ y5) (HNS.out bx HO.out.hbx.1 HO.out.hbx.2.1))).trans y5
    have HBLK := Lib.hid hblk; have HCR := Lib.hid (show b.length ≤ cr from hcr); have HD2 := Lib.hid (show DvIn p d' (Gr S w1 W) W2 from hD2); have HT2 := Lib.hid ht2
    clear hblk hcr hD2 ht2 y0 y5 hq0 hq4 hq5 x0 x3 x4 x5 m3
    have hT02 : Tch (fun k => S k ∨ k = bb) w1 W2 := HT01.out.new (HT2.out.mono fun k _ hk => by
      rcases hk with hk | hk
      · exact .inl (.inl hk)
      · exact .inr hk.1)
    have hz2 : W.heap.size ≤ W2.heap.size := Nat.le_trans HT1.out.size HT2.out.size
    have hG2 : ∀ k, Gr S w1 W k → Gr S w1 W2 k := fun k hk => by rcases hk with hk | hk; exact .inl hk; exact .inr ⟨hk.1, Nat.lt_of_lt_of_le hk.2 hz2⟩
    have hlt2 : ∀ k, Gr S w1 W2 k → k < W2.heap.size := fun k hk => by rcases hk with hk | hk; exact Nat.lt_of_lt_of_le (HO.out.hS k hk) (Nat.le_trans HZ.out hz2); exact hk.2
    have hWV2 : ∀ k, k < w1.heap.size → ¬ S k → k ≠ bb → W2.heap[k]? = W.heap[k]? := fun k hk hs hne => (HT2.out.block k (Nat.lt_of_lt_of_le (Nat.lt_of_lt_of_le hk HZ.out) HT1.out.size) (HNS.out k hk hs)).trans (HT1.out.block k (Nat.lt_of_lt_of_le hk HZ.out) hne)
    have hV2 : Arr W2 bb 51 #[.slice A2 (rem.length - dl) (c - dl)] := HT2.out.arr HV1.out (HNS.out bb HO.out.hbb.1 HO.out.hbb.2)
    have HT02 := Lib.hid hT02; have HZ2 := Lib.hid hz2; have HG2 := Lib.hid hG2; have HLT2 := Lib.hid hlt2; have HWV2 := Lib.hid hWV2; have HV2 := Lib.hid hV2
    clear hT02 hz2 hG2 hlt2 hWV2 hV2
    by_cases h0 : er = 0
    · subst h0
      have hwr : wr1 g d x rem = d'.write (a : Int) (b.take x.f ++ rem.take dl ++ b.drop x.t) := by rw [HWR.out, if_pos rfl]
      have hbl := HBL.out rfl
      have HWR0 := Lib.hid hwr; have HBL0 := Lib.hid hbl
      have hne : b ≠ [] := by intro e; rw [e] at hbl; have := HO.out.hz; simp at hbl; omega
      obtain ⟨gb, rfl, hgb, hBb⟩ := HBLK.out hne
      have hft : (x.f : Int) ≤ (b.length : Int) := by have := HFT.out; have := HTS.out; omega
      have htl : (x.t : Int) ≤ (b.length : Int) := by have := HTS.out; omega
      have hf0 : (0 : Int) ≤ (x.f : Int) := by omega
      have ht0 : (0 : Int) ≤ (x.t : Int) := by omega
      have hfc : (x.f : Int) ≤ (cr : Int) := by have := HCR.out; omega
      have htc : (x.t : Int) ≤ (cr : Int) := by have := HCR.out; omega
      have hbc : (b.length : Int) ≤ (cr : Int) := by have := HCR.out; omega
      obtain ⟨A3, hA3⟩ : ∃ A3, (if cr = x.t then (⟨gb, 0, none⟩ : Addr) else ⟨gb, x.t, none⟩) = A3 := ⟨_, rfl⟩
      have hA3' : (if cr = x.t then some (⟨gb, 0, none⟩ : Addr) else some ⟨gb, x.t, none⟩) = some A3 := by rw [← hA3]; split <;> rfl
      have HGB := Lib.hid (show W1.heap.size ≤ gb from hgb); have HBB := Lib.hid (show Blk W2 5 gb b from hBb); have HA3 := Lib.hid hA3
      clear hgb hBb hA3 hne hwr hbl HWR HBL HBLK
      go_wp2_with fail
      refine wp_region_held_drew (S := (fun _ => True)) (by kernel_rfl) (by trivial) (fun hHeld => ?_)
      refine tky 0 (some 43) hHeld ?_
      try simp only [Act.put, List.setIfInBounds_toArray, List.set_cons_zero, List.set_cons_succ]
      refine tky 1 (some 44) hHeld ?_
      try simp only [Act.put, List.setIfInBounds_toArray, List.set_cons_zero, List.set_cons_succ]
      refine tky 2 (some 45) hHeld ?_
      try simp only [Act.put, List.setIfInBounds_toArray, List.set_cons_zero, List.set_cons_succ]
      refine tky 3 (some 46) hHeld ?_
      try simp only [Act.put, List.setIfInBounds_toArray, List.set_cons_zero, List.set_cons_succ]
      refine tky 4 (some 47) hHeld ?_
      try simp only [Act.put, List.setIfInBounds_toArray, List.set_cons_zero, List.set_cons_succ]
      refine tky 5 (some 48) hHeld ?_
      try simp only [Act.put, List.setIfInBounds_toArray, List.set_cons_zero, List.set_cons_succ]
      refine tky 6 (some 49) hHeld ?_
      try simp only [Act.put, List.setIfInBounds_toArray, List.set_cons_zero, List.set_cons_succ]
      refine wpAnyH_ready (rs := [7]) (by kernel_rfl) (by simp) ?_
      refine AllReadyH.cons rfl (fun K hK => ?_) AllReadyH.nil
      go_simp
      obtain ⟨W3, hW3⟩ : ∃ W3, (W2.alloc (.cells #[.slice (some ⟨gb, 0, none⟩) x.f cr, .slice (some ⟨gs, off, none⟩) dl c, .slice (some A3) (b.length - x.t) (cr - x.t)] 51)).drew = W3 := ⟨_, rfl⟩
      obtain ⟨sb, hsb⟩ : ∃ sb, W2.heap.size = sb := ⟨_, rfl⟩
      have hb3 : Below W2.heap.size W2 W3 := by rw [← hW3]; exact ext_drew (ext_alloc (Below.refl _ _) _)
      have ha3 : Arr W3 sb 51 #[.slice (some ⟨gb, 0, none⟩) x.f cr, .slice (some ⟨gs, off, none⟩) dl c, .slice (some A3) (b.length - x.t) (cr - x.t)] := by rw [← hW3, ← hsb]; exact Arr.fresh W2 _ _
      rw [hW3, hsb]
      have HB3 := Lib.hid hb3; have HA3r := Lib.hid ha3; have HSB := Lib.hid hsb
      clear hW3 hsb hb3 ha3
      refine hK.out _ _ (by trivial) (fun hHeld7 => ?_)
      clear hK K
      try simp only [Act.put, List.setIfInBounds_toArray, List.set_cons_zero, List.set_cons_succ]
      refine wpAnyH_ready (rs := [8]) (by kernel_rfl) (by simp) ?_
      refine AllReadyH.cons rfl (fun K hK => ?_) AllReadyH.nil
      go_simp
      have hgs3 : W3.heap[gs]? = W.heap[gs]? := (HB3.out.block gs (Nat.lt_of_lt_of_le (Nat.lt_of_lt_of_le HGL.out HT1.out.size) HT2.out.size)).trans (HWV2.out gs HAS.out.1 HAS.out.2.1 HAS.out.2.2)
      have hBs3 : Bs W3 (some ⟨gs, off, none⟩) rem := fun hn => by
        obtain ⟨g', o', e, hl, hc⟩ := HB.out hn
        injection e with e; injection e with e1 e2; subst e1 e2
        exact ⟨_, _, rfl, Nat.lt_of_lt_of_le hl (Nat.le_trans HZ2.out HB3.out.size), fun i u hu => (World.cell?_of_block (a := ⟨gs, off + i, none⟩) hgs3).trans (hc i u hu)⟩
      have hBb3 : Bs W3 (some ⟨gb, 0, none⟩) b := fun hn => (HBB.out.same (HB3.out.block gb HBB.out.lt)).bs hn
      have hl0 : (b.take x.f).length = x.f := by rw [List.length_take]; omega
      have hl1 : (rem.take dl).length = dl := by rw [List.length_take]; omega
      have hl2 : (b.drop x.t).length = b.length - x.t := List.length_drop
      have hBt3 : Bs W3 (some A3) (b.drop x.t) := by
        rw [← HA3.out]
        split
        · rename_i e
          rw [List.drop_eq_nil_of_le (by omega)]
          exact Bs.nil _ _
        · have := hBb3.drop x.t
          rwa [Nat.zero_add] at this
      have hfl : [b.take x.f, rem.take dl, b.drop x.t].flatten = b.take x.f ++ rem.take dl ++ b.drop x.t := by simp
      have hfn : [b.take x.f, rem.take dl, b.drop x.t].flatten.length = size := by
        rw [hfl, List.length_append, List.length_append, hl0, hl1, hl2]
        have := HBL0.out; have := HDL.out; have := HFT.out; omega
      have hCC := Concat_in [b.take x.f, rem.take dl, b.drop x.t] sb 3 W3 (fun i => if i = 0 then ⟨gb, 0, none⟩ else if i = 1 then ⟨gs, off, none⟩ else A3) (fun i => if i = 0 then cr else if i = 1 then c else cr - x.t)
        (fun i hi => by
          match i, hi with
          | 0, _ => exact (HA3r.out.cell 0).trans (by show _ = some (Value.slice (some ⟨gb, 0, none⟩) (b.take x.f).length cr); rw [hl0]; rfl)
          | 1, _ => exact (HA3r.out.cell 1).trans (by show _ = some (Value.slice (some ⟨gs, off, none⟩) (rem.take dl).length c); rw [hl1]; rfl)
          | 2, _ => exact (HA3r.out.cell 2).trans (by show _ = some (Value.slice (some A3) (b.drop x.t).length (cr - x.t)); rw [hl2]; rfl))
        (fun i hi => by
          match i, hi with
          | 0, _ => exact hBb3.take x.f
          | 1, _ => exact hBs3.take dl
          | 2, _ => exact hBt3)
        HA3r.out.lt (by rw [hfn]; have := HO.out.hz; omega) (by rw [hfn]; have := HO.out.hz; omega) (by show 3 ≤ 1000; decide)
      rw [hfn, hfl] at hCC
      have HFN := Lib.hid (show (b.take x.f ++ rem.take dl ++ b.drop x.t).length = size by rw [← hfl]; exact hfn)
      refine hCC.mono ?_
      clear hCC hfn hfl hBt3 hl0 hl1 hl2 hBb3 hBs3 hgs3
      rintro e W4 ⟨g4, c4, rfl, hg4, hc4, hB4, hb4⟩
      have HG4 := Lib.hid hg4; have HC4 := Lib.hid hc4; have HB4 := Lib.hid hB4; have HBW4 := Lib.hid hb4
      clear hg4 hc4 hB4 hb4
      go_wp2_with fail
      refine hK.out _ _ (by trivial) (fun hHeld8 => ?_)
      clear hK K
      try simp only [Act.put, List.setIfInBounds_toArray, List.set_cons_zero, List.set_cons_succ]
      refine tky 9 (some 9) hHeld8 ?_
      try simp only [Act.put, List.setIfInBounds_toArray, List.set_cons_zero, List.set_cons_succ]
      refine wpAnyH_done (by kernel_rfl) ?_ _
      obtain ⟨full, hfull⟩ : ∃ full, b.take x.f ++ rem.take dl ++ b.drop x.t = full := ⟨_, rfl⟩
      rw [hfull] at HFN HB4 HWR0
      have hb24 : Below W2.heap.size W2 W4 := ext_trans HB3.out HBW4.out
      have u0 : W4.cell? ⟨r, 0, none⟩ = some (.pointer (some ⟨p, 0, none⟩)) := (hb24.cell (p := ⟨r, 0, none⟩) (World.block_lt_of_cell? _ _ z0)).trans z0
      have u5 : W4.cell? ⟨bx, 0, none⟩ = some (.pointer (some ⟨r, 0, none⟩)) := (hb24.cell (p := ⟨bx, 0, none⟩) (World.block_lt_of_cell? _ _ z5)).trans z5
      have hPW := PWrite_in ((DvIn_loc p d').below HD2.out hb24) (a : Int) full (some ⟨g4, 0, none⟩) c4 (fun hn => HB4.out.bs hn) (okA_some _ _) (fun gq oq e hq => by
        injection e with e; injection e with e _
        subst e
        have h1 := HG4.out; have h2 := HB3.out.size; have h3 := HZ2.out; have h4 := HSL.out _ hq
        omega) (by have := HROW.out; rw [HDK'.out]; have := HT.out; have := HDL.out; have := HFT.out; omega)
      rw [HFN.out] at hPW
      have HPW := Lib.hid hPW; have HB24 := Lib.hid hb24
      clear hPW hfull hb24 z0 z5
      go_wp2_with fail
      refine HPW.out.mono ?_
      rintro e W5 ⟨rfl, hD5, hT5⟩
      have hz5 : W.heap.size ≤ W5.heap.size := Nat.le_trans HZ2.out (Nat.le_trans HB24.out.size hT5.size)
      have hWV5 : ∀ k, k < w1.heap.size → ¬ S k → W5.heap[k]? = W2.heap[k]? := fun k hk hs => (hT5.block k (Nat.lt_of_lt_of_le (Nat.lt_of_lt_of_le hk HZ.out) (Nat.le_trans HZ2.out HB24.out.size)) (HNS.out k hk hs)).trans (HB24.out.block k (Nat.lt_of_lt_of_le (Nat.lt_of_lt_of_le hk HZ.out) HZ2.out))
      have HF := Lib.hid (wr_fin HO.out H.out (V := W5) (A2 := A2) (c2 := c - dl) (rem := rem.drop dl) (d3 := (d'.write (a : Int) full).2) (er := (d'.write (a : Int) full).1)
        (by rw [HST.out, HWR0.out]) ((DvIn_loc p _).mono hD5 (fun k hk => by
          rcases hk with hk | hk
          · rcases hk with hk | hk
            · exact .inl hk
            · exact .inr ⟨hk.1, Nat.lt_of_lt_of_le hk.2 hz5⟩
          · exact .inr ⟨Nat.le_trans HZ.out (Nat.le_trans (Nat.le_trans HZ2.out HB24.out.size) hk.1), hk.2⟩) (fun k hk => by
          rcases hk with hk | hk
          · exact Nat.lt_of_lt_of_le (HO.out.hS k hk) (Nat.le_trans HZ.out hz5)
          · exact hk.2))
        ((HT02.out.below HB24.out).new (hT5.mono fun k _ hk => by
          rcases hk with hk | hk
          · exact .inl (.inl hk)
          · exact .inr hk.1))
        (fun k hk hs hne => (hWV5 k hk hs).trans (HWV2.out k hk hs hne))
        (by rw [HDR.out]; exact (hWV5 bb HO.out.hbb.1 HO.out.hbb.2).trans HV2.out)
        (HB2.out W5 ((hWV5 gs HAS.out.1 HAS.out.2.1).trans (HWV2.out gs HAS.out.1 HAS.out.2.1 HAS.out.2.2)) hz5)
        (fun g' o' e => by rw [HA2.out g' o' e]; exact HAS.out)
        (by rw [HDR.out]; omega) (by rw [HDR.out]; have := HT.out; omega)
        (by have h1 := (Dev.write_size d' (a : Int) full).2.1; rw [HDK'.out] at h1; have h2 := HROW.out; have h3 := HT.out; have h4 := HDL.out; have h5 := HFT.out; rw [HDR.out]; omega)
        (by rw [(Dev.write_size d' (a : Int) full).1, HDK'.out]; exact HSZ.out))
      clear hD5 hT5 hz5 hWV5 HPW
      go_wp2_with fail
      go_ret
      exact HF.out
    · have HF := Lib.hid (show (Ending.returned (.int .i64 er) = .returned (.int .i64 0) ∧ WrI S w1 bb bx r p size g R ps W2) ∨ ∃ er' : Int, er' ≠ 0 ∧ Ending.returned (.int .i64 er) = .returned (.int .i64 er') ∧ WrE S w1 bb p R er' W2 from .inr ⟨er, h0, rfl, d', by rw [HST.out, HWR.out, if_neg h0, if_neg h0], (DvIn_loc p d').mono HD2.out HG2.out HLT2.out, HT02.out⟩)
      have hq : (er == 0) = false := by simp [h0]
      clear HST HWR HBL h0
      go_wp2_with fail
      go_ret
      exact HF.out
  · have hlt' : ¬ (dl : Int) < (size : Int) := by omega
    have hw1r : wr1 g d x rem = d.write (a : Int) (rem.take dl) := by unfold wr1; rw [HDL.out, HSZ.out, if_neg hlt, HA.out]
    have hl1 : (rem.take dl).length = dl := by rw [List.length_take]; omega
    have hBs1 : Bs W1 (some ⟨gs, off, none⟩) rem := fun hn => by
      obtain ⟨g', o', e, hl, hc⟩ := HB.out hn
      injection e with e; injection e with e1 e2; subst e1 e2
      exact ⟨_, _, rfl, Nat.lt_of_lt_of_le hl HT1.out.size, fun i u hu => (World.cell?_of_block (a := ⟨gs, off + i, none⟩) (HT1.out.block gs hl HAS.out.2.2)).trans (hc i u hu)⟩
    have hPW := PWrite_in HD1.out (a : Int) (rem.take dl) (some ⟨gs, off, none⟩) c (hBs1.take dl) (okA_some _ _) (fun gq oq e hq => by
      injection e with e; injection e with e _
      subst e
      exact HNS.out _ HAS.out.1 HAS.out.2.1 hq) (by have := HROW.out; have := HT.out; have := HDL.out; have := HFT.out; omega)
    rw [hl1] at hPW
    have HPW := Lib.hid hPW; have HWR := Lib.hid hw1r
    clear hPW hw1r hl1 hBs1
    go_enter Tryz.func130, Tryz.ntmps130
    go_wp2_with fail
    rw [HW1.out]
    refine HPW.out.mono ?_
    rintro e W5 ⟨rfl, hD5, hT5⟩
    have hz5 : W.heap.size ≤ W5.heap.size := Nat.le_trans HT1.out.size hT5.size
    have hWV5 : ∀ k, k < w1.heap.size → ¬ S k → W5.heap[k]? = W1.heap[k]? := fun k hk hs => hT5.block k (Nat.lt_of_lt_of_le (Nat.lt_of_lt_of_le hk HZ.out) HT1.out.size) (HNS.out k hk hs)
    have HF := Lib.hid (wr_fin HO.out H.out (V := W5) (A2 := A2) (c2 := c - dl) (rem := rem.drop dl) (d3 := (d.write (a : Int) (rem.take dl)).2) (er := (d.write (a : Int) (rem.take dl)).1)
      (by rw [HST.out, HWR.out]) ((DvIn_loc p _).mono hD5 (fun k hk => by
        rcases hk with hk | hk
        · rcases hk with hk | hk
          · exact .inl hk
          · exact .inr ⟨hk.1, Nat.lt_of_lt_of_le hk.2 hz5⟩
        · exact .inr ⟨Nat.le_trans HZ.out (Nat.le_trans HT1.out.size hk.1), hk.2⟩) (fun k hk => by
        rcases hk with hk | hk
        · exact Nat.lt_of_lt_of_le (HO.out.hS k hk) (Nat.le_trans HZ.out hz5)
        · exact hk.2))
      (HT01.out.new (hT5.mono fun k _ hk => by
        rcases hk with hk | hk
        · exact .inl (.inl hk)
        · exact .inr hk.1))
      (fun k hk hs hne => (hWV5 k hk hs).trans (HT1.out.block k (Nat.lt_of_lt_of_le hk HZ.out) hne))
      (by rw [HDR.out]; exact (hWV5 bb HO.out.hbb.1 HO.out.hbb.2).trans HV1.out)
      (HB2.out W5 ((hWV5 gs HAS.out.1 HAS.out.2.1).trans (HT1.out.block gs HGL.out HAS.out.2.2)) hz5)
      (fun g' o' e => by rw [HA2.out g' o' e]; exact HAS.out)
      (by rw [HDR.out]; omega) (by rw [HDR.out]; have := HT.out; omega)
      (by have h1 := (Dev.write_size d (a : Int) (rem.take dl)).2.1; have h2 := HROW.out; have h3 := HT.out; have h4 := HDL.out; have h5 := HFT.out; rw [HDR.out]; omega)
      (by rw [(Dev.write_size d (a : Int) (rem.take dl)).1]; exact HSZ.out))
    clear hD5 hT5 hz5 hWV5 HPW
    go_wp2_with fail
    go_ret
    exact HF.out

end Go.Proofs.YtbnkanehjnepbaaGreatDoor.En
end

/- Layer 7: Region.Write. -/
section
set_option linter.unusedVariables false
set_option linter.unusedSimpArgs false
namespace Go.Proofs.YtbnkanehjnepbaaGreatDoor.En
open Go.RowKit
open Go.Proofs.YtbnkanehjnepbaaGreatDoor.Oc (Bs bytesV byteV okA okA_some okA_none ClOut bytesV_len bytesV_one bytesV_app u8_info own_blk Concat_in)

def RwOut (S : Nat → Prop) (p : Nat) (R : Int × Dev) (w : World) (e : Ending) (w' : World) : Prop := e = .returned (.int .i64 R.1) ∧ DvIn p R.2 (Gr S w w') w' ∧ Tch S w w'
-- region.Region.Write
set_option maxRecDepth 100000 in
set_option maxHeartbeats 4000000 in
theorem RWrite_in {S : Nat → Prop} {w : World} {r p : Nat} {g : Rg} {d : Dev} (h : RgAt w r p g d.dk.size) (hD : DvIn p d S w) (hr : ¬ S r) (at_ : Nat) (hat : at_ ≤ 268435456) (b : By) (A : Option Addr) (c : Nat)
    (hB : Bs w A b) (hA : ∀ gs off, A = some ⟨gs, off, none⟩ → gs < w.heap.size ∧ ¬ S gs) (hc : b.length ≤ c) (hn : b.length ≤ 268435456) (hrow : d.dk.row.length + b.length ≤ 1000000) :
    Calls Tryz.prog 71 #[.pointer (some ⟨r, 0, none⟩), .int .i64 at_, .slice A b.length c] w (RwOut S p (g.write d at_ b) w) := by
  have hS : ∀ k, S k → k < w.heap.size := (DvIn_loc p d).lt hD
  obtain ⟨n, hbn⟩ : ∃ n, b.length = n := ⟨_, rfl⟩
  obtain ⟨bx, hbx⟩ : ∃ bx, w.heap.size = bx := ⟨_, rfl⟩
  obtain ⟨w0, hw0⟩ : ∃ w0, w.alloc (.cells #[.pointer (some ⟨r, 0, none⟩)] 66) = w0 := ⟨_, rfl⟩
  obtain ⟨bb, hbb⟩ : ∃ bb, w0.heap.size = bb := ⟨_, rfl⟩
  obtain ⟨w1, hw1⟩ : ∃ w1, w0.alloc (.cells #[.slice A b.length c] 51) = w1 := ⟨_, rfl⟩
  have hb0 : Below w.heap.size w w0 := by rw [← hw0]; exact ext_alloc (Below.refl _ _) _
  have hb01 : Below w0.heap.size w0 w1 := by rw [← hw1]; exact ext_alloc (Below.refl _ _) _
  have hb1 : Below w.heap.size w w1 := ext_trans hb0 hb01
  have ha0 : Arr w0 bx 66 #[.pointer (some ⟨r, 0, none⟩)] := by rw [← hw0, ← hbx]; exact Arr.fresh w _ _
  have ha1 : Arr w1 bx 66 #[.pointer (some ⟨r, 0, none⟩)] := ha0.keep hb01
  have ha2 : Arr w1 bb 51 #[.slice A b.length c] := by rw [← hw1, ← hbb]; exact Arr.fresh w0 _ _
  have hbb1 : bx + 1 = bb := by rw [← hbb, ← hw0, ← hbx]; simp only [World.alloc, Array.size_push]
  have hbxl : bx < bb := by rw [← hbb]; exact ha0.lt
  have hD1 := (DvIn_loc p d).below hD hb1
  have hg1 := h.keep hb1
  have hO : WrO S w1 bb bx r d.dk.size := by
    have h1 := ha1.lt; have h2 := ha2.lt; have h3 := h.own.lt; have h4 := hb1.size
    refine ⟨⟨h1, fun hs => ?_, by omega⟩, ⟨h2, fun hs => ?_⟩, ⟨by omega, hr, by omega⟩, fun k hk => Nat.lt_of_lt_of_le (hS k hk) h4, hD.ok.size⟩
    · have := hS _ hs; omega
    · have := hS _ hs; omega
  have x1 : w1.cell? ⟨bx, 0, none⟩ = some (.pointer (some ⟨r, 0, none⟩)) := ha1.cell 0
  have x2 : w1.cell? ⟨bb, 0, none⟩ = some (.slice A n c) := by rw [← hbn]; exact ha2.cell 0
  have y1 : w1.cell? ⟨r, 0, none⟩ = some (.pointer (some ⟨p, 0, none⟩)) := hg1.own.cell 0
  have hI : ∀ W, Below w1.heap.size w1 W → WrI S w1 bb bx r p d.dk.size g (wrP g d (pieces d.dk.size n at_ n) b) (pieces d.dk.size n at_ n) W := fun W hW => by
    refine ⟨hg1.keep hW, (hW.cell (p := ⟨bx, 0, none⟩) ha1.lt).trans x1, ⟨d, b, A, c, (DvIn_loc p d).toGr ((DvIn_loc p d).below hD1 hW) hO.hS hW.size, rfl, ha2.keep hW, (hB.keep hb1).keep hW, fun gs off e => ?_, hc, rfl, ?_, hrow⟩, pieces_in _ hD.ok.size.1 _ _ _ (Nat.le_refl _), Tch.of_below hW⟩
    · have := hA gs off e; exact ⟨Nat.lt_of_lt_of_le this.1 hb1.size, this.2, by have := hb0.size; omega⟩
    · rw [hbn, pieces_tot _ hD.ok.size.1 _ _ _ (Nat.le_refl _)]
  have HO := Lib.hid hO; have HI := Lib.hid hI; have HD1 := Lib.hid hD1; have HG1 := Lib.hid hg1; have HB1 := Lib.hid hb1; have HOK := Lib.hid hD.ok; have HW0 := Lib.hid hw0; have HW1 := Lib.hid hw1; have HBX := Lib.hid hbx; have HBB := Lib.hid hbb1; have HH := Lib.hid h; have HD := Lib.hid hD
  rw [hbn] at hn HW1 ⊢
  have hn0 : (0 : Int) ≤ (n : Int) := by omega
  have hcc : (n : Int) ≤ (c : Int) := by omega
  have HBN := Lib.hid hbn
  clear hS hw0 hw1 hbx hbb hbb1 hb0 hb01 hb1 ha0 ha1 ha2 hbxl hD1 hg1 hO hI hB hA hc hrow hr h hD hbn
  cases hbad : g.bad d.dk.size at_ n with
  | true =>
    have hres : g.write d at_ b = (2, d) := by unfold Rg.write; rw [HBN.out, if_pos hbad]
    rw [hres]
    have HBAD := Lib.hid hbad
    clear hbad hres
    go_enter Tryz.func71, Tryz.ntmps71
    go_wp2_with fail
    rw [HW0.out, HW1.out, HBX.out, HBB.out]
    refine (Rmade_in r p w1 y1).mono ?_
    rintro e w2 ⟨rfl, hw2⟩
    rw [hw2]
    clear hw2 w2
    go_wp2_with fail
    refine wp_region_held_drew (S := (fun w' => w'.cell? ⟨bx, 0, none⟩ = some (.pointer (some ⟨r, 0, none⟩)) ∧ w'.cell? ⟨bb, 0, none⟩ = some (.slice A n c))) (by kernel_rfl) (by exact ⟨x1, x2⟩) (fun hHeld => ?_)
    refine tky 0 (some 12) hHeld ?_
    try simp only [Act.put, List.setIfInBounds_toArray, List.set_cons_zero, List.set_cons_succ]
    refine tky 1 (some 13) hHeld ?_
    try simp only [Act.put, List.setIfInBounds_toArray, List.set_cons_zero, List.set_cons_succ]
    refine tky 2 (some 14) hHeld ?_
    try simp only [Act.put, List.setIfInBounds_toArray, List.set_cons_zero, List.set_cons_succ]
    refine tky 3 (some 15) hHeld ?_
    try simp only [Act.put, List.setIfInBounds_toArray, List.set_cons_zero, List.set_cons_succ]
    refine tky 4 (some 16) hHeld ?_
    try simp only [Act.put, List.setIfInBounds_toArray, List.set_cons_zero, List.set_cons_succ]
    refine tky 5 (some 17) hHeld ?_
    try simp only [Act.put, List.setIfInBounds_toArray, List.set_cons_zero, List.set_cons_succ]
    refine wpAnyH_ready (rs := [6]) (by kernel_rfl) (by simp) ?_
    refine AllReadyH.cons rfl (fun K hK => ?_) AllReadyH.nil
    go_simp
    refine (holds_in (w := w1.drew) (HG1.out.keep (ext_drew (Below.refl _ _))) at_ n hat hn).mono ?_
    rintro e w2 ⟨rfl, hb2⟩
    rw [HBAD.out]
    have q1 : w2.cell? ⟨bx, 0, none⟩ = some (.pointer (some ⟨r, 0, none⟩)) := (hb2.cell (p := ⟨bx, 0, none⟩) (World.block_lt_of_cell? _ _ x1)).trans x1
    have q2 : w2.cell? ⟨bb, 0, none⟩ = some (.slice A n c) := (hb2.cell (p := ⟨bb, 0, none⟩) (World.block_lt_of_cell? _ _ x2)).trans x2
    have HB2 := Lib.hid (show Below w1.heap.size w1 w2 from ext_trans (ext_drew (Below.refl _ _)) hb2)
    clear hb2
    go_wp2_with fail
    refine hK.out _ _ (by exact ⟨q1, q2⟩) (fun hHeld6 => ?_)
    clear hK K
    try simp only [Act.put, List.setIfInBounds_toArray, List.set_cons_zero, List.set_cons_succ]
    refine tky 7 (some 19) hHeld6 ?_
    try simp only [Act.put, List.setIfInBounds_toArray, List.set_cons_zero, List.set_cons_succ]
    refine tky 8 (some 11) hHeld6 ?_
    try simp only [Act.put, List.setIfInBounds_toArray, List.set_cons_zero, List.set_cons_succ]
    refine wpAnyH_done (by kernel_rfl) ?_ _
    have hb := ext_trans HB1.out HB2.out
    have HF := Lib.hid (show RwOut S p (2, d) w (.returned (.int .i64 2)) w2 from ⟨rfl, (DvIn_loc p d).toGr ((DvIn_loc p d).below HD.out hb) ((DvIn_loc p d).lt HD.out) hb.size, Tch.of_below hb⟩)
    clear hb
    go_wp2_with fail
    go_ret
    exact HF.out
  | false =>
    have hres : g.write d at_ b = wrP g d (pieces d.dk.size n at_ n) b := by unfold Rg.write; rw [HBN.out, if_neg (by rw [hbad]; simp), Int.toNat_natCast]
    rw [hres]
    obtain ⟨R, hR⟩ : ∃ R, wrP g d (pieces d.dk.size n at_ n) b = R := ⟨_, rfl⟩
    rw [hR] at HI ⊢
    have HBAD := Lib.hid hbad
    clear hbad hres hR
    go_enter Tryz.func71, Tryz.ntmps71
    go_wp2_with fail
    rw [HW0.out, HW1.out, HBX.out, HBB.out]
    refine (Rmade_in r p w1 y1).mono ?_
    rintro e w2 ⟨rfl, hw2⟩
    rw [hw2]
    clear hw2 w2
    go_wp2_with fail
    refine wp_region_held_drew (S := (fun w' => w'.cell? ⟨bx, 0, none⟩ = some (.pointer (some ⟨r, 0, none⟩)) ∧ w'.cell? ⟨bb, 0, none⟩ = some (.slice A n c))) (by kernel_rfl) (by exact ⟨x1, x2⟩) (fun hHeld => ?_)
    refine tky 0 (some 12) hHeld ?_
    try simp only [Act.put, List.setIfInBounds_toArray, List.set_cons_zero, List.set_cons_succ]
    refine tky 1 (some 13) hHeld ?_
    try simp only [Act.put, List.setIfInBounds_toArray, List.set_cons_zero, List.set_cons_succ]
    refine tky 2 (some 14) hHeld ?_
    try simp only [Act.put, List.setIfInBounds_toArray, List.set_cons_zero, List.set_cons_succ]
    refine tky 3 (some 15) hHeld ?_
    try simp only [Act.put, List.setIfInBounds_toArray, List.set_cons_zero, List.set_cons_succ]
    refine tky 4 (some 16) hHeld ?_
    try simp only [Act.put, List.setIfInBounds_toArray, List.set_cons_zero, List.set_cons_succ]
    refine tky 5 (some 17) hHeld ?_
    try simp only [Act.put, List.setIfInBounds_toArray, List.set_cons_zero, List.set_cons_succ]
    refine wpAnyH_ready (rs := [6]) (by kernel_rfl) (by simp) ?_
    refine AllReadyH.cons rfl (fun K hK => ?_) AllReadyH.nil
    go_simp
    refine (holds_in (w := w1.drew) (HG1.out.keep (ext_drew (Below.refl _ _))) at_ n hat hn).mono ?_
    rintro e w2 ⟨rfl, hb2⟩
    rw [HBAD.out]
    have q1 : w2.cell? ⟨bx, 0, none⟩ = some (.pointer (some ⟨r, 0, none⟩)) := (hb2.cell (p := ⟨bx, 0, none⟩) (World.block_lt_of_cell? _ _ x1)).trans x1
    have q2 : w2.cell? ⟨bb, 0, none⟩ = some (.slice A n c) := (hb2.cell (p := ⟨bb, 0, none⟩) (World.block_lt_of_cell? _ _ x2)).trans x2
    have HB2 := Lib.hid (show Below w1.heap.size w1 w2 from ext_trans (ext_drew (Below.refl _ _)) hb2)
    clear hb2
    go_wp2_with fail
    refine hK.out _ _ (by exact ⟨q1, q2⟩) (fun hHeld6 => ?_)
    clear hK K
    try simp only [Act.put, List.setIfInBounds_toArray, List.set_cons_zero, List.set_cons_succ]
    refine tky 7 (some 19) hHeld6 ?_
    try simp only [Act.put, List.setIfInBounds_toArray, List.set_cons_zero, List.set_cons_succ]
    refine tky 8 (some 11) hHeld6 ?_
    try simp only [Act.put, List.setIfInBounds_toArray, List.set_cons_zero, List.set_cons_succ]
    refine wpAnyH_done (by kernel_rfl) ?_ _
    go_wp2_with fail
    refine region_any_drew (by kernel_rfl) ?_
    refine AnyTill.any (S := (fun w' => w'.cell? ⟨bx, 0, none⟩ = some (.pointer (some ⟨r, 0, none⟩)) ∧ w'.cell? ⟨bb, 0, none⟩ = some (.slice A n c))) (t := 7) _ _ _ _ ?_
    have hHeld := (show (fun w' => w'.cell? ⟨bx, 0, none⟩ = some (.pointer (some ⟨r, 0, none⟩)) ∧ w'.cell? ⟨bb, 0, none⟩ = some (.slice A n c)) w2.drew from ⟨q1, q2⟩)
    refine till_chain [1, 2] (i := 0) (oi := ?o901) (d := (some 20)) (v := ?v901) ?hi901 (by kernel_rfl) (by kernel_rfl) (by kernel_rfl) (by kernel_rfl) (by kernel_rfl) (by kernel_rfl) (fun _ _ _ h => h) ?hd901 ?hw901 ?hy901 hHeld ?_
    case hi901 => (simp only [List.getElem?_toArray, List.getElem?_cons_zero]; exact rfl)
    case hd901 => rfl
    case hw901 => rfl
    case hy901 => (intro w hSw; (try dsimp only at hSw); obtain ⟨hSa, hSb⟩ := hSw; go_simp; try with_reducible rfl)
    try simp only [Act.put, List.setIfInBounds_toArray, List.set_cons_zero, List.set_cons_succ]
    refine till_pure (i := 1) (oi := ?o902) (d := (some 21)) (v := ?v902) ?hi902 (by kernel_rfl) (by kernel_rfl) (by kernel_rfl) (by kernel_rfl) (fun _ _ _ h => h) ?hd902 ?hw902 ?hy902 hHeld ?_
    case hi902 => (simp only [List.getElem?_toArray, List.getElem?_cons_zero, List.getElem?_cons_succ]; exact rfl)
    case hd902 => rfl
    case hw902 => rfl
    case hy902 => (intro w; go_simp; try with_reducible rfl)
    try simp only [Act.put, List.setIfInBounds_toArray, List.set_cons_zero, List.set_cons_succ]
    refine till_take (i := 2) (oi := ?o903) (d := (some 22)) (v := ?v903) ?hi903 (by kernel_rfl) (by kernel_rfl) (by kernel_rfl) (by kernel_rfl) (by kernel_rfl) (fun _ _ _ h => h) ?hd903 ?hw903 ?hy903 hHeld ?_
    case hi903 => (simp only [List.getElem?_toArray, List.getElem?_cons_zero, List.getElem?_cons_succ]; exact rfl)
    case hd903 => rfl
    case hw903 => rfl
    case hy903 => (intro w hSw; (try dsimp only at hSw); obtain ⟨hSa, hSb⟩ := hSw; go_simp; try with_reducible rfl)
    try simp only [Act.put, List.setIfInBounds_toArray, List.set_cons_zero, List.set_cons_succ]
    refine till_take (i := 3) (oi := ?o904) (d := (some 23)) (v := ?v904) ?hi904 (by kernel_rfl) (by kernel_rfl) (by kernel_rfl) (by kernel_rfl) (by kernel_rfl) (fun _ _ _ h => h) ?hd904 ?hw904 ?hy904 hHeld ?_
    case hi904 => (simp only [List.getElem?_toArray, List.getElem?_cons_zero, List.getElem?_cons_succ]; exact rfl)
    case hd904 => rfl
    case hw904 => rfl
    case hy904 => (intro w hSw; (try dsimp only at hSw); obtain ⟨hSa, hSb⟩ := hSw; go_simp; try with_reducible rfl)
    try simp only [Act.put, List.setIfInBounds_toArray, List.set_cons_zero, List.set_cons_succ]
    refine till_chain [5] (i := 4) (oi := ?o905) (d := (some 24)) (v := ?v905) ?hi905 (by kernel_rfl) (by kernel_rfl) (by kernel_rfl) (by kernel_rfl) (by kernel_rfl) (by kernel_rfl) (fun _ _ _ h => h) ?hd905 ?hw905 ?hy905 hHeld ?_
    case hi905 => (simp only [List.getElem?_toArray, List.getElem?_cons_zero, List.getElem?_cons_succ]; exact rfl)
    case hd905 => rfl
    case hw905 => rfl
    case hy905 => (intro w hSw; (try dsimp only at hSw); obtain ⟨hSa, hSb⟩ := hSw; go_simp; try with_reducible rfl)
    try simp only [Act.put, List.setIfInBounds_toArray, List.set_cons_zero, List.set_cons_succ]
    refine till_take (i := 5) (oi := ?o906) (d := (some 25)) (v := ?v906) ?hi906 (by kernel_rfl) (by kernel_rfl) (by kernel_rfl) (by kernel_rfl) (by kernel_rfl) (fun _ _ _ h => h) ?hd906 ?hw906 ?hy906 hHeld ?_
    case hi906 => (simp only [List.getElem?_toArray, List.getElem?_cons_zero, List.getElem?_cons_succ]; exact rfl)
    case hd906 => rfl
    case hw906 => rfl
    case hy906 => (intro w hSw; (try dsimp only at hSw); obtain ⟨hSa, hSb⟩ := hSw; go_simp; try with_reducible rfl)
    try simp only [Act.put, List.setIfInBounds_toArray, List.set_cons_zero, List.set_cons_succ]
    refine till_take (i := 6) (oi := ?o907) (d := (some 26)) (v := ?v907) ?hi907 (by kernel_rfl) (by kernel_rfl) (by kernel_rfl) (by kernel_rfl) (by kernel_rfl) (fun _ _ _ h => h) ?hd907 ?hw907 ?hy907 hHeld ?_
    case hi907 => (simp only [List.getElem?_toArray, List.getElem?_cons_zero, List.getElem?_cons_succ]; exact rfl)
    case hd907 => rfl
    case hw907 => rfl
    case hy907 => (intro w hSw; (try dsimp only at hSw); obtain ⟨hSa, hSb⟩ := hSw; go_simp; try with_reducible rfl)
    try simp only [Act.put, List.setIfInBounds_toArray, List.set_cons_zero, List.set_cons_succ]
    refine AnyTill.last (by kernel_rfl) ?_
    refine any_drop 7 (by kernel_rfl) (by kernel_rfl) ?_
    simp only [List.drop_succ_cons, List.drop_zero]
    go_wp2_with fail
    refine (each_write w2.drew #[.pointer (some ⟨bb, 0, none⟩), .pointer (some ⟨bx, 0, none⟩)] at_ n (WrI S w1 bb bx r p d.dk.size g R) (WrE S w1 bb p R) HOK.out.size HH.out.ok_area ?_ (fun ps W h => h.rg) (fun x ps W h => wr1_in HO.out h) (HI.out w2.drew (ext_drew HB2.out))).mono ?_
    · have h1 := HBAD.out
      unfold Rg.bad at h1
      have h2 := HH.out.bytes_le
      simp only [Bool.or_eq_false_iff, decide_eq_false_iff_not] at h1
      omega
    rintro e w3 hor
    have hfin : ∃ er : Int, e = .returned (.int .i64 er) ∧ ∃ d3, R = (er, d3) ∧ DvIn p d3 (Gr S w1 w3) w3 ∧ Tch (fun k => S k ∨ k = bb) w1 w3 := by
      rcases hor with ⟨he, h3⟩ | ⟨er, _, he, d3, h3, h4, h5⟩
      · obtain ⟨d3, rem, A3, c3, hD3, _, _, _, _, _, hR3, _⟩ := h3.body
        exact ⟨0, he, d3, hR3, hD3, h3.tch⟩
      · exact ⟨er, he, d3, h3, h4, h5⟩
    obtain ⟨er, rfl, d3, hR3, hD3, hT3⟩ := hfin
    have HR3 := Lib.hid hR3; have HD3 := Lib.hid hD3; have HT3 := Lib.hid hT3
    clear hor hR3 hD3 hT3
    go_wp2_with fail
    go_ret
    rw [HR3.out]
    have hzz := HB1.out.size
    have hz3 := HT3.out.size
    refine ⟨rfl, (DvIn_loc p d3).mono HD3.out (fun k hk => ?_) (fun k hk => ?_), (Tch.of_below HB1.out).new (HT3.out.mono fun k _ hk => ?_)⟩
    · rcases hk with hk | hk
      · exact .inl hk
      · exact .inr ⟨Nat.le_trans hzz hk.1, hk.2⟩
    · rcases hk with hk | hk
      · exact Nat.lt_of_lt_of_le ((DvIn_loc p d).lt HD.out k hk) (Nat.le_trans hzz hz3)
      · exact hk.2
    · rcases hk with hk | rfl
      · exact .inl hk
      · exact .inr (by have h1 := HBX.out; have h2 := HBB.out; omega)

end Go.Proofs.YtbnkanehjnepbaaGreatDoor.En
end

/- Sums of bytes, plainly: bit by bit, and four bits at a time. No program in sight. -/
section
set_option linter.unusedVariables false
set_option linter.unusedSimpArgs false
namespace Go.Proofs.YtbnkanehjnepbaaGreatDoor.Cr

/-- a step of a number -/
def st (r : Nat) : Nat := if r % 2 = 1 then (r / 2) ^^^ 0xedb88320 else r / 2
def tblN : List Nat := [0x00000000, 0x1db71064, 0x3b6e20c8, 0x26d930ac, 0x76dc4190, 0x6b6b51f4, 0x4db26158, 0x5005713c, 0xedb88320, 0xf00f9344, 0xd6d6a3e8, 0xcb61b38c, 0x9b64c2b0, 0x86d3d2d4, 0xa00ae278, 0xbdbdf21c]
/-- four steps at once -/
def st4 (r : Nat) : Nat := tblN.getD (r % 16) 0 ^^^ (r / 16)
def byteS (r : Nat) (b : UInt8) : Nat := st4 (st4 (r ^^^ b.toNat))
def moreS (r : Nat) : List UInt8 → Nat
  | [] => r
  | b :: l => moreS (byteS r b) l
def crc (s : Nat) (l : List UInt8) : Nat := moreS (s ^^^ 0xffffffff) l ^^^ 0xffffffff
theorem moreS_app (a b : List UInt8) : ∀ r, moreS r (a ++ b) = moreS (moreS r a) b := by
  induction a with
  | nil => intro r; rfl
  | cons x a ih => intro r; rw [List.cons_append, moreS, moreS, ih]
theorem xor_lt {a b : Nat} (ha : a < 4294967296) (hb : b < 4294967296) : a ^^^ b < 4294967296 := Nat.xor_lt_two_pow (n := 32) ha hb
theorem tbl_lt (i : Nat) : tblN.getD i 0 < 4294967296 := by
  rcases Nat.lt_or_ge i 16 with h | h
  · have : ∀ i, i < 16 → tblN.getD i 0 < 4294967296 := by decide
    exact this i h
  · rw [List.getD_eq_getElem?_getD, List.getElem?_eq_none (by simpa [tblN] using h)]; simp
theorem st4_lt {r : Nat} (h : r < 4294967296) : st4 r < 4294967296 := xor_lt (tbl_lt _) (by omega)
theorem byteS_lt {r : Nat} (b : UInt8) (h : r < 4294967296) : byteS r b < 4294967296 :=
  st4_lt (st4_lt (xor_lt h (Nat.lt_of_lt_of_le b.toNat_lt (by decide))))
theorem moreS_lt : ∀ (l : List UInt8) (r : Nat), r < 4294967296 → moreS r l < 4294967296
  | [], _, h => h
  | b :: l, _, h => moreS_lt l _ (byteS_lt b h)
theorem crc_lt (s : Nat) (l : List UInt8) (h : s < 4294967296) : crc s l < 4294967296 := xor_lt (moreS_lt l _ (xor_lt h (by decide))) (by decide)
end Go.Proofs.YtbnkanehjnepbaaGreatDoor.Cr
end

/- The engine's layers as plain functions: frames, log, slots. No program in sight. -/
section
set_option linter.unusedVariables false
set_option linter.unusedSimpArgs false
namespace Go.Proofs.YtbnkanehjnepbaaGreatDoor.En
open Go.Proofs.YtbnkanehjnepbaaGreatDoor.Oc (le val)
open Go.Proofs.YtbnkanehjnepbaaGreatDoor.Cr (crc)

/-- a frame's bytes -/
def frameHead (epoch seq : Nat) (body : By) : By := le body.length 2 ++ le epoch 8 ++ le seq 8 ++ body
def frameB (epoch seq : Nat) (body : By) : By := frameHead epoch seq body ++ le (crc 0 (frameHead epoch seq body)) 4
/-- a log: the bodies of the frames since its begin, the first `done` of which are durable; the number ahead of the first -/
structure Lg where
  epoch : Nat
  first : Nat
  frames : List By
  done : Nat
def framesB (epoch : Nat) : Nat → List By → By
  | _, [] => []
  | seq, b :: r => frameB epoch (seq + 1) b ++ framesB epoch (seq + 1) r
theorem framesB_app (epoch : Nat) (a b : List By) : ∀ seq, framesB epoch seq (a ++ b) = framesB epoch seq a ++ framesB epoch (seq + a.length) b := by
  induction a with
  | nil => intro seq; simp [framesB]
  | cons x a ih => intro seq; rw [List.cons_append, framesB, framesB, ih, List.append_assoc, List.length_cons, Nat.add_assoc, Nat.add_comm 1]
def Lg.last (l : Lg) : Nat := l.first + l.frames.length
def Lg.durable (l : Lg) : Nat := l.first + l.done
def Lg.written (l : Lg) : By := framesB l.epoch l.first (l.frames.take l.done)
def Lg.waits (l : Lg) : By := framesB l.epoch (l.first + l.done) (l.frames.drop l.done)
def Lg.used (l : Lg) : Nat := (framesB l.epoch l.first l.frames).length
structure Lg.Ok (l : Lg) : Prop where
  done : l.done ≤ l.frames.length
  last : l.last < 18446744073709551616
  epoch : l.epoch < 18446744073709551616
  short : ∀ b ∈ l.frames, b.length ≤ 32
theorem Lg.used_split (l : Lg) (h : l.done ≤ l.frames.length) : l.used = l.written.length + l.waits.length := by
  have e : l.frames = l.frames.take l.done ++ l.frames.drop l.done := (List.take_append_drop _ _).symm
  unfold Lg.used Lg.written Lg.waits
  conv => lhs; rw [e]
  rw [framesB_app, List.length_append, List.length_take, Nat.min_eq_left h]
/-- a header -/
structure Hd where
  gen : Nat
  cov : Nat
  len : Nat
  sum : Nat
def Hd.zero : Hd := ⟨0, 0, 0, 0⟩
def Hd.may (h : Hd) : Bool := decide (0 < h.gen) && decide (h.len ≤ 67108864)
def gang : By := [71, 65, 78, 71]
def hdHead (h : Hd) : By := gang ++ le h.gen 8 ++ le h.cov 8 ++ le h.len 4 ++ le h.sum 4
def hdB (h : Hd) : By := hdHead h ++ le (crc 0 (hdHead h)) 4
def hdOf (b : By) : Hd := ⟨val ((b.drop 4).take 8), val ((b.drop 12).take 8), val ((b.drop 20).take 4), val ((b.drop 24).take 4)⟩
/-- a header is read -/
def hdR (b : By) : Option Hd :=
  if b.length < 32 then none
  else if val ((b.drop 28).take 4) = crc 0 (b.take 28) ∧ b.take 4 = gang then (if (hdOf b).may = true then some (hdOf b) else none)
  else none
/-- two regions -/
structure Sl where
  a : Rg
  b : Rg
def Sl.one (s : Sl) (i : Nat) : Rg := if i = 0 then s.a else s.b
def Sl.bytes (s : Sl) (size : Nat) : Nat := s.a.bytes size - size
/-- a slot's header; a zero one, if it can't be read or has no room -/
def hdOne (r : Rg) (d : Dev) : Int × Hd × Dev :=
  if (r.read d 0 d.dk.size).1 = 0 then
    (0, (match hdR (r.read d 0 d.dk.size).2.1 with | some h => if h.len ≤ r.bytes d.dk.size - d.dk.size then h else Hd.zero | none => Hd.zero), (r.read d 0 d.dk.size).2.2)
  else ((r.read d 0 d.dk.size).1, Hd.zero, (r.read d 0 d.dk.size).2.2)
/-- one slot's body, if it stands: the error; the body, if its sum is right -/
def tryOne (s : Sl) (d : Dev) (i : Nat) (h : Hd) : Int × Option By × Dev :=
  if h.gen = 0 then (0, none, d)
  else if ((s.one i).read d d.dk.size h.len).1 = 0 then
    (0, (if crc 0 ((s.one i).read d d.dk.size h.len).2.1 = h.sum then some ((s.one i).read d d.dk.size h.len).2.1 else none), ((s.one i).read d d.dk.size h.len).2.2)
  else (((s.one i).read d d.dk.size h.len).1, none, ((s.one i).read d d.dk.size h.len).2.2)
structure Ld where
  err : Int
  hd : Hd
  body : By
  at_ : Int
  dev : Dev
def ldTwo (s : Sl) (d : Dev) (i j : Nat) (hi hj : Hd) : Ld :=
  if (tryOne s d i hi).1 = 0 then
    match (tryOne s d i hi).2.1 with
    | some b => ⟨0, hi, b, i, (tryOne s d i hi).2.2⟩
    | none =>
      if (tryOne s (tryOne s d i hi).2.2 j hj).1 = 0 then
        match (tryOne s (tryOne s d i hi).2.2 j hj).2.1 with
        | some b => ⟨0, hj, b, j, (tryOne s (tryOne s d i hi).2.2 j hj).2.2⟩
        | none => ⟨0, Hd.zero, [], -1, (tryOne s (tryOne s d i hi).2.2 j hj).2.2⟩
      else ⟨(tryOne s (tryOne s d i hi).2.2 j hj).1, Hd.zero, [], 0, (tryOne s (tryOne s d i hi).2.2 j hj).2.2⟩
  else ⟨(tryOne s d i hi).1, Hd.zero, [], 0, (tryOne s d i hi).2.2⟩
def Sl.load (s : Sl) (d : Dev) : Ld :=
  if (hdOne s.a d).1 = 0 then
    if (hdOne s.b (hdOne s.a d).2.2).1 = 0 then
      if (hdOne s.a d).2.1.gen < (hdOne s.b (hdOne s.a d).2.2).2.1.gen then ldTwo s (hdOne s.b (hdOne s.a d).2.2).2.2 1 0 (hdOne s.b (hdOne s.a d).2.2).2.1 (hdOne s.a d).2.1
      else ldTwo s (hdOne s.b (hdOne s.a d).2.2).2.2 0 1 (hdOne s.a d).2.1 (hdOne s.b (hdOne s.a d).2.2).2.1
    else ⟨(hdOne s.b (hdOne s.a d).2.2).1, Hd.zero, [], 0, (hdOne s.b (hdOne s.a d).2.2).2.2⟩
  else ⟨(hdOne s.a d).1, Hd.zero, [], 0, (hdOne s.a d).2.2⟩
/-- a write and a sync behind it -/
def putSync (r : Rg) (d : Dev) (at_ : Nat) (b : By) : Int × Dev :=
  if (r.write d at_ b).1 = 0 then (r.write d at_ b).2.sync else r.write d at_ b
def Sl.save (s : Sl) (d : Dev) (body : By) (cov : Nat) : Int × Hd × Dev :=
  if s.bytes d.dk.size < body.length then (3, Hd.zero, d)
  else if (s.load d).err ≠ 0 then ((s.load d).err, Hd.zero, (s.load d).dev)
  else if (s.load d).hd.gen = 18446744073709551615 then (6, Hd.zero, (s.load d).dev)
  else
    let h : Hd := ⟨(s.load d).hd.gen + 1, cov, body.length, crc 0 body⟩
    let r := if (s.load d).at_ = 0 then s.b else s.a
    if (putSync r (s.load d).dev d.dk.size body).1 ≠ 0 then ((putSync r (s.load d).dev d.dk.size body).1, Hd.zero, (putSync r (s.load d).dev d.dk.size body).2)
    else if (putSync r (putSync r (s.load d).dev d.dk.size body).2 0 (hdB h ++ List.replicate (d.dk.size - 32) 0)).1 ≠ 0 then
      ((putSync r (putSync r (s.load d).dev d.dk.size body).2 0 (hdB h ++ List.replicate (d.dk.size - 32) 0)).1, Hd.zero, (putSync r (putSync r (s.load d).dev d.dk.size body).2 0 (hdB h ++ List.replicate (d.dk.size - 32) 0)).2)
    else (0, h, (putSync r (putSync r (s.load d).dev d.dk.size body).2 0 (hdB h ++ List.replicate (d.dk.size - 32) 0)).2)

end Go.Proofs.YtbnkanehjnepbaaGreatDoor.En
end

/- Layer 3: sums of bytes. -/
section
set_option linter.unusedVariables false
set_option linter.unusedSimpArgs false
namespace Go.Proofs.YtbnkanehjnepbaaGreatDoor.Cr
open Go.RowKit
open Go.Proofs.YtbnkanehjnepbaaGreatDoor.Oc (Bs bytesV byteV)

/-- the table's cells -/
def CrcTab (w : World) : Prop := ∀ i : Nat, i < 16 → w.cell? ⟨1, i, none⟩ = some (.int .u32 (tblN.getD i 0 : Nat))
theorem CrcTab.same {w w' : World} (h : CrcTab w) (hk : w'.heap[1]? = w.heap[1]?) : CrcTab w' := fun i hi => by
  rw [← h i hi]; simp [World.cell?, hk]
theorem CrcTab.keep {w w' : World} (h : CrcTab w) (hb : Below w.heap.size w w') : CrcTab w' := h.same (hb.block _ (World.block_lt_of_cell? w _ (h 0 (by decide))))
theorem CrcTab.tch {S : Nat → Prop} {w w' : World} (h : CrcTab w) (ht : Tch S w w') (hS : ¬ S 1) : CrcTab w' := h.same (ht.block _ (World.block_lt_of_cell? w _ (h 0 (by decide))) hS)
theorem CrcTab.lt {w : World} (h : CrcTab w) : 1 < w.heap.size := World.block_lt_of_cell? w _ (h 0 (by decide))
/-- one round's numbers -/
theorem round_nums (r : Nat) (b : UInt8) (hr : r < 4294967296) : ∃ r1 l1 t1 r2 l2 t2 r3 : Nat, Go.bits BinOp.xor IntKind.u32 (r : Int) (b.toNat : Int) = (r1 : Int) ∧ Go.bits BinOp.and IntKind.u32 (r1 : Int) 15 = (l1 : Int) ∧ l1 < 16 ∧ tblN.getD l1 0 = t1 ∧
    Go.bits BinOp.xor IntKind.u32 (t1 : Int) ((r1 : Int) / 16) = (r2 : Int) ∧ Go.bits BinOp.and IntKind.u32 (r2 : Int) 15 = (l2 : Int) ∧ l2 < 16 ∧ tblN.getD l2 0 = t2 ∧ Go.bits BinOp.xor IntKind.u32 (t2 : Int) ((r2 : Int) / 16) = (r3 : Int) ∧ r3 = byteS r b ∧ r1 < 4294967296 ∧ r2 < 4294967296 := by
  have hb : b.toNat < 4294967296 := Nat.lt_of_lt_of_le b.toNat_lt (by decide)
  have h1 := xor_lt hr hb
  have h2 := st4_lt h1
  have e16 : ∀ x : Nat, (x : Int) / 16 = ((x / 16 : Nat) : Int) := fun x => by simp
  refine ⟨r ^^^ b.toNat, (r ^^^ b.toNat) % 16, _, st4 (r ^^^ b.toNat), st4 (r ^^^ b.toNat) % 16, _, byteS r b, u32_xor_nat _ _ hr hb, ?_, Nat.mod_lt _ (by decide), rfl, ?_, ?_, Nat.mod_lt _ (by decide), rfl, ?_, rfl, h1, h2⟩
  · rw [show (15 : Int) = ((15 : Nat) : Int) from rfl, u32_and_nat _ _ h1 (by decide), nat_mask4]
  · rw [e16, u32_xor_nat _ _ (tbl_lt _) (by omega)]; rfl
  · rw [show (15 : Int) = ((15 : Nat) : Int) from rfl, u32_and_nat _ _ h2 (by decide), nat_mask4]
  · rw [e16, u32_xor_nat _ _ (tbl_lt _) (by omega)]; rfl
theorem byteS_snoc {l : List UInt8} {j : Nat} (h : j < l.length) (r : Nat) : moreS r (l.take (j + 1)) = byteS (moreS r (l.take j)) l[j] := by
  rw [List.take_add_one, List.getElem?_eq_getElem h, Option.toList_some, moreS_app]; rfl
theorem inv_val {s : Nat} (hs : s < 4294967296) : Go.bits BinOp.xor IntKind.u32 IntKind.u32.max (s : Int) = ((s ^^^ 0xffffffff : Nat) : Int) := by
  rw [show IntKind.u32.max = ((4294967295 : Nat) : Int) from rfl, u32_xor_nat _ _ (by decide) hs, Nat.xor_comm]
-- crc.More
set_option maxRecDepth 100000 in
set_option maxHeartbeats 2000000 in
theorem More_in (s : Nat) (bs : List UInt8) (A : Option Addr) (c : Nat) (w : World) (hs : s < 4294967296) (hB : Bs w A bs) (ht : CrcTab w) (hl : bs.length ≤ 140737488355328) :
    Calls Tryz.prog 124 #[.int .u32 s, .slice A bs.length c] w fun e w' => e = .returned (.int .u32 (crc s bs : Nat)) ∧ w' = w := by
  have HB := Lib.hid hB; have HT := Lib.hid ht
  have hl' : (bs.length : Int) ≤ 140737488355328 := by omega
  have hg : IntKind.u32.signed = false := by decide
  clear hB ht
  go_enter Tryz.func124, Tryz.ntmps124
  go_wp2_with fail
  go_loopw [5, 12] (fun r i wr => ∃ j : Nat, j ≤ bs.length ∧ i = .int .i64 j ∧ r = .int .u32 (moreS (s ^^^ 0xffffffff) (bs.take j) : Nat) ∧ wr = w) (fun _ i _ => (bs.length - intOf i).toNat)
  case atStart => exact ⟨0, by omega, rfl, by rw [inv_val hs]; rfl, rfl⟩
  case round =>
    obtain ⟨j, hj, rfl, hr, hw⟩ := hrel
    rw [hw]
    clear hw
    obtain ⟨r, hrr⟩ : ∃ r, moreS (s ^^^ 0xffffffff) (bs.take j) = r := ⟨_, rfl⟩
    rw [hrr] at hr
    subst hr
    have hrlt : r < 4294967296 := by rw [← hrr]; exact moreS_lt _ _ (xor_lt hs (by decide))
    have hr1 : (r : Int) < 4294967296 := by omega
    have hr0 : (0 : Int) ≤ (r : Int) := by omega
    by_cases h : j < bs.length
    · have h' : (j : Int) < (bs.length : Int) := by omega
      have hj0 : (0 : Int) ≤ (j : Int) := by omega
      obtain ⟨g, off, hA, _, _⟩ := HB.out (by rintro rfl; simp at h)
      subst hA
      have x0 : w.cell? ⟨g, off + j, none⟩ = some (byteV bs[j]) := HB.out.cell h
      unfold byteV at x0
      obtain ⟨r1, l1, t1, r2, l2, t2, r3, e1, e2, hl1, et1, e3, e4, hl2, et2, e5, e6, h1lt, h2lt⟩ := round_nums r bs[j] hrlt
      have y1 : w.cell? ⟨1, l1, none⟩ = some (.int .u32 (t1 : Nat)) := by rw [← et1]; exact HT.out l1 hl1
      have y2 : w.cell? ⟨1, l2, none⟩ = some (.int .u32 (t2 : Nat)) := by rw [← et2]; exact HT.out l2 hl2
      have hl1' : (l1 : Int) < 16 := by omega
      have hl2' : (l2 : Int) < 16 := by omega
      have hl10 : (0 : Int) ≤ (l1 : Int) := by omega
      have hl20 : (0 : Int) ≤ (l2 : Int) := by omega
      have hbw : IntKind.u32.wrap (bs[j].toNat : Int) = (bs[j].toNat : Int) := by have := bs[j].toNat_lt; rw [IntKind.wrap_u32']; omega
      have HE := Lib.hid (show r3 = moreS (s ^^^ 0xffffffff) (bs.take (j + 1)) by rw [byteS_snoc h, hrr, ← e6])
      clear hrr et1 et2 e6
      go_wp2_with fail
      go_roundw
      case rel => exact ⟨j + 1, by omega, by go_num, by rw [← HE.out], by first | rfl | trivial⟩
      case measure => simp [intOf]; omega
    · have h' : ¬ (j : Int) < (bs.length : Int) := by omega
      have hjl : j = bs.length := by omega
      subst hjl
      have HF := Lib.hid (show Go.bits BinOp.xor IntKind.u32 IntKind.u32.max (r : Int) = (crc s bs : Nat) by rw [inv_val hrlt, ← hrr, List.take_length]; rfl)
      clear hrr
      go_wp2_with fail
      go_ret
      exact ⟨by rw [← HF.out]; rfl, rfl⟩
-- crc.Sum
set_option maxRecDepth 100000 in
set_option maxHeartbeats 1000000 in
theorem Sum_in (bs : List UInt8) (A : Option Addr) (c : Nat) (w : World) (hB : Bs w A bs) (ht : CrcTab w) (hl : bs.length ≤ 140737488355328) :
    Calls Tryz.prog 68 #[.slice A bs.length c] w fun e w' => e = .returned (.int .u32 (crc 0 bs : Nat)) ∧ w' = w := by
  have HM := Lib.hid (More_in 0 bs A c w (by decide) hB ht hl)
  clear hB ht
  go_enter Tryz.func68, Tryz.ntmps68
  go_wp2_with fail
  refine HM.out.mono ?_
  rintro e w1 ⟨rfl, hw⟩
  rw [hw]
  clear hw w1
  go_wp2_with fail
  go_ret
  exact ⟨rfl, rfl⟩

end Go.Proofs.YtbnkanehjnepbaaGreatDoor.Cr
end

/- Layer 8: a frame's size, its bytes. -/
section
set_option linter.unusedVariables false
set_option linter.unusedSimpArgs false
namespace Go.Proofs.YtbnkanehjnepbaaGreatDoor.En
open Go.RowKit
open Go.Proofs.YtbnkanehjnepbaaGreatDoor.Oc (Bs bytesV byteV le WrAt AdOut ClOut)
open Go.Proofs.YtbnkanehjnepbaaGreatDoor.Cr (CrcTab crc)

-- frame.Size
set_option maxRecDepth 100000 in
set_option maxHeartbeats 1000000 in
theorem FSize_in (n : Nat) (h : n ≤ 32) (w : World) : Calls Tryz.prog 179 #[.int .i64 n] w fun e w' => e = .returned (.int .i64 (22 + n)) ∧ w' = w := by
  have h0 : ¬ (n : Int) < 0 := by omega
  have h1 : ¬ (32 : Int) < (n : Int) := by omega
  have h2 : (n : Int) ≤ 32 := by omega
  go_enter Tryz.func179, Tryz.ntmps179
  go_wp2_with fail
  go_ret
  exact ⟨rfl, rfl⟩

end Go.Proofs.YtbnkanehjnepbaaGreatDoor.En
end

/- Layer 10: a log. -/
section
set_option linter.unusedVariables false
set_option linter.unusedSimpArgs false
namespace Go.Proofs.YtbnkanehjnepbaaGreatDoor.En
open Go.RowKit
open Go.Proofs.YtbnkanehjnepbaaGreatDoor.Oc (Bs bytesV byteV okA okA_some okA_none ClOut bytesV_len bytesV_one bytesV_app u8_info own_blk)

def lgC (l : Lg) (r : Nat) (v : Value) : Array Value := #[v, .int .i64 (l.written.length : Nat), .int .u64 (l.durable : Nat), .int .u64 (l.last : Nat), .pointer (some ⟨r, 0, none⟩), .int .u64 (l.epoch : Nat)]
structure LgLies (S : Nat → Prop) (w : World) (q r p : Nat) (l : Lg) (g : Rg) (size : Nat) (v : Value) : Prop where
  own : Arr w q 179 (lgC l r v)
  rg : RgAt w r p g size
  row : w.ownsRow 0 5 1 v l.waits.length (bytesV l.waits)
  foot : S q ∧ S r ∧ ∀ k, v.ownBlock = some k → S k ∧ k ≠ q ∧ k ≠ r
  lt : ∀ k, S k → k < w.heap.size
  ok : l.Ok
  fit : l.used ≤ g.bytes size
def LgIn (q r p : Nat) (l : Lg) (g : Rg) (size : Nat) (S : Nat → Prop) (w : World) : Prop := ∃ v, LgLies S w q r p l g size v
theorem LgIn_loc (q r p : Nat) (l : Lg) (g : Rg) (size : Nat) : Loc (LgIn q r p l g size) := by
  refine ⟨fun ⟨_, h⟩ => h.lt, fun {S w w'} ⟨v, h⟩ hz hk => ⟨v, ?_⟩, fun {S T w} ⟨v, h⟩ hST hT => ⟨v, ?_⟩⟩
  · exact ⟨(hk q h.foot.1).trans h.own, ⟨(hk r h.foot.2.1).trans h.rg.own, h.rg.size, h.rg.count⟩, own_same h.row fun k hb => hk k (h.foot.2.2 k hb).1, h.foot, fun k hs => Nat.lt_of_lt_of_le (h.lt k hs) hz, h.ok, h.fit⟩
  · exact ⟨h.own, h.rg, h.row, ⟨hST _ h.foot.1, hST _ h.foot.2.1, fun k hk => ⟨hST _ (h.foot.2.2 k hk).1, (h.foot.2.2 k hk).2⟩⟩, hT, h.ok, h.fit⟩
theorem LgLies.small {S : Nat → Prop} {w : World} {q r p : Nat} {l : Lg} {g : Rg} {size : Nat} {v : Value} (h : LgLies S w q r p l g size v) : l.written.length + l.waits.length ≤ 268435456 ∧ l.used = l.written.length + l.waits.length := by
  have h1 := l.used_split h.ok.done
  have h2 := h.fit
  have h3 := h.rg.bytes_le
  exact ⟨by omega, h1⟩
set_option maxRecDepth 100000 in
set_option maxHeartbeats 1000000 in
theorem Lmade_in (q r : Nat) (w : World) (h : w.cell? ⟨q, 4, none⟩ = some (.pointer (some ⟨r, 0, none⟩))) : Calls Tryz.prog 136 #[.pointer (some ⟨q, 0, none⟩)] w fun e w' => e = .returned (.bool true) ∧ w' = w := by
  go_enter Tryz.func136, Tryz.ntmps136
  go_wp2_with fail
  go_ret
  exact ⟨rfl, rfl⟩
set_option maxRecDepth 100000 in
set_option maxHeartbeats 1000000 in
theorem Lused_in {S : Nat → Prop} {w : World} {q r p : Nat} {l : Lg} {g : Rg} {size : Nat} {v : Value} (h : LgLies S w q r p l g size v) : Calls Tryz.prog 137 #[.pointer (some ⟨q, 0, none⟩)] w fun e w' => e = .returned (.int .i64 (l.used : Nat)) ∧ Below w.heap.size w w' := by
  obtain ⟨A, c, rfl⟩ := own_slice h.row
  have x0 : w.cell? ⟨q, 0, none⟩ = some (.slice A l.waits.length c) := h.own.cell 0
  have x1 : w.cell? ⟨q, 1, none⟩ = some (.int .i64 (l.written.length : Nat)) := h.own.cell 1
  obtain ⟨h1, h2⟩ := h.small
  rw [h2]
  obtain ⟨a, ha⟩ : ∃ a, l.written.length = a := ⟨_, rfl⟩
  obtain ⟨b, hb⟩ : ∃ b, l.waits.length = b := ⟨_, rfl⟩
  rw [ha, hb] at h1 ⊢
  rw [ha] at x1
  rw [hb] at x0
  have hab : (a : Int) + (b : Int) ≤ 268435456 := by omega
  have hw : IntKind.i64.wrap ((a : Int) + (b : Int)) = ((a + b : Nat) : Int) := by rw [IntWalk.i64_in _ (by omega)]; push_cast; rfl
  clear h h1 h2 ha hb
  go_enter Tryz.func137, Tryz.ntmps137
  go_wp2_with fail
  go_quiet (fail)
  go_wp2_with fail
  go_ret
  exact ⟨rfl, ext_drewN (Below.refl _ _) _⟩
set_option maxRecDepth 100000 in
set_option maxHeartbeats 1000000 in
theorem LRoom_in {S : Nat → Prop} {w : World} {q r p : Nat} {l : Lg} {g : Rg} {size : Nat} {v : Value} (h : LgLies S w q r p l g size v) : Calls Tryz.prog 74 #[.pointer (some ⟨q, 0, none⟩)] w fun e w' => e = .returned (.int .i64 (g.bytes size - l.used : Nat)) ∧ Below w.heap.size w w' := by
  have x4 : w.cell? ⟨q, 4, none⟩ = some (.pointer (some ⟨r, 0, none⟩)) := h.own.cell 4
  have L := LgIn_loc q r p l g size
  have HRB := Lib.hid fun (W : World) (hW : Below w.heap.size w W) => RBytes_in (h.rg.keep hW)
  have HUS := Lib.hid fun (W : World) (hW : Below w.heap.size w W) => by
    obtain ⟨v', h'⟩ := L.below ⟨v, h⟩ hW
    exact Lused_in h'
  have h1 := h.fit
  have h2 := h.rg.bytes_le
  obtain ⟨a, ha⟩ : ∃ a, g.bytes size = a := ⟨_, rfl⟩
  obtain ⟨b, hb⟩ : ∃ b, l.used = b := ⟨_, rfl⟩
  rw [ha] at HRB h1 h2 ⊢
  rw [hb] at HUS h1 ⊢
  have hab : (a : Int) - (b : Int) = ((a - b : Nat) : Int) := by omega
  have ha4 : (a : Int) ≤ 268435456 := by omega
  have hwr : IntKind.i64.wrap ((a - b : Nat) : Int) = ((a - b : Nat) : Int) := IntWalk.i64_in _ (by omega)
  have hba : (b : Int) ≤ (a : Int) := by omega
  clear h ha hb h1 h2 L
  go_enter Tryz.func74, Tryz.ntmps74
  go_wp2_with fail
  refine (Lmade_in q r w x4).mono ?_
  rintro e w1 ⟨rfl, hw1⟩
  rw [hw1]
  clear hw1 w1
  go_wp2_with fail
  refine wp_region_held_drew (S := (fun w' => w'.cell? ⟨q, 4, none⟩ = some (.pointer (some ⟨r, 0, none⟩)))) (by kernel_rfl) (by exact x4) (fun hHeld => ?_)
  refine tky 0 (some 6) hHeld ?_
  try simp only [Act.put, List.setIfInBounds_toArray, List.set_cons_zero, List.set_cons_succ]
  refine tky 1 (some 7) hHeld ?_
  try simp only [Act.put, List.setIfInBounds_toArray, List.set_cons_zero, List.set_cons_succ]
  refine tky 2 (some 8) hHeld ?_
  try simp only [Act.put, List.setIfInBounds_toArray, List.set_cons_zero, List.set_cons_succ]
  refine tky 3 (some 9) hHeld ?_
  try simp only [Act.put, List.setIfInBounds_toArray, List.set_cons_zero, List.set_cons_succ]
  refine tky 5 (some 11) hHeld ?_
  try simp only [Act.put, List.setIfInBounds_toArray, List.set_cons_zero, List.set_cons_succ]
  refine tky 6 (some 12) hHeld ?_
  try simp only [Act.put, List.setIfInBounds_toArray, List.set_cons_zero, List.set_cons_succ]
  refine tky 7 (some 13) hHeld ?_
  try simp only [Act.put, List.setIfInBounds_toArray, List.set_cons_zero, List.set_cons_succ]
  refine wpAnyH_ready (rs := [4]) (by kernel_rfl) (by simp) ?_
  refine AllReadyH.cons rfl (fun K hK => ?_) AllReadyH.nil
  go_simp
  refine (HRB.out _ (ext_drew (Below.refl _ _))).mono ?_
  rintro e w2 ⟨rfl, hw2⟩
  have hw2' : Below w.heap.size w w2 := ext_trans (ext_drew (Below.refl _ _)) hw2
  have q4 : w2.cell? ⟨q, 4, none⟩ = some (.pointer (some ⟨r, 0, none⟩)) := (hw2'.cell (p := ⟨q, 4, none⟩) (World.block_lt_of_cell? _ _ x4)).trans x4
  have HW2 := Lib.hid hw2'
  clear hw2 hw2'
  go_wp2_with fail
  refine hK.out _ _ (by exact q4) (fun hHeld4 => ?_)
  clear hK K
  try simp only [Act.put, List.setIfInBounds_toArray, List.set_cons_zero, List.set_cons_succ]
  refine wpAnyH_ready (rs := [8]) (by kernel_rfl) (by simp) ?_
  refine AllReadyH.cons rfl (fun K hK => ?_) AllReadyH.nil
  go_simp
  refine (HUS.out _ HW2.out).mono ?_
  rintro e w3 ⟨rfl, hw3⟩
  have hw3' : Below w.heap.size w w3 := ext_trans HW2.out hw3
  have r4 : w3.cell? ⟨q, 4, none⟩ = some (.pointer (some ⟨r, 0, none⟩)) := (hw3'.cell (p := ⟨q, 4, none⟩) (World.block_lt_of_cell? _ _ x4)).trans x4
  have HW3 := Lib.hid hw3'
  clear hw3 hw3'
  go_wp2_with fail
  refine hK.out _ _ (by exact r4) (fun hHeld8 => ?_)
  clear hK K
  try simp only [Act.put, List.setIfInBounds_toArray, List.set_cons_zero, List.set_cons_succ]
  refine tky 9 (some 15) hHeld8 ?_
  try simp only [Act.put, List.setIfInBounds_toArray, List.set_cons_zero, List.set_cons_succ]
  refine tky 10 (some 2) hHeld8 ?_
  try simp only [Act.put, List.setIfInBounds_toArray, List.set_cons_zero, List.set_cons_succ]
  refine wpAnyH_done (by kernel_rfl) ?_ _
  go_wp2_with fail
  go_ret
  exact ⟨rfl, HW3.out⟩
set_option maxRecDepth 100000 in
set_option maxHeartbeats 1000000 in
theorem LEpoch_in {S : Nat → Prop} {w : World} {q r p : Nat} {l : Lg} {g : Rg} {size : Nat} {v : Value} (h : LgLies S w q r p l g size v) : Calls Tryz.prog 83 #[.pointer (some ⟨q, 0, none⟩)] w fun e w' => e = .returned (.int .u64 (l.epoch : Nat)) ∧ w' = w := by
  have x4 : w.cell? ⟨q, 4, none⟩ = some (.pointer (some ⟨r, 0, none⟩)) := h.own.cell 4
  have x5 : w.cell? ⟨q, 5, none⟩ = some (.int .u64 (l.epoch : Nat)) := h.own.cell 5
  clear h
  go_enter Tryz.func83, Tryz.ntmps83
  go_wp2_with fail
  refine (Lmade_in q r w x4).mono ?_
  rintro e w1 ⟨rfl, hw1⟩
  rw [hw1]
  clear hw1 w1
  go_wp2_with fail
  go_ret
  exact ⟨rfl, rfl⟩
set_option maxRecDepth 100000 in
set_option maxHeartbeats 1000000 in
theorem LUsed_in {S : Nat → Prop} {w : World} {q r p : Nat} {l : Lg} {g : Rg} {size : Nat} {v : Value} (h : LgLies S w q r p l g size v) : Calls Tryz.prog 75 #[.pointer (some ⟨q, 0, none⟩)] w fun e w' => e = .returned (.int .i64 (l.used : Nat)) ∧ Below w.heap.size w w' := by
  have x4 : w.cell? ⟨q, 4, none⟩ = some (.pointer (some ⟨r, 0, none⟩)) := h.own.cell 4
  have HUS := Lib.hid (Lused_in h)
  clear h
  go_enter Tryz.func75, Tryz.ntmps75
  go_wp2_with fail
  refine (Lmade_in q r w x4).mono ?_
  rintro e w1 ⟨rfl, hw1⟩
  rw [hw1]
  clear hw1 w1
  go_wp2_with fail
  refine HUS.out.mono ?_
  rintro e w1 ⟨rfl, hw1⟩
  have HW := Lib.hid hw1
  clear hw1
  go_wp2_with fail
  go_ret
  exact ⟨rfl, HW.out⟩
end Go.Proofs.YtbnkanehjnepbaaGreatDoor.En
end

/- Layer 10: a log: Fits, settle, Flush. -/
section
set_option linter.unusedVariables false
set_option linter.unusedSimpArgs false
namespace Go.Proofs.YtbnkanehjnepbaaGreatDoor.En
open Go.RowKit
open Go.Proofs.YtbnkanehjnepbaaGreatDoor.Oc (Bs bytesV byteV okA okA_some okA_none ClOut bytesV_len bytesV_one bytesV_app u8_info own_blk)

theorem wrP_dk (g : Rg) : ∀ (ps : List Piece) (d : Dev) (b : By), (∀ x ∈ ps, x.f < x.t) → (wrP g d ps b).2.dk.size = d.dk.size ∧ (wrP g d ps b).2.dk.row.length ≤ d.dk.row.length + tot ps
  | [], d, b, _ => ⟨rfl, Nat.le_refl _⟩
  | x :: ps, d, b, h => by
    have h1 : (wr1 g d x b).2.dk.size = d.dk.size ∧ (wr1 g d x b).2.dk.row.length ≤ d.dk.row.length + 1 := by
      unfold wr1
      split
      · split
        · have h2 := Dev.write_size (d.read (g.from_ + x.s : Nat)).2.2 (g.from_ + x.s : Nat) ((d.read (g.from_ + x.s : Nat)).2.1.take x.f ++ b.take (x.t - x.f) ++ (d.read (g.from_ + x.s : Nat)).2.1.drop x.t)
          rw [Dev.read_dk] at h2
          exact ⟨h2.1, h2.2.1⟩
        · rw [Dev.read_dk]; exact ⟨rfl, Nat.le_succ _⟩
      · have h2 := Dev.write_size d (g.from_ + x.s : Nat) (b.take (x.t - x.f))
        exact ⟨h2.1, h2.2.1⟩
    have hx := h x (List.mem_cons_self ..)
    rw [wrP, tot]
    split
    · have h3 := wrP_dk g ps (wr1 g d x b).2 (b.drop (x.t - x.f)) (fun y hy => h y (List.mem_cons_of_mem _ hy))
      exact ⟨h3.1.trans h1.1, by omega⟩
    · exact ⟨h1.1, by omega⟩
theorem Rg.write_dk (g : Rg) (d : Dev) (at_ : Nat) (b : By) (hs : 1 ≤ d.dk.size) : (g.write d at_ b).2.dk.size = d.dk.size ∧ (g.write d at_ b).2.dk.row.length ≤ d.dk.row.length + b.length := by
  unfold Rg.write
  split
  · exact ⟨rfl, Nat.le_add_right _ _⟩
  · have h1 := wrP_dk g (pieces d.dk.size b.length (at_ : Int).toNat b.length) d b (fun x hx => (pieces_in _ hs _ _ _ (Nat.le_refl _) x hx).1)
    rw [pieces_tot _ hs _ _ _ (Nat.le_refl _)] at h1
    exact h1
end Go.Proofs.YtbnkanehjnepbaaGreatDoor.En
end

/- Layer 10: a log: Append, Reset, New. -/
section
set_option linter.unusedVariables false
set_option linter.unusedSimpArgs false
namespace Go.Proofs.YtbnkanehjnepbaaGreatDoor.En
open Go.RowKit
open Go.Proofs.YtbnkanehjnepbaaGreatDoor.Oc (Bs bytesV byteV okA okA_some okA_none ClOut bytesV_len bytesV_one bytesV_app u8_info own_blk)
open Go.Proofs.YtbnkanehjnepbaaGreatDoor.Cr (CrcTab)

def NwOut (r p : Nat) (l : Lg) (g : Rg) (size : Nat) (w : World) (e : Ending) (w' : World) : Prop := ∃ q, e = .returned (.tuple #[.pointer (some ⟨q, 0, none⟩), .int .i64 0]) ∧ w.heap.size ≤ q ∧ LgIn q r p l g size (fun k => k = q ∨ k = r) w' ∧ Below w.heap.size w w'
set_option maxRecDepth 100000 in
set_option maxHeartbeats 4000000 in
theorem LNew_in {w : World} {r p : Nat} {g : Rg} {size : Nat} (h : RgAt w r p g size) (ep seq : Nat) (hep : ep < 18446744073709551616) (hseq : seq < 18446744073709551616) :
    Calls Tryz.prog 28 #[.pointer (some ⟨r, 0, none⟩), .int .u64 ep, .int .u64 seq] w (NwOut r p ⟨ep, seq, [], 0⟩ g size w) := by
  have HRB := Lib.hid (RBytes_in h)
  have hby := h.bytes_le
  have hb0 : 1 ≤ g.bytes size := by
    have h1 := h.size; have h2 := h.count
    unfold Rg.bytes
    exact Nat.mul_pos h2.1 h1.1
  obtain ⟨B, hB⟩ : ∃ B, g.bytes size = B := ⟨_, rfl⟩
  rw [hB] at HRB hby hb0
  have hq : ((B : Int) == 0) = false := by rw [beq_eq_false_iff_ne]; omega
  have hq2 : (B == 0) = false := by rw [beq_eq_false_iff_ne]; omega
  have H := Lib.hid h; have HEP := Lib.hid hep; have HSQ := Lib.hid hseq
  clear h hep hseq hby hb0 hB
  go_enter Tryz.func28, Tryz.ntmps28
  go_wp2_with fail
  refine HRB.out.mono ?_
  rintro e w1 ⟨rfl, hb1⟩
  have HB1 := Lib.hid hb1
  clear hb1
  go_wp2_with fail
  go_ret2
  obtain ⟨wf, hwf⟩ : ∃ wf, w1.alloc (.cells #[.slice none 0 0, .int .i64 0, .int .u64 ((seq : Nat) : Int), .int .u64 ((seq : Nat) : Int), .pointer (some ⟨r, 0, none⟩), .int .u64 ((ep : Nat) : Int)] 179) = wf := ⟨_, rfl⟩
  rw [hwf]
  have hbf : Below w1.heap.size w1 wf := by rw [← hwf]; exact ext_alloc (Below.refl _ _) _
  have hof : Arr wf w1.heap.size 179 #[.slice none 0 0, .int .i64 0, .int .u64 ((seq : Nat) : Int), .int .u64 ((seq : Nat) : Int), .pointer (some ⟨r, 0, none⟩), .int .u64 ((ep : Nat) : Int)] := by rw [← hwf]; exact Arr.fresh w1 _ _
  have hrf : RgAt wf r p g size := (H.out.keep HB1.out).keep hbf
  refine ⟨w1.heap.size, rfl, HB1.out.size, ⟨.slice none 0 0, hof, hrf, own_nil wf 0 1 _, ⟨.inl rfl, .inr rfl, fun k hk => by simp [Value.ownBlock] at hk⟩, fun k hk => ?_, ⟨Nat.le_refl _, HSQ.out, HEP.out, fun x hx => by cases hx⟩, Nat.zero_le _⟩, ext_trans HB1.out hbf⟩
  rcases hk with rfl | rfl
  · exact hof.lt
  · exact hrf.own.lt

end Go.Proofs.YtbnkanehjnepbaaGreatDoor.En
end

/- Layer 11: slots: there, Bytes, may, Header. -/
section
set_option linter.unusedVariables false
set_option linter.unusedSimpArgs false
namespace Go.Proofs.YtbnkanehjnepbaaGreatDoor.En
open Go.RowKit
open Go.Proofs.YtbnkanehjnepbaaGreatDoor.Oc (le val Bs bytesV byteV okA okA_some okA_none ClOut bytesV_len bytesV_one bytesV_app u8_info own_blk AdOut WrAt WTwo_in WFour_in WEight_in WPut_in WOut_in)
open Go.Proofs.YtbnkanehjnepbaaGreatDoor.Cr (CrcTab crc)

/-- slots at block s -/
structure SlAt (w : World) (s ra rb p : Nat) (sl : Sl) (size : Nat) : Prop where
  own : Arr w s 171 #[.pointer (some ⟨ra, 0, none⟩), .pointer (some ⟨rb, 0, none⟩)]
  a : RgAt w ra p sl.a size
  b : RgAt w rb p sl.b size
  eq : sl.b.count = sl.a.count
  two : 2 ≤ sl.a.count
theorem SlAt.keep {w w' : World} {s ra rb p : Nat} {sl : Sl} {size : Nat} (h : SlAt w s ra rb p sl size) (hb : Below w.heap.size w w') : SlAt w' s ra rb p sl size := ⟨h.own.keep hb, h.a.keep hb, h.b.keep hb, h.eq, h.two⟩
theorem SlAt.tch {S : Nat → Prop} {w w' : World} {s ra rb p : Nat} {sl : Sl} {size : Nat} (h : SlAt w s ra rb p sl size) (ht : Tch S w w') (h1 : ¬ S s) (h2 : ¬ S ra) (h3 : ¬ S rb) : SlAt w' s ra rb p sl size := ⟨ht.arr h.own h1, h.a.tch ht h2, h.b.tch ht h3, h.eq, h.two⟩
set_option maxRecDepth 100000 in
set_option maxHeartbeats 1000000 in
theorem Sthere_in (s ra : Nat) (w : World) (h : w.cell? ⟨s, 0, none⟩ = some (.pointer (some ⟨ra, 0, none⟩))) : Calls Tryz.prog 66 #[.pointer (some ⟨s, 0, none⟩)] w fun e w' => e = .returned (.bool true) ∧ w' = w := by
  go_enter Tryz.func66, Tryz.ntmps66
  go_wp2_with fail
  go_ret
  exact ⟨rfl, rfl⟩
set_option maxRecDepth 100000 in
set_option maxHeartbeats 1000000 in
theorem SBytes_in {w : World} {s ra rb p : Nat} {sl : Sl} {size : Nat} (h : SlAt w s ra rb p sl size) : Calls Tryz.prog 67 #[.pointer (some ⟨s, 0, none⟩)] w fun e w' => e = .returned (.int .i64 (sl.bytes size : Nat)) ∧ Below w.heap.size w w' := by
  have x0 : w.cell? ⟨s, 0, none⟩ = some (.pointer (some ⟨ra, 0, none⟩)) := h.own.cell 0
  have HRB := Lib.hid fun (W : World) (hW : Below w.heap.size w W) => RBytes_in (h.a.keep hW)
  have HRS := Lib.hid fun (W : World) (hW : Below w.heap.size w W) => RSize_in (h.a.keep hW)
  have h2 := h.a.bytes_le
  have h3 : size ≤ sl.a.bytes size := by unfold Rg.bytes; exact Nat.le_mul_of_pos_left _ (by have := h.two; omega)
  unfold Sl.bytes
  obtain ⟨a, ha⟩ : ∃ a, sl.a.bytes size = a := ⟨_, rfl⟩
  rw [ha] at HRB h2 h3 ⊢
  have hab : (a : Int) - (size : Int) = ((a - size : Nat) : Int) := by omega
  have ha4 : (a : Int) ≤ 268435456 := by omega
  have hwr : IntKind.i64.wrap ((a - size : Nat) : Int) = ((a - size : Nat) : Int) := IntWalk.i64_in _ (by omega)
  clear h ha h2
  go_enter Tryz.func67, Tryz.ntmps67
  go_wp2_with fail
  refine (Sthere_in s ra w x0).mono ?_
  rintro e w1 ⟨rfl, hw1⟩
  rw [hw1]
  clear hw1 w1
  go_wp2_with fail
  refine wp_region_held_drew (S := (fun w' => w'.cell? ⟨s, 0, none⟩ = some (.pointer (some ⟨ra, 0, none⟩)))) (by kernel_rfl) (by exact x0) (fun hHeld => ?_)
  refine tky 0 (some 6) hHeld ?_
  try simp only [Act.put, List.setIfInBounds_toArray, List.set_cons_zero, List.set_cons_succ]
  refine tky 1 (some 7) hHeld ?_
  try simp only [Act.put, List.setIfInBounds_toArray, List.set_cons_zero, List.set_cons_succ]
  refine tky 2 (some 8) hHeld ?_
  try simp only [Act.put, List.setIfInBounds_toArray, List.set_cons_zero, List.set_cons_succ]
  refine tky 3 (some 9) hHeld ?_
  try simp only [Act.put, List.setIfInBounds_toArray, List.set_cons_zero, List.set_cons_succ]
  refine tky 4 (some 10) hHeld ?_
  try simp only [Act.put, List.setIfInBounds_toArray, List.set_cons_zero, List.set_cons_succ]
  refine tky 5 (some 11) hHeld ?_
  try simp only [Act.put, List.setIfInBounds_toArray, List.set_cons_zero, List.set_cons_succ]
  refine tky 7 (some 13) hHeld ?_
  try simp only [Act.put, List.setIfInBounds_toArray, List.set_cons_zero, List.set_cons_succ]
  refine tky 8 (some 14) hHeld ?_
  try simp only [Act.put, List.setIfInBounds_toArray, List.set_cons_zero, List.set_cons_succ]
  refine tky 9 (some 15) hHeld ?_
  try simp only [Act.put, List.setIfInBounds_toArray, List.set_cons_zero, List.set_cons_succ]
  refine tky 10 (some 16) hHeld ?_
  try simp only [Act.put, List.setIfInBounds_toArray, List.set_cons_zero, List.set_cons_succ]
  refine tky 11 (some 17) hHeld ?_
  try simp only [Act.put, List.setIfInBounds_toArray, List.set_cons_zero, List.set_cons_succ]
  refine tky 12 (some 18) hHeld ?_
  try simp only [Act.put, List.setIfInBounds_toArray, List.set_cons_zero, List.set_cons_succ]
  refine wpAnyH_ready (rs := [6]) (by kernel_rfl) (by simp) ?_
  refine AllReadyH.cons rfl (fun K hK => ?_) AllReadyH.nil
  go_simp
  refine (HRB.out _ (ext_drew (Below.refl _ _))).mono ?_
  rintro e w2 ⟨rfl, hw2⟩
  have hw2' : Below w.heap.size w w2 := ext_trans (ext_drew (Below.refl _ _)) hw2
  have q4 : w2.cell? ⟨s, 0, none⟩ = some (.pointer (some ⟨ra, 0, none⟩)) := (hw2'.cell (p := ⟨s, 0, none⟩) (World.block_lt_of_cell? _ _ x0)).trans x0
  have HW2 := Lib.hid hw2'
  clear hw2 hw2'
  go_wp2_with fail
  refine hK.out _ _ (by exact q4) (fun hHeld6 => ?_)
  clear hK K
  try simp only [Act.put, List.setIfInBounds_toArray, List.set_cons_zero, List.set_cons_succ]
  refine wpAnyH_ready (rs := [13]) (by kernel_rfl) (by simp) ?_
  refine AllReadyH.cons rfl (fun K hK => ?_) AllReadyH.nil
  go_simp
  refine (HRS.out _ HW2.out).mono ?_
  rintro e w3 ⟨rfl, hw3⟩
  rw [hw3]
  clear hw3 w3
  go_wp2_with fail
  refine hK.out _ _ (by exact q4) (fun hHeld13 => ?_)
  clear hK K
  try simp only [Act.put, List.setIfInBounds_toArray, List.set_cons_zero, List.set_cons_succ]
  refine tky 14 (some 20) hHeld13 ?_
  try simp only [Act.put, List.setIfInBounds_toArray, List.set_cons_zero, List.set_cons_succ]
  refine tky 15 (some 2) hHeld13 ?_
  try simp only [Act.put, List.setIfInBounds_toArray, List.set_cons_zero, List.set_cons_succ]
  refine wpAnyH_done (by kernel_rfl) ?_ _
  go_wp2_with fail
  go_ret
  exact ⟨rfl, HW2.out⟩
-- may
def hdV (h : Hd) : Array Value := #[.int .u64 (h.gen : Nat), .int .u64 (h.cov : Nat), .int .i64 (h.len : Nat), .int .u32 (h.sum : Nat)]
set_option maxRecDepth 100000 in
set_option maxHeartbeats 1000000 in
theorem Smay_in (h : Hd) (w : World) : Calls Tryz.prog 125 #[.agg (hdV h)] w fun e w' => e = .returned (.bool h.may) ∧ Below w.heap.size w w' := by
  obtain ⟨gen, cov, len, sum⟩ := h
  unfold hdV Hd.may
  simp only
  by_cases h1 : 0 < gen
  · have h1' : (0 : Int) < (gen : Int) := by omega
    rw [show decide (0 < gen) = true by simpa using h1, Bool.true_and]
    have h2 : decide (len ≤ 67108864) = decide ((len : Int) ≤ 67108864) := by rw [decide_eq_decide]; omega
    rw [h2]
    have h3 : (0 : Int) ≤ (len : Int) := by omega
    go_enter Tryz.func125, Tryz.ntmps125
    go_wp2_with fail
    go_ret
    exact ⟨rfl, ext_alloc (Below.refl _ _) _⟩
  · have h1' : ¬ (0 : Int) < (gen : Int) := by omega
    rw [show decide (0 < gen) = false by simpa using h1, Bool.false_and]
    go_enter Tryz.func125, Tryz.ntmps125
    go_wp2_with fail
    go_ret
    exact ⟨rfl, ext_alloc (Below.refl _ _) _⟩

end Go.Proofs.YtbnkanehjnepbaaGreatDoor.En
end

/- Layer 11: slots: Header. -/
section
set_option linter.unusedVariables false
set_option linter.unusedSimpArgs false
namespace Go.Proofs.YtbnkanehjnepbaaGreatDoor.En
open Go.RowKit
open Go.Proofs.YtbnkanehjnepbaaGreatDoor.Oc (le val Bs bytesV byteV okA okA_some okA_none ClOut bytesV_len bytesV_one bytesV_app u8_info own_blk AdOut WrAt WTwo_in WFour_in WEight_in WPut_in WOut_in)
open Go.Proofs.YtbnkanehjnepbaaGreatDoor.Cr (CrcTab crc)

theorem hdHead_len (h : Hd) : (hdHead h).length = 28 := by simp [hdHead, gang, Oc.le_len]
theorem hdB_len (h : Hd) : (hdB h).length = 32 := by simp [hdB, hdHead_len, Oc.le_len]
structure Hd.Fit (h : Hd) : Prop where
  gen : h.gen < 18446744073709551616
  cov : h.cov < 18446744073709551616
  len : h.len ≤ 67108864
  sum : h.sum < 4294967296
def HeOut (h : Hd) (w : World) (e : Ending) (w' : World) : Prop :=
  ∃ A c, e = .returned (.tuple #[.slice A 32 c, .int .i64 0]) ∧ Bs w' A (hdB h) ∧ Below w.heap.size w w' ∧ 32 ≤ c ∧ (∀ g off, A = some ⟨g, off, none⟩ → w.heap.size ≤ g)
-- slots.Header
set_option maxRecDepth 100000 in
set_option maxHeartbeats 4000000 in
theorem SHeader_in (h : Hd) (w : World) (hm : h.may = true) (hf : h.Fit) (ht : CrcTab w) : Calls Tryz.prog 69 #[.agg (hdV h)] w (HeOut h w) := by
  have HMY := Lib.hid fun W => Smay_in h W
  rw [hm] at HMY
  unfold hdV at HMY ⊢
  obtain ⟨gen, cov, len, sum⟩ := h
  simp only at HMY ⊢
  have HF := Lib.hid hf; have HT := Lib.hid ht
  clear hf ht hm
  have hln : (0 : Int) ≤ (len : Int) := by omega
  have hl4 : (len : Int) ≤ 67108864 := by have := HF.out.len; simp only at this; omega
  have hw32 : IntKind.u32.wrap ((len : Nat) : Int) = ((len : Nat) : Int) := IntWalk.u32_in _ (by omega)
  go_enter Tryz.func69, Tryz.ntmps69
  go_wp2_with fail
  obtain ⟨b, hb⟩ : ∃ b, w.heap.size = b := ⟨_, rfl⟩
  obtain ⟨w0, hw0⟩ : ∃ w0, w.alloc (.cells #[.int .u64 (gen : Nat), .int .u64 (cov : Nat), .int .i64 (len : Nat), .int .u32 (sum : Nat)] 77) = w0 := ⟨_, rfl⟩
  have hb0 : Below w.heap.size w w0 := by rw [← hw0]; exact ext_alloc (Below.refl _ _) _
  have ha0 : Arr w0 b 77 #[.int .u64 (gen : Nat), .int .u64 (cov : Nat), .int .i64 (len : Nat), .int .u32 (sum : Nat)] := by rw [← hw0, ← hb]; exact Arr.fresh w _ _
  rw [hw0, hb]
  have HB := Lib.hid hb; have HB0 := Lib.hid hb0; have HA0 := Lib.hid ha0
  clear hw0 hb hb0 ha0
  refine (HMY.out w0).mono ?_
  rintro e wa ⟨rfl, hba⟩
  have hab : Arr wa b 77 #[.int .u64 (gen : Nat), .int .u64 (cov : Nat), .int .i64 (len : Nat), .int .u32 (sum : Nat)] := HA0.out.keep hba
  have HBA := Lib.hid (show Below w.heap.size w wa from ext_trans HB0.out hba); have HAB := Lib.hid hab
  clear hba hab
  have hcv : (convert 51 51 (.slice (some ⟨wa.heap.size + 1, 0, none⟩) 4 4)).run Tryz.prog ((wa.alloc (.cells #[.slice none 0 0] 122)).alloc (.cells #[.int .u8 71, .int .u8 65, .int .u8 78, .int .u8 71] 5)) = .ok (.slice (some ⟨wa.heap.size + 1, 0, none⟩) 4 4) ((wa.alloc (.cells #[.slice none 0 0] 122)).alloc (.cells #[.int .u8 71, .int .u8 65, .int .u8 78, .int .u8 71] 5 (4, 5))) := by
    have := Go.Lib.run_convert_bytes_const (P := Tryz.prog) (wa.alloc (.cells #[.slice none 0 0] 122)) 51 5 #[.int .u8 71, .int .u8 65, .int .u8 78, .int .u8 71] 4 4 Tryz.underlying51 Tryz.underlying5
    rw [World.size_alloc] at this
    exact this
  go_wp2_with fail
  obtain ⟨p, hp⟩ : ∃ p, wa.heap.size = p := ⟨_, rfl⟩
  have hp1 : b + 1 ≤ p := by rw [← hp]; exact Nat.lt_of_lt_of_le HAB.out.lt (Nat.le_refl _)
  obtain ⟨w1, hw1⟩ : ∃ w1, ((wa.alloc (.cells #[.slice none 0 0] 122)).alloc (.cells #[.int .u8 71, .int .u8 65, .int .u8 78, .int .u8 71] 5 (4, 5))) = w1 := ⟨_, rfl⟩
  have hw10 : WrAt w1 p [] := by rw [← hw1, ← hp]; exact (Oc.WrAt.fresh wa).keep (ext_alloc (Below.refl _ _) _)
  have hb1 : Below wa.heap.size wa w1 := by rw [← hw1]; exact ext_alloc (ext_alloc (Below.refl _ _) _) _
  have ha1 : Arr w1 b 77 #[.int .u64 (gen : Nat), .int .u64 (cov : Nat), .int .i64 (len : Nat), .int .u32 (sum : Nat)] := HAB.out.keep hb1
  have hg1 : w1.heap[p + 1]? = some (.cells #[.int .u8 71, .int .u8 65, .int .u8 78, .int .u8 71] 5 (4, 5)) := by
    have hsz : (wa.alloc (.cells #[.slice none 0 0] 122)).heap.size = wa.heap.size + 1 := World.size_alloc _ _
    rw [← hw1, ← hp, ← hsz]
    show ((wa.alloc (.cells #[.slice none 0 0] 122)).heap.push _)[(wa.alloc (.cells #[.slice none 0 0] 122)).heap.size]? = _
    exact Array.getElem?_push_size
  have hgB : Bs w1 (some ⟨p + 1, 0, none⟩) gang := fun _ => ⟨p + 1, 0, rfl, (Array.getElem?_eq_some_iff.1 hg1).1, fun i u hu => by
    rw [Nat.zero_add, show w1.cell? ⟨p + 1, i, none⟩ = (#[Value.int .u8 71, .int .u8 65, .int .u8 78, .int .u8 71] : Array Value)[i]? from by simp [World.cell?, hg1], ← hu, ← Array.getElem?_toList]
    rfl⟩
  rw [hp]
  rw [hw1]
  have x0 : w1.cell? ⟨b, 0, none⟩ = some (.int .u64 (gen : Nat)) := ha1.cell 0
  have x1 : w1.cell? ⟨b, 1, none⟩ = some (.int .u64 (cov : Nat)) := ha1.cell 1
  have x2 : w1.cell? ⟨b, 2, none⟩ = some (.int .i64 (len : Nat)) := ha1.cell 2
  have x3 : w1.cell? ⟨b, 3, none⟩ = some (.int .u32 (sum : Nat)) := ha1.cell 3
  have HLT := Lib.hid ha1.lt; have HP := Lib.hid hp1; have HPE := Lib.hid hp
  have HGB := Lib.hid hgB; have HW_w1 := Lib.hid hw10; have HB1 := Lib.hid (show Below w.heap.size w w1 from ext_trans HBA.out hb1)
  clear hw10 hb1 ha1 hg1 hgB hw1 hp1 hp
  refine (Oc.WPut_in p [] gang ⟨p + 1, 0, none⟩ 4 w1 HW_w1.out HGB.out (by decide) (by decide)).mono ?_
  rintro en w2 ⟨⟨u, rfl⟩, hw_w2, ht_w2⟩
  have x0_w2 : w2.cell? ⟨b, 0, none⟩ = some (.int .u64 (gen : Nat)) := (ht_w2.cells (by have := HLT.out; omega) (by have := HP.out; omega) 0).trans x0
  have x1_w2 : w2.cell? ⟨b, 1, none⟩ = some (.int .u64 (cov : Nat)) := (ht_w2.cells (by have := HLT.out; omega) (by have := HP.out; omega) 1).trans x1
  have x2_w2 : w2.cell? ⟨b, 2, none⟩ = some (.int .i64 (len : Nat)) := (ht_w2.cells (by have := HLT.out; omega) (by have := HP.out; omega) 2).trans x2
  have x3_w2 : w2.cell? ⟨b, 3, none⟩ = some (.int .u32 (sum : Nat)) := (ht_w2.cells (by have := HLT.out; omega) (by have := HP.out; omega) 3).trans x3
  have HT_w2 := Lib.hid (ht_w2)
  have HW_w2 := Lib.hid hw_w2
  clear hw_w2 ht_w2 x0 x1 x2 x3
  go_wp2_with fail
  refine (Oc.WEight_in p gen _ w2 HW_w2.out (by simp [gang]) HF.out.gen).mono ?_
  rintro en w3 ⟨⟨u, rfl⟩, hw_w3, ht_w3⟩
  have x0_w3 : w3.cell? ⟨b, 0, none⟩ = some (.int .u64 (gen : Nat)) := (ht_w3.cells (by have := HLT.out; have := HT_w2.out.size; omega) (by have := HP.out; omega) 0).trans x0_w2
  have x1_w3 : w3.cell? ⟨b, 1, none⟩ = some (.int .u64 (cov : Nat)) := (ht_w3.cells (by have := HLT.out; have := HT_w2.out.size; omega) (by have := HP.out; omega) 1).trans x1_w2
  have x2_w3 : w3.cell? ⟨b, 2, none⟩ = some (.int .i64 (len : Nat)) := (ht_w3.cells (by have := HLT.out; have := HT_w2.out.size; omega) (by have := HP.out; omega) 2).trans x2_w2
  have x3_w3 : w3.cell? ⟨b, 3, none⟩ = some (.int .u32 (sum : Nat)) := (ht_w3.cells (by have := HLT.out; have := HT_w2.out.size; omega) (by have := HP.out; omega) 3).trans x3_w2
  have HT_w3 := Lib.hid (HT_w2.out.trans ht_w3)
  have HW_w3 := Lib.hid hw_w3
  clear hw_w3 ht_w3 x0_w2 x1_w2 x2_w2 x3_w2
  go_wp2_with fail
  refine (Oc.WEight_in p cov _ w3 HW_w3.out (by simp [gang, Oc.le_len]) HF.out.cov).mono ?_
  rintro en w4 ⟨⟨u, rfl⟩, hw_w4, ht_w4⟩
  have x0_w4 : w4.cell? ⟨b, 0, none⟩ = some (.int .u64 (gen : Nat)) := (ht_w4.cells (by have := HLT.out; have := HT_w3.out.size; omega) (by have := HP.out; omega) 0).trans x0_w3
  have x1_w4 : w4.cell? ⟨b, 1, none⟩ = some (.int .u64 (cov : Nat)) := (ht_w4.cells (by have := HLT.out; have := HT_w3.out.size; omega) (by have := HP.out; omega) 1).trans x1_w3
  have x2_w4 : w4.cell? ⟨b, 2, none⟩ = some (.int .i64 (len : Nat)) := (ht_w4.cells (by have := HLT.out; have := HT_w3.out.size; omega) (by have := HP.out; omega) 2).trans x2_w3
  have x3_w4 : w4.cell? ⟨b, 3, none⟩ = some (.int .u32 (sum : Nat)) := (ht_w4.cells (by have := HLT.out; have := HT_w3.out.size; omega) (by have := HP.out; omega) 3).trans x3_w3
  have HT_w4 := Lib.hid (HT_w3.out.trans ht_w4)
  have HW_w4 := Lib.hid hw_w4
  clear hw_w4 ht_w4 x0_w3 x1_w3 x2_w3 x3_w3
  go_wp2_with fail
  refine (Oc.WFour_in p len _ w4 HW_w4.out (by simp [gang, Oc.le_len]) (by have := HF.out.len; simp only at this; omega)).mono ?_
  rintro en w5 ⟨⟨u, rfl⟩, hw_w5, ht_w5⟩
  have x0_w5 : w5.cell? ⟨b, 0, none⟩ = some (.int .u64 (gen : Nat)) := (ht_w5.cells (by have := HLT.out; have := HT_w4.out.size; omega) (by have := HP.out; omega) 0).trans x0_w4
  have x1_w5 : w5.cell? ⟨b, 1, none⟩ = some (.int .u64 (cov : Nat)) := (ht_w5.cells (by have := HLT.out; have := HT_w4.out.size; omega) (by have := HP.out; omega) 1).trans x1_w4
  have x2_w5 : w5.cell? ⟨b, 2, none⟩ = some (.int .i64 (len : Nat)) := (ht_w5.cells (by have := HLT.out; have := HT_w4.out.size; omega) (by have := HP.out; omega) 2).trans x2_w4
  have x3_w5 : w5.cell? ⟨b, 3, none⟩ = some (.int .u32 (sum : Nat)) := (ht_w5.cells (by have := HLT.out; have := HT_w4.out.size; omega) (by have := HP.out; omega) 3).trans x3_w4
  have HT_w5 := Lib.hid (HT_w4.out.trans ht_w5)
  have HW_w5 := Lib.hid hw_w5
  clear hw_w5 ht_w5 x0_w4 x1_w4 x2_w4 x3_w4
  go_wp2_with fail
  refine (Oc.WFour_in p sum _ w5 HW_w5.out (by simp [gang, Oc.le_len]) HF.out.sum).mono ?_
  rintro en w6 ⟨⟨u, rfl⟩, hw_w6, ht_w6⟩
  have HT_w6 := Lib.hid (HT_w5.out.trans ht_w6)
  have HW_w6 := Lib.hid hw_w6
  clear hw_w6 ht_w6
  go_wp2_with fail
  have hw6 : WrAt w6 p (hdHead ⟨gen, cov, len, sum⟩) := by have := HW_w6.out; exact this
  have hh := hdHead_len ⟨gen, cov, len, sum⟩
  have hpn : w.heap.size ≤ p := by have h1 := HB.out; have h2 := HP.out; omega
  have ht6 : CrcTab w6 := (HT.out.keep HB1.out).tch HT_w6.out (fun e => by have h1 := World.block_lt_of_cell? w _ (HT.out 0 (by decide)); simp only at h1; omega)
  refine (Oc.WOut_in p _ w6 hw6 (by omega)).mono ?_
  rintro en w6b ⟨A6, c6, rfl, hA6, _, _, _, hb6⟩
  have HA6 := Lib.hid (Oc.ClOut.bs (w := w6) hA6)
  have HW6 := Lib.hid (hw6.keep hb6); have HT6 := Lib.hid (ht6.keep hb6); have HB6 := Lib.hid hb6; have HPN := Lib.hid hpn
  clear hw6 ht6 hA6 hb6 hpn
  go_wp2_with fail
  refine (Cr.Sum_in _ A6 c6 w6b HA6.out HT6.out (by rw [hh]; decide)).mono ?_
  rintro en w6c ⟨rfl, hw⟩
  rw [hw]
  clear hw w6c hh
  go_wp2_with fail
  have hl7 : (hdHead ⟨gen, cov, len, sum⟩).length ≤ 67108900 := by rw [hdHead_len]; decide
  refine (WFour_in p _ _ w6b HW6.out hl7 (Cr.crc_lt 0 _ (by decide))).mono ?_
  rintro en w7 ⟨⟨u7, rfl⟩, hw7, ht7⟩
  have hw7' : WrAt w7 p (hdB ⟨gen, cov, len, sum⟩) := hw7
  have HW7 := Lib.hid hw7'; have HT7 := Lib.hid ht7
  clear hw7 ht7 hw7' hl7
  go_wp2_with fail
  refine (Oc.WOut_in p _ w7 HW7.out (by rw [hdB_len]; decide)).mono ?_
  rintro en w8 ⟨A8, c8, rfl, hA8, hc8, hf8, _, hb8⟩
  have h1 : Tch (· = p) w1 w8 := (((HT_w6.out.below HB6.out).trans HT7.out).below hb8)
  have hbb : Below w.heap.size w w8 := h1.fresh HB1.out (fun k e => by have := HPN.out; omega)
  have hlen := hdB_len ⟨gen, cov, len, sum⟩
  have HFIN := Lib.hid (show HeOut ⟨gen, cov, len, sum⟩ w (.returned (.tuple #[.slice A8 32 c8, .int .i64 0])) w8 from ⟨A8, c8, rfl, Oc.ClOut.bs (w := w7) hA8, hbb, by rw [hlen] at hc8; exact hc8, fun g off e => Nat.le_trans (Nat.le_trans (Nat.le_trans HB1.out.size HT_w6.out.size) (Nat.le_trans HB6.out.size HT7.out.size)) (hf8 g off e).1⟩)
  rw [hlen]
  clear h1 hbb hlen hA8 hc8 hf8 hb8
  go_wp2_with fail
  go_ret2
  exact HFIN.out

end Go.Proofs.YtbnkanehjnepbaaGreatDoor.En
end

/- Layer 11: slots: a header is read. -/
section
set_option linter.unusedVariables false
set_option linter.unusedSimpArgs false
namespace Go.Proofs.YtbnkanehjnepbaaGreatDoor.En
open Go.RowKit
open Go.Proofs.YtbnkanehjnepbaaGreatDoor.Oc (le val Bs bytesV byteV okA okA_some okA_none ClOut bytesV_len bytesV_one bytesV_app u8_info own_blk RdAt RdOut RtOut tk tk_ok Of_in RTake_in REight_in RFour_in)
open Go.Proofs.YtbnkanehjnepbaaGreatDoor.Cr (CrcTab crc)

theorem hd_size : (Tryz.prog.info? 77).map (·.size) = some 4 := by kernel_rfl
def HrOut (b : By) (w : World) (e : Ending) (w' : World) : Prop :=
  (∃ er : Int, e = .returned (.tuple #[.agg (hdV ((hdR b).getD Hd.zero)), .int .i64 er]) ∧ (er = 0 ↔ (hdR b).isSome = true)) ∧ Below w.heap.size w w'
theorem hdV_one (h : Hd) : (hdV h).all (·.oneCell') = true := by simp [hdV, Value.oneCell']
set_option maxRecDepth 100000 in
set_option maxHeartbeats 4000000 in
theorem SRead_short (b : By) (A : Option Addr) (c : Nat) (w : World) (hs : b.length < 32) : Calls Tryz.prog 175 #[.slice A b.length c] w (HrOut b w) := by
  have hr : hdR b = none := by unfold hdR; rw [if_pos hs]
  have hs' : (b.length : Int) < 32 := by omega
  obtain ⟨n, hn⟩ : ∃ n, b.length = n := ⟨_, rfl⟩
  rw [hn] at hs hs' ⊢
  have HR := Lib.hid hr
  clear hr hn
  obtain ⟨w1, hw1⟩ : ∃ w1, w.alloc (.cells #[.int .u64 0, .int .u64 0, .int .i64 0, .int .u32 0] 77) = w1 := ⟨_, rfl⟩
  obtain ⟨r, hrr⟩ : ∃ r, w.heap.size = r := ⟨_, rfl⟩
  have hb1 : Below w.heap.size w w1 := by rw [← hw1]; exact ext_alloc (Below.refl _ _) _
  have ha1 : Arr w1 r 77 #[.int .u64 0, .int .u64 0, .int .i64 0, .int .u32 0] := by rw [← hw1, ← hrr]; exact Arr.fresh w _ _
  have HW1 := Lib.hid hw1; have HRR := Lib.hid hrr; have HB1 := Lib.hid hb1; have HA1 := Lib.hid ha1
  clear hb1 ha1
  go_enter Tryz.func175, Tryz.ntmps175
  go_wp2_with (first | (refine wpList_store_blk rfl 77 _ _ rfl r 77 _ #[.int .u64 0, .int .u64 0, .int .i64 0, .int .u32 0] HA1.out rfl rfl rfl hd_size (hdV_one Hd.zero) ?_; intro w3 hA3 hg3 hs3; have HA3 := Lib.hid hA3; have HG3 := Lib.hid hg3; clear hA3 hg3 hs3))
  refine bodyPost_ret (results_cell_tmp Tryz.results175 _ (by rfl) (run_load_blk 77 HA3.out _ Tryz.underlying77 rfl hd_size)) rfl ⟨⟨4, ?_, ?_⟩, ext_only HB1.out HG3.out (by have := HRR.out; omega)⟩
  · rw [HR.out]; rfl
  · rw [HR.out]; simp
theorem hdR_eq (b : By) (h : 32 ≤ b.length) : hdR b = if val (((((((b.take 32).drop 4).drop 8).drop 8).drop 4).drop 4).take 4) = crc 0 (b.take 28) ∧ (b.take 32).take 4 = gang then
    (if Hd.may ⟨val (((b.take 32).drop 4).take 8), val ((((b.take 32).drop 4).drop 8).take 8), val (((((b.take 32).drop 4).drop 8).drop 8).take 4), val ((((((b.take 32).drop 4).drop 8).drop 8).drop 4).take 4)⟩ = true then
      some ⟨val (((b.take 32).drop 4).take 8), val ((((b.take 32).drop 4).drop 8).take 8), val (((((b.take 32).drop 4).drop 8).drop 8).take 4), val ((((((b.take 32).drop 4).drop 8).drop 8).drop 4).take 4)⟩ else none) else none := by
  unfold hdR
  rw [if_neg (by omega)]
  simp [hdOf, List.drop_take, List.take_take, List.drop_drop]
  by_cases hh : val (List.take 4 (List.drop 28 b)) = crc 0 (List.take 28 b) ∧ List.take 4 b = gang
  · rw [if_pos hh, if_pos hh]; first | rfl | congr
  · rw [if_neg hh, if_neg hh]
theorem conv_str {W : World} {g c : Nat} {bs : By} (h : Blk W 5 g bs) : (convert 51 9 (.slice (some ⟨g, 0, none⟩) bs.length c)).run Tryz.prog W = .ok (.string ⟨bs.toArray⟩) W :=
  run_convert_bytes_back (P := Tryz.prog) W 51 9 5 ⟨g, 0, none⟩ c bs Tryz.underlying51 Tryz.underlying5 Tryz.underlying9 (by
    intro j hj
    rw [add_zero_off]
    exact h.cell hj)
set_option maxRecDepth 100000 in
set_option maxHeartbeats 4000000 in
theorem SRead_long (b : By) (g off c : Nat) (w : World) (hs : 32 ≤ b.length) (hB : Bs w (some ⟨g, off, none⟩) b) (hl : b.length ≤ 268435456) (hc : b.length ≤ c) (ht : CrcTab w) : Calls Tryz.prog 175 #[.slice (some ⟨g, off, none⟩) b.length c] w (HrOut b w) := by
  have hs' : ¬ (b.length : Int) < 32 := by omega
  have hs32 : (32 : Int) ≤ (b.length : Int) := by omega
  have hc' : (b.length : Int) ≤ (c : Int) := by omega
  have hc32 : (32 : Int) ≤ (c : Int) := by omega
  have hc28 : (28 : Int) ≤ (c : Int) := by omega
  have hn28 : (28 : Int) ≤ (b.length : Int) := by omega
  obtain ⟨n, hn⟩ : ∃ n, b.length = n := ⟨_, rfl⟩
  have h32 : (b.take 32).length = 32 := by rw [List.length_take]; omega
  have HB := Lib.hid hB; have HT := Lib.hid ht; have HN := Lib.hid hn; have H32 := Lib.hid h32
  rw [hn] at hs hs' hs32 hc hc' hl hn28 ⊢
  clear hB ht hn h32
  obtain ⟨w1, hw1⟩ : ∃ w1, w.alloc (.cells #[.int .u64 0, .int .u64 0, .int .i64 0, .int .u32 0] 77) = w1 := ⟨_, rfl⟩
  obtain ⟨r, hrr⟩ : ∃ r, w.heap.size = r := ⟨_, rfl⟩
  have hb1 : Below w.heap.size w w1 := by rw [← hw1]; exact ext_alloc (Below.refl _ _) _
  have ha1 : Arr w1 r 77 #[.int .u64 0, .int .u64 0, .int .i64 0, .int .u32 0] := by rw [← hw1, ← hrr]; exact Arr.fresh w _ _
  have HOF := Of_in (b.take 32) (some ⟨g, off, none⟩) c w1 ((HB.out.take 32).keep hb1) (okA_some _ _) (by rw [H32.out]; decide)
  rw [H32.out] at HOF
  have HOF := Lib.hid HOF
  have HW1 := Lib.hid hw1; have HRR := Lib.hid hrr; have HB1 := Lib.hid hb1; have HA1 := Lib.hid ha1
  clear hb1 ha1
  go_enter Tryz.func175, Tryz.ntmps175
  go_wp2_with fail
  refine HOF.out.mono ?_
  rintro e w2 ⟨p, q, rfl, hrd, hpw, hqw, hb2⟩
  have hb02 : Below w.heap.size w w2 := ext_trans HB1.out hb2
  have HA2 := Lib.hid (HA1.out.keep hb2); have HB2 := Lib.hid hb02; have HP := Lib.hid hpw; have HQ := Lib.hid hqw; have HRD := Lib.hid hrd
  have HRL := Lib.hid HA1.out.lt
  clear hrd hpw hqw hb2 hb02 HOF
  go_wp2_with fail
  refine (RTake_in p q 4 (b.take 32) 0 w2 HRD.out (by decide)).mono ?_
  rintro e w3 ⟨A3, c3, rfl, hbk, hfr, hrd, ht3⟩
  rw [tk_ok (by rw [H32.out]; decide)] at hbk hrd
  simp only at hbk hrd
  have h4 : ((b.take 32).take 4).length = 4 := by rw [List.length_take, H32.out]; decide
  obtain ⟨g3, rfl, hg3, hB3⟩ := hbk (by intro e; rw [e] at h4; simp at h4)
  have hcv := conv_str (c := c3) hB3
  rw [h4] at hcv
  rw [tk_ok (by rw [H32.out]; decide)]
  simp only
  rw [h4]
  obtain ⟨g4, hg4⟩ : ∃ g4, (b.take 32).take 4 = g4 := ⟨_, rfl⟩
  rw [hg4] at hcv
  have HG4 := Lib.hid hg4; have HRD3 := Lib.hid hrd; have HT3 := Lib.hid ht3
  have hL0 : ((b.take 32).drop 4).length = 28 := by rw [List.length_drop, H32.out]
  obtain ⟨L0, hL0e⟩ : ∃ L0, (b.take 32).drop 4 = L0 := ⟨_, rfl⟩
  rw [hL0e] at HRD3 hL0
  have HL0 := Lib.hid hL0; have HE0 := Lib.hid hL0e
  obtain ⟨isg, hisg⟩ : ∃ isg, (g4 == [71, 65, 78, 71]) = isg := ⟨_, rfl⟩
  have HIS := Lib.hid hisg
  clear hbk hfr hrd ht3 h4 hB3 hg3 hg4 HRD hL0 hL0e
  go_wp2_with fail
  refine (REight_in p q L0 0 w3 HRD3.out).mono ?_
  rintro e w4 ⟨rfl, hrd, ht⟩
  rw [tk_ok (by rw [HL0.out]; decide)] at hrd ⊢
  simp only at hrd ⊢
  obtain ⟨v0, hv⟩ : ∃ v0, val (L0.take 8) = v0 := ⟨_, rfl⟩
  rw [hv]
  have hvl : v0 < 256 ^ 8 := by rw [← hv]; exact Nat.lt_of_lt_of_le (Oc.val_lt _) (Nat.pow_le_pow_right (by decide) (by rw [List.length_take]; exact Nat.min_le_left _ _))
  have hL : (L0.drop 8).length = 20 := by rw [List.length_drop, HL0.out]
  obtain ⟨L1, hLe⟩ : ∃ L1, L0.drop 8 = L1 := ⟨_, rfl⟩
  rw [hLe] at hrd hL
  have hvi : (v0 : Int) < 256 ^ 8 := by exact_mod_cast hvl
  have HRD4 := Lib.hid hrd; have HT4 := Lib.hid (HT3.out.trans ht); have HL1 := Lib.hid hL; have HV0 := Lib.hid hv; have HE1 := Lib.hid hLe; have HVL0 := Lib.hid hvl
  clear hrd ht hL hv hLe hvl hvi
  go_wp2_with fail
  refine (REight_in p q L1 0 w4 HRD4.out).mono ?_
  rintro e w5 ⟨rfl, hrd, ht⟩
  rw [tk_ok (by rw [HL1.out]; decide)] at hrd ⊢
  simp only at hrd ⊢
  obtain ⟨v1, hv⟩ : ∃ v1, val (L1.take 8) = v1 := ⟨_, rfl⟩
  rw [hv]
  have hvl : v1 < 256 ^ 8 := by rw [← hv]; exact Nat.lt_of_lt_of_le (Oc.val_lt _) (Nat.pow_le_pow_right (by decide) (by rw [List.length_take]; exact Nat.min_le_left _ _))
  have hL : (L1.drop 8).length = 12 := by rw [List.length_drop, HL1.out]
  obtain ⟨L2, hLe⟩ : ∃ L2, L1.drop 8 = L2 := ⟨_, rfl⟩
  rw [hLe] at hrd hL
  have hvi : (v1 : Int) < 256 ^ 8 := by exact_mod_cast hvl
  have HRD5 := Lib.hid hrd; have HT5 := Lib.hid (HT4.out.trans ht); have HL2 := Lib.hid hL; have HV1 := Lib.hid hv; have HE2 := Lib.hid hLe; have HVL1 := Lib.hid hvl
  clear hrd ht hL hv hLe hvl hvi
  go_wp2_with fail
  refine (RFour_in p q L2 0 w5 HRD5.out).mono ?_
  rintro e w6 ⟨rfl, hrd, ht⟩
  rw [tk_ok (by rw [HL2.out]; decide)] at hrd ⊢
  simp only at hrd ⊢
  obtain ⟨v2, hv⟩ : ∃ v2, val (L2.take 4) = v2 := ⟨_, rfl⟩
  rw [hv]
  have hvl : v2 < 256 ^ 4 := by rw [← hv]; exact Nat.lt_of_lt_of_le (Oc.val_lt _) (Nat.pow_le_pow_right (by decide) (by rw [List.length_take]; exact Nat.min_le_left _ _))
  have hL : (L2.drop 4).length = 8 := by rw [List.length_drop, HL2.out]
  obtain ⟨L3, hLe⟩ : ∃ L3, L2.drop 4 = L3 := ⟨_, rfl⟩
  rw [hLe] at hrd hL
  have hvi : (v2 : Int) < 256 ^ 4 := by exact_mod_cast hvl
  have HRD6 := Lib.hid hrd; have HT6 := Lib.hid (HT5.out.trans ht); have HL3 := Lib.hid hL; have HV2 := Lib.hid hv; have HE3 := Lib.hid hLe; have HVL2 := Lib.hid hvl
  clear hrd ht hL hv hLe hvl hvi
  have hv2 : (v2 : Int) < 4294967296 := by have := HVL2.out; omega
  have hv20 : (0 : Int) ≤ (v2 : Int) := by omega
  go_wp2_with fail
  refine (RFour_in p q L3 0 w6 HRD6.out).mono ?_
  rintro e w7 ⟨rfl, hrd, ht⟩
  rw [tk_ok (by rw [HL3.out]; decide)] at hrd ⊢
  simp only at hrd ⊢
  obtain ⟨v3, hv⟩ : ∃ v3, val (L3.take 4) = v3 := ⟨_, rfl⟩
  rw [hv]
  have hvl : v3 < 256 ^ 4 := by rw [← hv]; exact Nat.lt_of_lt_of_le (Oc.val_lt _) (Nat.pow_le_pow_right (by decide) (by rw [List.length_take]; exact Nat.min_le_left _ _))
  have hL : (L3.drop 4).length = 4 := by rw [List.length_drop, HL3.out]
  obtain ⟨L4, hLe⟩ : ∃ L4, L3.drop 4 = L4 := ⟨_, rfl⟩
  rw [hLe] at hrd hL
  have hvi : (v3 : Int) < 256 ^ 4 := by exact_mod_cast hvl
  have HRD7 := Lib.hid hrd; have HT7 := Lib.hid (HT6.out.trans ht); have HL4 := Lib.hid hL; have HV3 := Lib.hid hv; have HE4 := Lib.hid hLe; have HVL3 := Lib.hid hvl
  clear hrd ht hL hv hLe hvl hvi
  go_wp2_with fail
  obtain ⟨v4, hv4⟩ : ∃ v4, val (L4.take 4) = v4 := ⟨_, rfl⟩
  obtain ⟨CR, hCR⟩ : ∃ CR, crc 0 (b.take 28) = CR := ⟨_, rfl⟩
  have hres : hdR b = if v4 = CR ∧ g4 = gang then (if Hd.may ⟨v0, v1, v2, v3⟩ = true then some ⟨v0, v1, v2, v3⟩ else none) else none := by
    rw [hdR_eq b (by rw [HN.out]; exact hs), HE0.out, HE1.out, HE2.out, HE3.out, HE4.out, HV0.out, HV1.out, HV2.out, HV3.out, hv4, hCR, HG4.out]
  have hisg : isg = decide (g4 = gang) := by rw [← HIS.out, Bool.eq_iff_iff, beq_iff_eq, decide_eq_true_iff]; rfl
  obtain ⟨hb7, hhb⟩ : ∃ hb7, w7.heap.size = hb7 := ⟨_, rfl⟩
  obtain ⟨w8, hw8⟩ : ∃ w8, w7.alloc (.cells #[.int .u64 (v0 : Nat), .int .u64 (v1 : Nat), .int .i64 (v2 : Nat), .int .u32 (v3 : Nat)] 77) = w8 := ⟨_, rfl⟩
  have hb8 : Below w7.heap.size w7 w8 := by rw [← hw8]; exact ext_alloc (Below.refl _ _) _
  have ha8 : Arr w8 hb7 77 (hdV ⟨v0, v1, v2, v3⟩) := by rw [← hw8, ← hhb]; exact Arr.fresh w7 _ _
  have hT28 : Tch (· = q) w2 w8 := HT7.out.below hb8
  have hqr : r ≠ q := fun e => by have h1 := HQ.out; have h2 := HRL.out; omega
  have hA8r : Arr w8 r 77 #[.int .u64 0, .int .u64 0, .int .i64 0, .int .u32 0] := hT28.arr HA2.out hqr
  have HRD8 := Lib.hid (show RdAt w8 p q L4 0 from ⟨HRD7.out.own.keep hb8, HRD7.out.rest.keep hb8⟩)
  have hBb8 : Bs w8 (some ⟨g, off, none⟩) b := (HB.out.keep HB2.out).tch hT28 fun g' o' e hlt hq => by
    injection e with e; injection e with e
    have h1 : g < w.heap.size := by obtain ⟨g', o', e', h1, _⟩ := HB.out (by intro e; have := HN.out; rw [e] at this; simp at this; omega); injection e' with e'; injection e' with e'; omega
    have h2 := HQ.out; have h3 := HB1.out.size
    omega
  have hq2 : w.heap.size ≤ q := Nat.le_trans HB1.out.size HQ.out
  have hT8 : CrcTab w8 := (HT.out.keep HB2.out).tch hT28 (fun e => by have h1 := World.block_lt_of_cell? w _ (HT.out 0 (by decide)); simp only at h1; omega)
  rw [hw8, hhb]
  have HRES := Lib.hid hres; have HISG := Lib.hid hisg; have HB8 := Lib.hid hb8; have HA8 := Lib.hid ha8; have HT28 := Lib.hid hT28; have HA8R := Lib.hid hA8r; have HBB8 := Lib.hid hBb8; have HTAB8 := Lib.hid hT8; have HV4 := Lib.hid hv4; have HCR := Lib.hid hCR; have HQW := Lib.hid hq2; have HHB := Lib.hid hhb
  clear hres hisg hb8 ha8 hT28 hqr hA8r hBb8 hT8 hv4 hCR hq2 hhb hw8
  by_cases hsum : v4 = CR
  · have hsb : ((v4 : Int) != (CR : Int)) = false := by simp [hsum]
    have hsb2 : (v4 != CR) = false := by simp [hsum]
    refine wp_region_held_drew (S := (fun _ => True)) (by kernel_rfl) (by trivial) (fun hHeld => ?_)
    refine tky 0 (some 29) hHeld ?_
    try simp only [Act.put, List.setIfInBounds_toArray, List.set_cons_zero, List.set_cons_succ]
    refine tky 2 (some 31) hHeld ?_
    try simp only [Act.put, List.setIfInBounds_toArray, List.set_cons_zero, List.set_cons_succ]
    refine tky 3 (some 32) hHeld ?_
    try simp only [Act.put, List.setIfInBounds_toArray, List.set_cons_zero, List.set_cons_succ]
    refine wpAnyH_ready (rs := [1]) (by kernel_rfl) (by simp) ?_
    refine AllReadyH.cons rfl (fun K hK => ?_) AllReadyH.nil
    go_simp
    refine (RFour_in p q L4 0 w8.drew (show RdAt w8.drew p q L4 0 from ⟨HRD8.out.own.keep (ext_drew (Below.refl _ _)), HRD8.out.rest.keep (ext_drew (Below.refl _ _))⟩)).mono ?_
    rintro e w9 ⟨rfl, hrd, ht⟩
    rw [tk_ok (by rw [HL4.out]; decide)]
    simp only
    rw [HV4.out]
    have ht9 : Tch (· = q) w8 w9 := ⟨ht.os, ht.tape, ht.output, ht.size, ht.block⟩
    have HT9 := Lib.hid ht9
    clear hrd ht ht9
    go_wp2_with fail
    refine hK.out _ _ (by trivial) (fun hHeld1 => ?_)
    clear hK K
    try simp only [Act.put, List.setIfInBounds_toArray, List.set_cons_zero, List.set_cons_succ]
    refine wpAnyH_ready (rs := [4]) (by kernel_rfl) (by simp) ?_
    refine AllReadyH.cons rfl (fun K hK => ?_) AllReadyH.nil
    go_simp
    have hB9 : Bs w9 (some ⟨g, off, none⟩) (b.take 28) := (HBB8.out.tch HT9.out fun g' o' e hlt hq => by
      injection e with e; injection e with e
      have h1 : g < w.heap.size := by obtain ⟨g', o', e', h1, _⟩ := HB.out (by intro e; have := HN.out; rw [e] at this; simp at this; omega); injection e' with e'; injection e' with e'; omega
      have h2 := HQW.out
      omega).take 28
    have h28 : (b.take 28).length = 28 := by rw [List.length_take, HN.out]; omega
    have hSM := Cr.Sum_in (b.take 28) (some ⟨g, off, none⟩) c w9 hB9 (HTAB8.out.tch HT9.out (fun e => by have h1 := World.block_lt_of_cell? w _ (HT.out 0 (by decide)); have h2 := HQW.out; simp only at h1; omega)) (by rw [h28]; decide)
    rw [h28, HCR.out] at hSM
    refine hSM.mono ?_
    rintro e w10 ⟨rfl, hw10⟩
    rw [hw10]
    clear hw10 w10 hB9 h28 hSM
    go_wp2_with fail
    refine hK.out _ _ (by trivial) (fun hHeld4 => ?_)
    clear hK K
    try simp only [Act.put, List.setIfInBounds_toArray, List.set_cons_zero, List.set_cons_succ]
    refine tky 5 (some 34) hHeld4 ?_
    try simp only [Act.put, List.setIfInBounds_toArray, List.set_cons_zero, List.set_cons_succ]
    refine tky 6 (some 35) hHeld4 ?_
    try simp only [Act.put, List.setIfInBounds_toArray, List.set_cons_zero, List.set_cons_succ]
    refine tky 7 (some 36) hHeld4 ?_
    try simp only [Act.put, List.setIfInBounds_toArray, List.set_cons_zero, List.set_cons_succ]
    refine tky 8 (some 37) hHeld4 ?_
    try simp only [Act.put, List.setIfInBounds_toArray, List.set_cons_zero, List.set_cons_succ]
    refine tky 9 (some 38) hHeld4 ?_
    try simp only [Act.put, List.setIfInBounds_toArray, List.set_cons_zero, List.set_cons_succ]
    refine tky 10 (some 28) hHeld4 ?_
    try simp only [Act.put, List.setIfInBounds_toArray, List.set_cons_zero, List.set_cons_succ]
    refine wpAnyH_done (by kernel_rfl) ?_ _
    have hqlt : q < hb7 := by
      obtain ⟨_, _, h1, _⟩ := HRD7.out.rest.ex
      have h2 := h1.lt; have h3 := HHB.out; omega
    have hqr : r ≠ q := fun e => by have h1 := HQ.out; have h2 := HRL.out; omega
    have hA9r : Arr w9 r 77 #[.int .u64 0, .int .u64 0, .int .i64 0, .int .u32 0] := HT9.out.arr HA8R.out hqr
    have hA9 : Arr w9 hb7 77 #[.int .u64 (v0 : Nat), .int .u64 (v1 : Nat), .int .i64 (v2 : Nat), .int .u32 (v3 : Nat)] := HT9.out.arr HA8.out (by omega)
    have hBl9 : Below w.heap.size w w9 := (HT28.out.trans HT9.out).fresh HB2.out (fun k e => by have := HQW.out; omega)
    have HA9R := Lib.hid hA9r; have HA9 := Lib.hid hA9; have HBL9 := Lib.hid hBl9
    have k0 : w9.cell? ⟨hb7, 0, none⟩ = some (.int .u64 (v0 : Nat)) := hA9.cell 0
    have k1 : w9.cell? ⟨hb7, 1, none⟩ = some (.int .u64 (v1 : Nat)) := hA9.cell 1
    have k2 : w9.cell? ⟨hb7, 2, none⟩ = some (.int .i64 (v2 : Nat)) := hA9.cell 2
    have k3 : w9.cell? ⟨hb7, 3, none⟩ = some (.int .u32 (v3 : Nat)) := hA9.cell 3
    clear hqlt hqr hA9r hA9 hBl9
    clear hsb hsb2
    cases hi : isg with
    | false =>
      have HNO := Lib.hid (show hdR b = none from by rw [HRES.out, if_neg (fun hh => by have h1 := HISG.out; rw [decide_eq_true hh.2, hi] at h1; cases h1)])
      rw [Bool.not_false]
      clear hi hsum
      go_wp2_with (first | (refine wpList_store_blk rfl 77 _ _ rfl r 77 _ #[.int .u64 0, .int .u64 0, .int .i64 0, .int .u32 0] HA9R.out rfl rfl rfl hd_size (hdV_one Hd.zero) ?_; intro wz hAz hgz hsz; have HAz := Lib.hid hAz; have HGz := Lib.hid hgz; clear hAz hgz hsz))
      refine bodyPost_ret (results_cell_tmp Tryz.results175 _ (by rfl) (run_load_blk 77 HAz.out _ Tryz.underlying77 rfl hd_size)) rfl ⟨⟨81, ?_, ?_⟩, ext_only HBL9.out HGz.out (by have := HRR.out; omega)⟩
      · rw [HNO.out]; rfl
      · rw [HNO.out]; simp
    | true =>
      have hgg : g4 = gang := of_decide_eq_true (by rw [← HISG.out, hi])
      rw [Bool.not_true]
      have HMY := Smay_in ⟨v0, v1, v2, v3⟩ w9
      unfold hdV at HMY
      simp only at HMY
      have HYES := Lib.hid (show hdR b = if Hd.may ⟨v0, v1, v2, v3⟩ = true then some ⟨v0, v1, v2, v3⟩ else none from by rw [HRES.out, if_pos ⟨hsum, hgg⟩])
      obtain ⟨my, hmy⟩ : ∃ my, Hd.may ⟨v0, v1, v2, v3⟩ = my := ⟨_, rfl⟩
      rw [hmy] at HMY HYES
      have HMY := Lib.hid HMY
      clear hmy hgg hi hsum
      go_wp2_with fail
      refine HMY.out.mono ?_
      rintro e wm ⟨rfl, hbm⟩
      have hAm := HA9.out.keep hbm
      have l0 : wm.cell? ⟨hb7, 0, none⟩ = some (.int .u64 (v0 : Nat)) := hAm.cell 0
      have l1 : wm.cell? ⟨hb7, 1, none⟩ = some (.int .u64 (v1 : Nat)) := hAm.cell 1
      have l2 : wm.cell? ⟨hb7, 2, none⟩ = some (.int .i64 (v2 : Nat)) := hAm.cell 2
      have l3 : wm.cell? ⟨hb7, 3, none⟩ = some (.int .u32 (v3 : Nat)) := hAm.cell 3
      have HAMR := Lib.hid (HA9R.out.keep hbm); have HBM := Lib.hid (show Below w.heap.size w wm from ext_trans HBL9.out hbm)
      clear hAm hbm
      cases my with
      | false =>
        have HNO := Lib.hid (show hdR b = none from by rw [HYES.out]; rfl)
        go_wp2_with (first | (refine wpList_store_blk rfl 77 _ _ rfl r 77 _ #[.int .u64 0, .int .u64 0, .int .i64 0, .int .u32 0] HAMR.out rfl rfl rfl hd_size (hdV_one Hd.zero) ?_; intro wz hAz hgz hsz; have HAz := Lib.hid hAz; have HGz := Lib.hid hgz; clear hAz hgz hsz))
        refine bodyPost_ret (results_cell_tmp Tryz.results175 _ (by rfl) (run_load_blk 77 HAz.out _ Tryz.underlying77 rfl hd_size)) rfl ⟨⟨2, ?_, ?_⟩, ext_only HBM.out HGz.out (by have := HRR.out; omega)⟩
        · rw [HNO.out]; rfl
        · rw [HNO.out]; simp
      | true =>
        have HOK := Lib.hid (show hdR b = some ⟨v0, v1, v2, v3⟩ from by rw [HYES.out]; rfl)
        go_wp2_with (first | (refine wpList_store_blk rfl 77 _ _ rfl r 77 _ #[.int .u64 (v0 : Nat), .int .u64 (v1 : Nat), .int .i64 (v2 : Nat), .int .u32 (v3 : Nat)] HAMR.out rfl rfl rfl hd_size (hdV_one ⟨v0, v1, v2, v3⟩) ?_; intro wz hAz hgz hsz; have HAz := Lib.hid hAz; have HGz := Lib.hid hgz; clear hAz hgz hsz))
        refine bodyPost_ret (results_cell_tmp Tryz.results175 _ (by rfl) (run_load_blk 77 HAz.out _ Tryz.underlying77 rfl hd_size)) rfl ⟨⟨0, ?_, ?_⟩, ext_only HBM.out HGz.out (by have := HRR.out; omega)⟩
        · rw [HOK.out]; rfl
        · rw [HOK.out]; simp
  · have hsb : ((v4 : Int) != (CR : Int)) = true := by simp; omega
    have hsb2 : (v4 != CR) = true := by simp [hsum]
    refine wp_region_held_drew (S := (fun _ => True)) (by kernel_rfl) (by trivial) (fun hHeld => ?_)
    refine tky 0 (some 29) hHeld ?_
    try simp only [Act.put, List.setIfInBounds_toArray, List.set_cons_zero, List.set_cons_succ]
    refine tky 2 (some 31) hHeld ?_
    try simp only [Act.put, List.setIfInBounds_toArray, List.set_cons_zero, List.set_cons_succ]
    refine tky 3 (some 32) hHeld ?_
    try simp only [Act.put, List.setIfInBounds_toArray, List.set_cons_zero, List.set_cons_succ]
    refine wpAnyH_ready (rs := [1]) (by kernel_rfl) (by simp) ?_
    refine AllReadyH.cons rfl (fun K hK => ?_) AllReadyH.nil
    go_simp
    refine (RFour_in p q L4 0 w8.drew (show RdAt w8.drew p q L4 0 from ⟨HRD8.out.own.keep (ext_drew (Below.refl _ _)), HRD8.out.rest.keep (ext_drew (Below.refl _ _))⟩)).mono ?_
    rintro e w9 ⟨rfl, hrd, ht⟩
    rw [tk_ok (by rw [HL4.out]; decide)]
    simp only
    rw [HV4.out]
    have ht9 : Tch (· = q) w8 w9 := ⟨ht.os, ht.tape, ht.output, ht.size, ht.block⟩
    have HT9 := Lib.hid ht9
    clear hrd ht ht9
    go_wp2_with fail
    refine hK.out _ _ (by trivial) (fun hHeld1 => ?_)
    clear hK K
    try simp only [Act.put, List.setIfInBounds_toArray, List.set_cons_zero, List.set_cons_succ]
    refine wpAnyH_ready (rs := [4]) (by kernel_rfl) (by simp) ?_
    refine AllReadyH.cons rfl (fun K hK => ?_) AllReadyH.nil
    go_simp
    have hB9 : Bs w9 (some ⟨g, off, none⟩) (b.take 28) := (HBB8.out.tch HT9.out fun g' o' e hlt hq => by
      injection e with e; injection e with e
      have h1 : g < w.heap.size := by obtain ⟨g', o', e', h1, _⟩ := HB.out (by intro e; have := HN.out; rw [e] at this; simp at this; omega); injection e' with e'; injection e' with e'; omega
      have h2 := HQW.out
      omega).take 28
    have h28 : (b.take 28).length = 28 := by rw [List.length_take, HN.out]; omega
    have hSM := Cr.Sum_in (b.take 28) (some ⟨g, off, none⟩) c w9 hB9 (HTAB8.out.tch HT9.out (fun e => by have h1 := World.block_lt_of_cell? w _ (HT.out 0 (by decide)); have h2 := HQW.out; simp only at h1; omega)) (by rw [h28]; decide)
    rw [h28, HCR.out] at hSM
    refine hSM.mono ?_
    rintro e w10 ⟨rfl, hw10⟩
    rw [hw10]
    clear hw10 w10 hB9 h28 hSM
    go_wp2_with fail
    refine hK.out _ _ (by trivial) (fun hHeld4 => ?_)
    clear hK K
    try simp only [Act.put, List.setIfInBounds_toArray, List.set_cons_zero, List.set_cons_succ]
    refine tky 5 (some 34) hHeld4 ?_
    try simp only [Act.put, List.setIfInBounds_toArray, List.set_cons_zero, List.set_cons_succ]
    refine tky 6 (some 35) hHeld4 ?_
    try simp only [Act.put, List.setIfInBounds_toArray, List.set_cons_zero, List.set_cons_succ]
    refine tkn 7 (some 36) hHeld4 ?_
    try simp only [Act.put, List.setIfInBounds_toArray, List.set_cons_zero, List.set_cons_succ]
    refine tkn 8 (some 37) hHeld4 ?_
    try simp only [Act.put, List.setIfInBounds_toArray, List.set_cons_zero, List.set_cons_succ]
    refine tky 9 (some 38) hHeld4 ?_
    try simp only [Act.put, List.setIfInBounds_toArray, List.set_cons_zero, List.set_cons_succ]
    refine tky 10 (some 28) hHeld4 ?_
    try simp only [Act.put, List.setIfInBounds_toArray, List.set_cons_zero, List.set_cons_succ]
    refine wpAnyH_done (by kernel_rfl) ?_ _
    have hqlt : q < hb7 := by
      obtain ⟨_, _, h1, _⟩ := HRD7.out.rest.ex
      have h2 := h1.lt; have h3 := HHB.out; omega
    have hqr : r ≠ q := fun e => by have h1 := HQ.out; have h2 := HRL.out; omega
    have hA9r : Arr w9 r 77 #[.int .u64 0, .int .u64 0, .int .i64 0, .int .u32 0] := HT9.out.arr HA8R.out hqr
    have hA9 : Arr w9 hb7 77 #[.int .u64 (v0 : Nat), .int .u64 (v1 : Nat), .int .i64 (v2 : Nat), .int .u32 (v3 : Nat)] := HT9.out.arr HA8.out (by omega)
    have hBl9 : Below w.heap.size w w9 := (HT28.out.trans HT9.out).fresh HB2.out (fun k e => by have := HQW.out; omega)
    have HA9R := Lib.hid hA9r; have HA9 := Lib.hid hA9; have HBL9 := Lib.hid hBl9
    have k0 : w9.cell? ⟨hb7, 0, none⟩ = some (.int .u64 (v0 : Nat)) := hA9.cell 0
    have k1 : w9.cell? ⟨hb7, 1, none⟩ = some (.int .u64 (v1 : Nat)) := hA9.cell 1
    have k2 : w9.cell? ⟨hb7, 2, none⟩ = some (.int .i64 (v2 : Nat)) := hA9.cell 2
    have k3 : w9.cell? ⟨hb7, 3, none⟩ = some (.int .u32 (v3 : Nat)) := hA9.cell 3
    clear hqlt hqr hA9r hA9 hBl9
    have HNO := Lib.hid (show hdR b = none from by rw [HRES.out, if_neg (fun hh => hsum hh.1)])
    go_wp2_with (first | (refine wpList_store_blk rfl 77 _ _ rfl r 77 _ #[.int .u64 0, .int .u64 0, .int .i64 0, .int .u32 0] HA9R.out rfl rfl rfl hd_size (hdV_one Hd.zero) ?_; intro wz hAz hgz hsz; have HAz := Lib.hid hAz; have HGz := Lib.hid hgz; clear hAz hgz hsz))
    refine bodyPost_ret (results_cell_tmp Tryz.results175 _ (by rfl) (run_load_blk 77 HAz.out _ Tryz.underlying77 rfl hd_size)) rfl ⟨⟨81, ?_, ?_⟩, ext_only HBL9.out HGz.out (by have := HRR.out; omega)⟩
    · rw [HNO.out]; rfl
    · rw [HNO.out]; simp
theorem SRead_in (b : By) (A : Option Addr) (c : Nat) (w : World) (hB : Bs w A b) (hl : b.length ≤ 268435456) (hc : b.length ≤ c) (ht : CrcTab w) : Calls Tryz.prog 175 #[.slice A b.length c] w (HrOut b w) := by
  by_cases hs : b.length < 32
  · exact SRead_short b A c w hs
  · obtain ⟨g, off, rfl, _⟩ := hB (by intro e; rw [e] at hs; simp at hs)
    exact SRead_long b g off c w (by omega) hB hl hc ht

end Go.Proofs.YtbnkanehjnepbaaGreatDoor.En
end

/- Layer 11: slots: a slot's header. -/
section
set_option linter.unusedVariables false
set_option linter.unusedSimpArgs false
namespace Go.Proofs.YtbnkanehjnepbaaGreatDoor.En
open Go.RowKit
open Go.Proofs.YtbnkanehjnepbaaGreatDoor.Oc (le val Bs bytesV byteV okA okA_some okA_none ClOut bytesV_len)
open Go.Proofs.YtbnkanehjnepbaaGreatDoor.Cr (CrcTab crc)

theorem rdP_len (g : Rg) : ∀ (ps : List Piece) (d : Dev) (acc : By), (∀ x ∈ ps, x.f < x.t ∧ x.t ≤ d.dk.size) → (rdP g d ps acc).2.1.length ≤ acc.length + tot ps
  | [], d, acc, _ => Nat.le_refl _
  | x :: ps, d, acc, h => by
    rw [rdP, tot]
    have hx := h x (List.mem_cons_self ..)
    split
    · have h1 := rdP_len g ps (d.read (g.from_ + x.s : Nat)).2.2 (acc ++ ((d.read (g.from_ + x.s : Nat)).2.1.take x.t).drop x.f) (fun y hy => by rw [Dev.read_dk]; exact h y (List.mem_cons_of_mem _ hy))
      have h2 : (((d.read (g.from_ + x.s : Nat)).2.1.take x.t).drop x.f).length ≤ x.t - x.f := by rw [List.length_drop, List.length_take]; omega
      rw [List.length_append] at h1
      omega
    · exact Nat.zero_le _
theorem Rg.read_len (g : Rg) (d : Dev) (at_ n : Nat) (hs : 1 ≤ d.dk.size) : (g.read d at_ n).2.1.length ≤ n := by
  unfold Rg.read
  split
  · exact Nat.zero_le _
  · have h1 := rdP_len g (pieces d.dk.size (n : Int).toNat (at_ : Int).toNat (n : Int).toNat) d [] (fun x hx => pieces_in _ hs _ _ _ (Nat.le_refl _) x hx)
    rw [pieces_tot _ hs _ _ _ (Nat.le_refl _), Int.toNat_natCast] at h1
    simpa using h1
def HdOut (S : Nat → Prop) (p : Nat) (R : Int × Hd × Dev) (w : World) (e : Ending) (w' : World) : Prop := e = .returned (.tuple #[.agg (hdV R.2.1), .int .i64 R.1]) ∧ DvIn p R.2.2 S w' ∧ Tch S w w'
-- slots.slot.header
set_option maxRecDepth 100000 in
set_option maxHeartbeats 4000000 in
theorem Shead_in {S : Nat → Prop} {w : World} {r p : Nat} {g : Rg} {d : Dev} (h : RgAt w r p g d.dk.size) (hD : DvIn p d S w) (hr : ¬ S r) (ht : CrcTab w) (htS : ¬ S 1) :
    Calls Tryz.prog 111 #[.agg #[.pointer (some ⟨r, 0, none⟩)]] w (HdOut S p (hdOne g d) w) := by
  obtain ⟨bx, hbx⟩ : ∃ bx, w.heap.size = bx := ⟨_, rfl⟩
  obtain ⟨w0, hw0⟩ : ∃ w0, w.alloc (.cells #[.pointer (some ⟨r, 0, none⟩)] 168) = w0 := ⟨_, rfl⟩
  obtain ⟨rr, hrr⟩ : ∃ rr, w0.heap.size = rr := ⟨_, rfl⟩
  obtain ⟨w1, hw1⟩ : ∃ w1, w0.alloc (.cells #[.int .u64 0, .int .u64 0, .int .i64 0, .int .u32 0] 77) = w1 := ⟨_, rfl⟩
  have hb0 : Below w.heap.size w w0 := by rw [← hw0]; exact ext_alloc (Below.refl _ _) _
  have hb01 : Below w0.heap.size w0 w1 := by rw [← hw1]; exact ext_alloc (Below.refl _ _) _
  have hb1 : Below w.heap.size w w1 := ext_trans hb0 hb01
  have ha0 : Arr w0 bx 168 #[.pointer (some ⟨r, 0, none⟩)] := by rw [← hw0, ← hbx]; exact Arr.fresh w _ _
  have ha1 := ha0.keep hb01
  have ha2 : Arr w1 rr 77 #[.int .u64 0, .int .u64 0, .int .i64 0, .int .u32 0] := by rw [← hw1, ← hrr]; exact Arr.fresh w0 _ _
  have hr1 : bx + 1 = rr := by rw [← hrr, ← hw0, ← hbx]; simp only [World.alloc, Array.size_push]
  have x1 : w1.cell? ⟨bx, 0, none⟩ = some (.pointer (some ⟨r, 0, none⟩)) := ha1.cell 0
  have hSl := (DvIn_loc p d).lt hD
  have hnbx : ¬ S bx := fun hs => by have := hSl _ hs; omega
  have hnrr : ¬ S rr := fun hs => by have := hSl _ hs; omega
  obtain ⟨er, her⟩ : ∃ er, (g.read d (0 : Nat) d.dk.size).1 = er := ⟨_, rfl⟩
  obtain ⟨bs, hbs⟩ : ∃ bs, (g.read d (0 : Nat) d.dk.size).2.1 = bs := ⟨_, rfl⟩
  obtain ⟨d1, hd1⟩ : ∃ d1, (g.read d (0 : Nat) d.dk.size).2.2 = d1 := ⟨_, rfl⟩
  have hrd : g.read d ((0 : Nat) : Int) d.dk.size = (er, bs, d1) := by rw [← her, ← hbs, ← hd1]
  have hlen : bs.length ≤ d.dk.size := by rw [← hbs]; exact g.read_len d 0 d.dk.size hD.ok.size.1
  have hone : hdOne g d = if er = 0 then (0, (match hdR bs with | some h => if h.len ≤ g.bytes d.dk.size - d.dk.size then h else Hd.zero | none => Hd.zero), d1) else (er, Hd.zero, d1) := by
    unfold hdOne
    rw [show (g.read d 0 d.dk.size) = (er, bs, d1) from hrd]
    try rfl
  obtain ⟨R, hR⟩ : ∃ R, hdOne g d = R := ⟨_, rfl⟩
  rw [hR] at hone ⊢
  have hsz := hD.ok.size
  have HRS := Lib.hid fun (W : World) (hW : Below w.heap.size w W) => RSize_in (h.keep hW)
  have HRR := Lib.hid fun (W : World) (hW : Below w.heap.size w W) => RRead_in (h.keep hW) ((DvIn_loc p d).below hD hW) hr 0 d.dk.size (by decide) (by omega)
  rw [hrd] at HRR
  obtain ⟨size, hsize⟩ : ∃ size, d.dk.size = size := ⟨_, rfl⟩
  have HH := Lib.hid h; have HD := Lib.hid hD
  rw [hsize] at HRS HRR hlen hone hsz HH
  have HONE := Lib.hid hone; have HLEN := Lib.hid hlen; have HB1 := Lib.hid hb1; have HA1 := Lib.hid ha1; have HA2 := Lib.hid ha2; have HW0 := Lib.hid hw0; have HW1 := Lib.hid hw1; have HBX := Lib.hid hbx; have HR1 := Lib.hid hr1; have HNB := Lib.hid hnbx; have HNR := Lib.hid hnrr; have HT := Lib.hid ht; have HTS := Lib.hid htS; have HNS := Lib.hid hr; have HSZ := Lib.hid hsz; have HSL := Lib.hid hSl
  clear hsize h hD hr ht htS hb0 hb01 hb1 ha0 ha1 ha2 hr1 hSl hnbx hnrr her hbs hd1 hrd hlen hone hR hsz hw0 hw1 hrr hbx
  go_enter Tryz.func111, Tryz.ntmps111
  go_wp2_with fail
  rw [HW0.out, HW1.out, HBX.out, HR1.out]
  refine wp_region_held_drew (S := (fun w' => w'.cell? ⟨bx, 0, none⟩ = some (.pointer (some ⟨r, 0, none⟩)))) (by kernel_rfl) (by exact x1) (fun hHeld => ?_)
  refine tky 0 (some 9) hHeld ?_
  try simp only [Act.put, List.setIfInBounds_toArray, List.set_cons_zero, List.set_cons_succ]
  refine tky 1 (some 10) hHeld ?_
  try simp only [Act.put, List.setIfInBounds_toArray, List.set_cons_zero, List.set_cons_succ]
  refine tky 2 (some 11) hHeld ?_
  try simp only [Act.put, List.setIfInBounds_toArray, List.set_cons_zero, List.set_cons_succ]
  refine tky 3 (some 12) hHeld ?_
  try simp only [Act.put, List.setIfInBounds_toArray, List.set_cons_zero, List.set_cons_succ]
  refine wpAnyH_ready (rs := [4]) (by kernel_rfl) (by simp) ?_
  refine AllReadyH.cons rfl (fun K hK => ?_) AllReadyH.nil
  go_simp
  refine (HRS.out w1.drew (ext_drew HB1.out)).mono ?_
  rintro e w2 ⟨rfl, hw2⟩
  rw [hw2]
  clear hw2 w2
  go_wp2_with fail
  refine hK.out _ _ (by exact x1) (fun hHeld4 => ?_)
  clear hK K
  try simp only [Act.put, List.setIfInBounds_toArray, List.set_cons_zero, List.set_cons_succ]
  refine wpAnyH_ready (rs := [5]) (by kernel_rfl) (by simp) ?_
  refine AllReadyH.cons rfl (fun K hK => ?_) AllReadyH.nil
  go_simp
  refine (HRR.out w1.drew (ext_drew HB1.out)).mono ?_
  rintro e w2 ⟨⟨A, c, rfl, hblk, hc⟩, hD2, ht2⟩
  have q1 : w2.cell? ⟨bx, 0, none⟩ = some (.pointer (some ⟨r, 0, none⟩)) := (World.cell?_of_block (a := ⟨bx, 0, none⟩) (ht2.block bx HA1.out.lt HNB.out)).trans x1
  have HBK := Lib.hid hblk; have HC := Lib.hid hc; have HD2 := Lib.hid hD2; have HT2 := Lib.hid (show Tch S w w2 from (Tch.of_below HB1.out).trans ⟨ht2.os, ht2.tape, ht2.output, ht2.size, ht2.block⟩); have HA2' := Lib.hid (show Arr w2 rr 77 #[.int .u64 0, .int .u64 0, .int .i64 0, .int .u32 0] from (ht2.block rr HA2.out.lt HNR.out).trans HA2.out)
  clear hblk hc hD2 ht2
  go_wp2_with fail
  refine hK.out _ _ (by exact q1) (fun hHeld5 => ?_)
  clear hK K
  try simp only [Act.put, List.setIfInBounds_toArray, List.set_cons_zero, List.set_cons_succ]
  refine tky 6 (some 8) hHeld5 ?_
  try simp only [Act.put, List.setIfInBounds_toArray, List.set_cons_zero, List.set_cons_succ]
  refine tky 7 (some 15) hHeld5 ?_
  try simp only [Act.put, List.setIfInBounds_toArray, List.set_cons_zero, List.set_cons_succ]
  refine tky 8 (some 16) hHeld5 ?_
  try simp only [Act.put, List.setIfInBounds_toArray, List.set_cons_zero, List.set_cons_succ]
  refine tky 9 (some 4) hHeld5 ?_
  try simp only [Act.put, List.setIfInBounds_toArray, List.set_cons_zero, List.set_cons_succ]
  refine tky 10 (some 5) hHeld5 ?_
  try simp only [Act.put, List.setIfInBounds_toArray, List.set_cons_zero, List.set_cons_succ]
  refine wpAnyH_done (by kernel_rfl) ?_ _
  by_cases h0 : er = 0
  · subst h0
    have HON0 := Lib.hid (show R = (0, (match hdR bs with | some h => if h.len ≤ g.bytes size - size then h else Hd.zero | none => Hd.zero), d1) from by rw [HONE.out, if_pos rfl])
    have HSR := Lib.hid (SRead_in bs A c w2 (fun hn => by obtain ⟨g', rfl, _, hb⟩ := HBK.out hn; exact hb.bs hn) (by have h1 := HLEN.out; have h2 := HSZ.out; omega) HC.out (HT.out.tch HT2.out HTS.out))
    clear HONE
    go_wp2_with fail
    refine HSR.out.mono ?_
    rintro e w3 ⟨⟨er2, rfl, hiff⟩, hb3⟩
    obtain ⟨hh, hhh⟩ : ∃ hh, (hdR bs).getD Hd.zero = hh := ⟨_, rfl⟩
    rw [hhh]
    have s1 : w3.cell? ⟨bx, 0, none⟩ = some (.pointer (some ⟨r, 0, none⟩)) := (hb3.cell (p := ⟨bx, 0, none⟩) (World.block_lt_of_cell? _ _ q1)).trans q1
    have HHH := Lib.hid hhh; have HIFF := Lib.hid hiff; have HB3 := Lib.hid hb3; have HA3 := Lib.hid (HA2'.out.keep hb3)
    have HA4 := Lib.hid (Arr.fresh w3 77 #[.int .u64 0, .int .u64 0, .int .i64 0, .int .u32 0])
    clear hhh hiff hb3 HSR
    go_wp2_with (first | (refine wpList_store_blk rfl 77 _ _ rfl w3.heap.size 77 _ (hdV hh) HA4.out rfl rfl rfl hd_size (hdV_one hh) ?_; intro w5 hA5 hg5 hs5; have HA5 := Lib.hid hA5; have HG5 := Lib.hid hg5; clear hA5 hg5 hs5))
    obtain ⟨hk, hhk⟩ : ∃ hk, w3.heap.size = hk := ⟨_, rfl⟩
    have hb35 : Below w3.heap.size w3 w5 := ext_only (ext_alloc (Below.refl _ _) _) HG5.out (Nat.le_refl _)
    have hA5 : Arr w5 hk 77 (hdV hh) := by rw [← hhk]; exact HA5.out
    rw [hhk]
    have t1 : w5.cell? ⟨bx, 0, none⟩ = some (.pointer (some ⟨r, 0, none⟩)) := (hb35.cell (p := ⟨bx, 0, none⟩) (World.block_lt_of_cell? _ _ s1)).trans s1
    have k0 : w5.cell? ⟨hk, 0, none⟩ = some (.int .u64 (hh.gen : Nat)) := hA5.cell 0
    have k1 : w5.cell? ⟨hk, 1, none⟩ = some (.int .u64 (hh.cov : Nat)) := hA5.cell 1
    have k2 : w5.cell? ⟨hk, 2, none⟩ = some (.int .i64 (hh.len : Nat)) := hA5.cell 2
    have k3 : w5.cell? ⟨hk, 3, none⟩ = some (.int .u32 (hh.sum : Nat)) := hA5.cell 3
    have HA3' := Lib.hid (HA3.out.keep hb35)
    have HB25 := Lib.hid (show Below w2.heap.size w2 w5 from ext_trans HB3.out hb35)
    clear hb35 hA5 HA5 HG5 HA4 hhk
    by_cases hz : er2 = 0
    · subst hz
      obtain ⟨h', hh'⟩ : ∃ h', hdR bs = some h' := Option.isSome_iff_exists.1 (HIFF.out.1 rfl)
      have hhe : hh = h' := by rw [← HHH.out, hh']; rfl
      have hby := HH.out.bytes_le
      have HRB := Lib.hid fun (W : World) (hW : Tch S w W) => RBytes_in (HH.out.tch hW HNS.out)
      have HRZ := Lib.hid fun (W : World) (hW : Tch S w W) => RSize_in (HH.out.tch hW HNS.out)
      obtain ⟨B, hB⟩ : ∃ B, g.bytes size = B := ⟨_, rfl⟩
      have hBs : size ≤ B := by rw [← hB]; unfold Rg.bytes; exact Nat.le_mul_of_pos_left _ HH.out.count.1
      obtain ⟨m, hm⟩ : ∃ m, B - size = m := ⟨_, rfl⟩
      have hbm : (B : Int) - (size : Int) = (m : Int) := by omega
      have hm4 : (m : Int) ≤ 268435456 := by omega
      have hwm : IntKind.i64.wrap ((m : Nat) : Int) = ((m : Nat) : Int) := IntWalk.i64_in _ (by omega)
      rw [hB] at HRB
      have HON1 := Lib.hid (show R = (0, (if hh.len ≤ m then hh else Hd.zero), d1) from by rw [HON0.out, hh', hB, hm, hhe])
      clear hh' hhe hby hB hBs hm HON0
      obtain ⟨ln, hln⟩ : ∃ ln, hh.len = ln := ⟨_, rfl⟩
      rw [hln] at k2 HON1
      have HLN := Lib.hid hln
      clear hln
      by_cases hle : ln ≤ m
      · have hlm : ¬ (m : Int) < (ln : Int) := by omega
        have HON0 := Lib.hid (show R = (0, hh, d1) from by rw [HON1.out, if_pos hle])
        clear HON1 hle
        refine wp_region_held_drew (S := (fun w' => w'.cell? ⟨bx, 0, none⟩ = some (.pointer (some ⟨r, 0, none⟩)) ∧ w'.cell? ⟨hk, 2, none⟩ = some (.int .i64 (ln : Nat)))) (by kernel_rfl) (by exact ⟨t1, k2⟩) (fun hHeld => ?_)
        refine tky 0 (some 26) hHeld ?_
        try simp only [Act.put, List.setIfInBounds_toArray, List.set_cons_zero, List.set_cons_succ]
        refine tky 1 (some 27) hHeld ?_
        try simp only [Act.put, List.setIfInBounds_toArray, List.set_cons_zero, List.set_cons_succ]
        refine tky 2 (some 28) hHeld ?_
        try simp only [Act.put, List.setIfInBounds_toArray, List.set_cons_zero, List.set_cons_succ]
        refine tky 3 (some 29) hHeld ?_
        try simp only [Act.put, List.setIfInBounds_toArray, List.set_cons_zero, List.set_cons_succ]
        refine tky 4 (some 30) hHeld ?_
        try simp only [Act.put, List.setIfInBounds_toArray, List.set_cons_zero, List.set_cons_succ]
        refine tky 5 (some 31) hHeld ?_
        try simp only [Act.put, List.setIfInBounds_toArray, List.set_cons_zero, List.set_cons_succ]
        refine tky 6 (some 32) hHeld ?_
        try simp only [Act.put, List.setIfInBounds_toArray, List.set_cons_zero, List.set_cons_succ]
        refine tky 8 (some 34) hHeld ?_
        try simp only [Act.put, List.setIfInBounds_toArray, List.set_cons_zero, List.set_cons_succ]
        refine tky 9 (some 35) hHeld ?_
        try simp only [Act.put, List.setIfInBounds_toArray, List.set_cons_zero, List.set_cons_succ]
        refine wpAnyH_ready (rs := [7]) (by kernel_rfl) (by simp) ?_
        refine AllReadyH.cons rfl (fun K hK => ?_) AllReadyH.nil
        go_simp
        refine (HRB.out w5.drew ((HT2.out.below HB25.out).below (ext_drew (Below.refl _ _)))).mono ?_
        rintro e w6 ⟨rfl, hb6⟩
        have hb56 : Below w5.heap.size w5 w6 := ext_trans (ext_drew (Below.refl _ _)) hb6
        have u1 : w6.cell? ⟨bx, 0, none⟩ = some (.pointer (some ⟨r, 0, none⟩)) := (hb56.cell (p := ⟨bx, 0, none⟩) (World.block_lt_of_cell? _ _ t1)).trans t1
        have u2 : w6.cell? ⟨hk, 2, none⟩ = some (.int .i64 (ln : Nat)) := (hb56.cell (p := ⟨hk, 2, none⟩) (World.block_lt_of_cell? _ _ k2)).trans k2
        have u0 : w6.cell? ⟨hk, 0, none⟩ = some (.int .u64 (hh.gen : Nat)) := (hb56.cell (p := ⟨hk, 0, none⟩) (World.block_lt_of_cell? _ _ k0)).trans k0
        have u4 : w6.cell? ⟨hk, 1, none⟩ = some (.int .u64 (hh.cov : Nat)) := (hb56.cell (p := ⟨hk, 1, none⟩) (World.block_lt_of_cell? _ _ k1)).trans k1
        have u3 : w6.cell? ⟨hk, 3, none⟩ = some (.int .u32 (hh.sum : Nat)) := (hb56.cell (p := ⟨hk, 3, none⟩) (World.block_lt_of_cell? _ _ k3)).trans k3
        have HA6 := Lib.hid (HA3'.out.keep hb56)
        have HB26 := Lib.hid (show Below w2.heap.size w2 w6 from ext_trans HB25.out hb56)
        clear hb6 hb56
        go_wp2_with fail
        refine hK.out _ _ (by exact ⟨u1, u2⟩) (fun hHeld7 => ?_)
        clear hK K
        try simp only [Act.put, List.setIfInBounds_toArray, List.set_cons_zero, List.set_cons_succ]
        refine wpAnyH_ready (rs := [10]) (by kernel_rfl) (by simp) ?_
        refine AllReadyH.cons rfl (fun K hK => ?_) AllReadyH.nil
        go_simp
        refine (HRZ.out w6 (HT2.out.below HB26.out)).mono ?_
        rintro e w7 ⟨rfl, hw7⟩
        rw [hw7]
        clear hw7 w7
        go_wp2_with fail
        refine hK.out _ _ (by exact ⟨u1, u2⟩) (fun hHeld10 => ?_)
        clear hK K
        try simp only [Act.put, List.setIfInBounds_toArray, List.set_cons_zero, List.set_cons_succ]
        refine tky 11 (some 37) hHeld10 ?_
        try simp only [Act.put, List.setIfInBounds_toArray, List.set_cons_zero, List.set_cons_succ]
        refine tky 12 (some 38) hHeld10 ?_
        try simp only [Act.put, List.setIfInBounds_toArray, List.set_cons_zero, List.set_cons_succ]
        refine tky 13 (some 39) hHeld10 ?_
        try simp only [Act.put, List.setIfInBounds_toArray, List.set_cons_zero, List.set_cons_succ]
        refine wpAnyH_done (by kernel_rfl) ?_ _
        go_wp2_with (first | (refine wpList_store_blk rfl 77 _ _ rfl rr 77 _ #[.int .u64 (hh.gen : Nat), .int .u64 (hh.cov : Nat), .int .i64 (ln : Nat), .int .u32 (hh.sum : Nat)] HA6.out rfl rfl rfl hd_size (by simp [Value.oneCell']) ?_; intro wz hAz hgz hsz; have HAz := Lib.hid hAz; have HGz := Lib.hid hgz; clear hAz hgz hsz))
        refine bodyPost_ret (results_cell_tmp Tryz.results111 _ (by rfl) (run_load_blk 77 HAz.out _ Tryz.underlying77 rfl hd_size)) rfl ?_
        unfold HdOut
        rw [HON0.out]
        have hrw : w.heap.size ≤ rr := by have h1 := HBX.out; have h2 := HR1.out; omega
        have hD9 := (DvIn_loc p d1).below HD2.out HB26.out
        have hgz : World.grownBy w6 wz (some rr) := ⟨HGz.out.os, HGz.out.tape, HGz.out.output, HGz.out.size, HGz.out.block⟩
        refine ⟨by rw [← HLN.out]; rfl, (DvIn_loc p d1).same hD9 hgz.size (fun k hk => hgz.block k ((DvIn_loc p d1).lt hD9 k hk) (fun e => by injection e with e; subst e; exact HNR.out hk)), (HT2.out.below HB26.out).grown hgz (fun k e => by injection e with e; subst e; exact .inr hrw)⟩
      · have hlm : (m : Int) < (ln : Int) := by omega
        have HON0 := Lib.hid (show R = (0, Hd.zero, d1) from by rw [HON1.out, if_neg hle])
        clear HON1 hle
        refine wp_region_held_drew (S := (fun w' => w'.cell? ⟨bx, 0, none⟩ = some (.pointer (some ⟨r, 0, none⟩)) ∧ w'.cell? ⟨hk, 2, none⟩ = some (.int .i64 (ln : Nat)))) (by kernel_rfl) (by exact ⟨t1, k2⟩) (fun hHeld => ?_)
        refine tky 0 (some 26) hHeld ?_
        try simp only [Act.put, List.setIfInBounds_toArray, List.set_cons_zero, List.set_cons_succ]
        refine tky 1 (some 27) hHeld ?_
        try simp only [Act.put, List.setIfInBounds_toArray, List.set_cons_zero, List.set_cons_succ]
        refine tky 2 (some 28) hHeld ?_
        try simp only [Act.put, List.setIfInBounds_toArray, List.set_cons_zero, List.set_cons_succ]
        refine tky 3 (some 29) hHeld ?_
        try simp only [Act.put, List.setIfInBounds_toArray, List.set_cons_zero, List.set_cons_succ]
        refine tky 4 (some 30) hHeld ?_
        try simp only [Act.put, List.setIfInBounds_toArray, List.set_cons_zero, List.set_cons_succ]
        refine tky 5 (some 31) hHeld ?_
        try simp only [Act.put, List.setIfInBounds_toArray, List.set_cons_zero, List.set_cons_succ]
        refine tky 6 (some 32) hHeld ?_
        try simp only [Act.put, List.setIfInBounds_toArray, List.set_cons_zero, List.set_cons_succ]
        refine tky 8 (some 34) hHeld ?_
        try simp only [Act.put, List.setIfInBounds_toArray, List.set_cons_zero, List.set_cons_succ]
        refine tky 9 (some 35) hHeld ?_
        try simp only [Act.put, List.setIfInBounds_toArray, List.set_cons_zero, List.set_cons_succ]
        refine wpAnyH_ready (rs := [7]) (by kernel_rfl) (by simp) ?_
        refine AllReadyH.cons rfl (fun K hK => ?_) AllReadyH.nil
        go_simp
        refine (HRB.out w5.drew ((HT2.out.below HB25.out).below (ext_drew (Below.refl _ _)))).mono ?_
        rintro e w6 ⟨rfl, hb6⟩
        have hb56 : Below w5.heap.size w5 w6 := ext_trans (ext_drew (Below.refl _ _)) hb6
        have u1 : w6.cell? ⟨bx, 0, none⟩ = some (.pointer (some ⟨r, 0, none⟩)) := (hb56.cell (p := ⟨bx, 0, none⟩) (World.block_lt_of_cell? _ _ t1)).trans t1
        have u2 : w6.cell? ⟨hk, 2, none⟩ = some (.int .i64 (ln : Nat)) := (hb56.cell (p := ⟨hk, 2, none⟩) (World.block_lt_of_cell? _ _ k2)).trans k2
        have u0 : w6.cell? ⟨hk, 0, none⟩ = some (.int .u64 (hh.gen : Nat)) := (hb56.cell (p := ⟨hk, 0, none⟩) (World.block_lt_of_cell? _ _ k0)).trans k0
        have u4 : w6.cell? ⟨hk, 1, none⟩ = some (.int .u64 (hh.cov : Nat)) := (hb56.cell (p := ⟨hk, 1, none⟩) (World.block_lt_of_cell? _ _ k1)).trans k1
        have u3 : w6.cell? ⟨hk, 3, none⟩ = some (.int .u32 (hh.sum : Nat)) := (hb56.cell (p := ⟨hk, 3, none⟩) (World.block_lt_of_cell? _ _ k3)).trans k3
        have HA6 := Lib.hid (HA3'.out.keep hb56)
        have HB26 := Lib.hid (show Below w2.heap.size w2 w6 from ext_trans HB25.out hb56)
        clear hb6 hb56
        go_wp2_with fail
        refine hK.out _ _ (by exact ⟨u1, u2⟩) (fun hHeld7 => ?_)
        clear hK K
        try simp only [Act.put, List.setIfInBounds_toArray, List.set_cons_zero, List.set_cons_succ]
        refine wpAnyH_ready (rs := [10]) (by kernel_rfl) (by simp) ?_
        refine AllReadyH.cons rfl (fun K hK => ?_) AllReadyH.nil
        go_simp
        refine (HRZ.out w6 (HT2.out.below HB26.out)).mono ?_
        rintro e w7 ⟨rfl, hw7⟩
        rw [hw7]
        clear hw7 w7
        go_wp2_with fail
        refine hK.out _ _ (by exact ⟨u1, u2⟩) (fun hHeld10 => ?_)
        clear hK K
        try simp only [Act.put, List.setIfInBounds_toArray, List.set_cons_zero, List.set_cons_succ]
        refine tky 11 (some 37) hHeld10 ?_
        try simp only [Act.put, List.setIfInBounds_toArray, List.set_cons_zero, List.set_cons_succ]
        refine tky 12 (some 38) hHeld10 ?_
        try simp only [Act.put, List.setIfInBounds_toArray, List.set_cons_zero, List.set_cons_succ]
        refine tky 13 (some 39) hHeld10 ?_
        try simp only [Act.put, List.setIfInBounds_toArray, List.set_cons_zero, List.set_cons_succ]
        refine wpAnyH_done (by kernel_rfl) ?_ _
        go_wp2_with (first | (refine wpList_store_blk rfl 77 _ _ rfl rr 77 _ #[.int .u64 0, .int .u64 0, .int .i64 0, .int .u32 0] HA6.out rfl rfl rfl hd_size (hdV_one Hd.zero) ?_; intro wz hAz hgz hsz; have HAz := Lib.hid hAz; have HGz := Lib.hid hgz; clear hAz hgz hsz))
        refine bodyPost_ret (results_cell_tmp Tryz.results111 _ (by rfl) (run_load_blk 77 HAz.out _ Tryz.underlying77 rfl hd_size)) rfl ?_
        unfold HdOut
        rw [HON0.out]
        have hrw : w.heap.size ≤ rr := by have h1 := HBX.out; have h2 := HR1.out; omega
        have hD9 := (DvIn_loc p d1).below HD2.out HB26.out
        have hgz : World.grownBy w6 wz (some rr) := ⟨HGz.out.os, HGz.out.tape, HGz.out.output, HGz.out.size, HGz.out.block⟩
        refine ⟨rfl, (DvIn_loc p d1).same hD9 hgz.size (fun k hk => hgz.block k ((DvIn_loc p d1).lt hD9 k hk) (fun e => by injection e with e; subst e; exact HNR.out hk)), (HT2.out.below HB26.out).grown hgz (fun k e => by injection e with e; subst e; exact .inr hrw)⟩
    · have hn1 : (er2 != 0) = true := by simp [hz]
      have hn : hdR bs = none := by
        have h1 := HIFF.out
        cases hc : hdR bs with
        | none => rfl
        | some x => rw [hc] at h1; exact absurd (h1.2 rfl) hz
      have HON1 := HON0
      have HON0 := Lib.hid (show R = (0, Hd.zero, d1) from by rw [HON1.out, hn])
      clear HON1 hz hn
      refine wp_region_held_drew (S := (fun _ => True)) (by kernel_rfl) (by trivial) (fun hHeld => ?_)
      refine tky 0 (some 26) hHeld ?_
      try simp only [Act.put, List.setIfInBounds_toArray, List.set_cons_zero, List.set_cons_succ]
      refine tky 1 (some 27) hHeld ?_
      try simp only [Act.put, List.setIfInBounds_toArray, List.set_cons_zero, List.set_cons_succ]
      refine tky 2 (some 28) hHeld ?_
      try simp only [Act.put, List.setIfInBounds_toArray, List.set_cons_zero, List.set_cons_succ]
      refine tkn 3 (some 29) hHeld ?_
      try simp only [Act.put, List.setIfInBounds_toArray, List.set_cons_zero, List.set_cons_succ]
      refine tkn 4 (some 30) hHeld ?_
      try simp only [Act.put, List.setIfInBounds_toArray, List.set_cons_zero, List.set_cons_succ]
      refine tkn 5 (some 31) hHeld ?_
      try simp only [Act.put, List.setIfInBounds_toArray, List.set_cons_zero, List.set_cons_succ]
      refine tkn 6 (some 32) hHeld ?_
      try simp only [Act.put, List.setIfInBounds_toArray, List.set_cons_zero, List.set_cons_succ]
      refine tkn 7 (some 33) hHeld ?_
      try simp only [Act.put, List.setIfInBounds_toArray, List.set_cons_zero, List.set_cons_succ]
      refine tkn 8 (some 34) hHeld ?_
      try simp only [Act.put, List.setIfInBounds_toArray, List.set_cons_zero, List.set_cons_succ]
      refine tkn 9 (some 35) hHeld ?_
      try simp only [Act.put, List.setIfInBounds_toArray, List.set_cons_zero, List.set_cons_succ]
      refine tkn 10 (some 36) hHeld ?_
      try simp only [Act.put, List.setIfInBounds_toArray, List.set_cons_zero, List.set_cons_succ]
      refine tkn 11 (some 37) hHeld ?_
      try simp only [Act.put, List.setIfInBounds_toArray, List.set_cons_zero, List.set_cons_succ]
      refine tkn 12 (some 38) hHeld ?_
      try simp only [Act.put, List.setIfInBounds_toArray, List.set_cons_zero, List.set_cons_succ]
      refine tky 13 (some 39) hHeld ?_
      try simp only [Act.put, List.setIfInBounds_toArray, List.set_cons_zero, List.set_cons_succ]
      refine wpAnyH_done (by kernel_rfl) ?_ _
      go_wp2_with (first | (refine wpList_store_blk rfl 77 _ _ rfl rr 77 _ #[.int .u64 0, .int .u64 0, .int .i64 0, .int .u32 0] HA3'.out rfl rfl rfl hd_size (hdV_one Hd.zero) ?_; intro wz hAz hgz hsz; have HAz := Lib.hid hAz; have HGz := Lib.hid hgz; clear hAz hgz hsz))
      refine bodyPost_ret (results_cell_tmp Tryz.results111 _ (by rfl) (run_load_blk 77 HAz.out _ Tryz.underlying77 rfl hd_size)) rfl ?_
      unfold HdOut
      rw [HON0.out]
      have hrw : w.heap.size ≤ rr := by have h1 := HBX.out; have h2 := HR1.out; omega
      have hD9 := (DvIn_loc p d1).below HD2.out HB25.out
      have hgz : World.grownBy w5 wz (some rr) := ⟨HGz.out.os, HGz.out.tape, HGz.out.output, HGz.out.size, HGz.out.block⟩
      refine ⟨rfl, (DvIn_loc p d1).same hD9 hgz.size (fun k hk => hgz.block k ((DvIn_loc p d1).lt hD9 k hk) (fun e => by injection e with e; subst e; exact HNR.out hk)), (HT2.out.below HB25.out).grown hgz (fun k e => by injection e with e; subst e; exact .inr hrw)⟩
  · have hq : (er == 0) = false := by simp [h0]
    have HON0 := Lib.hid (show R = (er, Hd.zero, d1) from by rw [HONE.out, if_neg h0])
    clear HONE h0
    go_wp2_with (first | (refine wpList_store_blk rfl 77 _ _ rfl rr 77 _ #[.int .u64 0, .int .u64 0, .int .i64 0, .int .u32 0] HA2'.out rfl rfl rfl hd_size (hdV_one Hd.zero) ?_; intro wz hAz hgz hsz; have HAz := Lib.hid hAz; have HGz := Lib.hid hgz; clear hAz hgz hsz))
    refine bodyPost_ret (results_cell_tmp Tryz.results111 _ (by rfl) (run_load_blk 77 HAz.out _ Tryz.underlying77 rfl hd_size)) rfl ?_
    unfold HdOut
    rw [HON0.out]
    have hrw : w.heap.size ≤ rr := by have h1 := HBX.out; have h2 := HR1.out; omega
    refine ⟨rfl, (DvIn_loc p d1).same HD2.out HGz.out.size (fun k hk => HGz.out.block k ((DvIn_loc p d1).lt HD2.out k hk) (fun e => by injection e with e; subst e; exact HNR.out hk)), HT2.out.grown HGz.out (fun k e => by injection e with e; subst e; exact .inr hrw)⟩

end Go.Proofs.YtbnkanehjnepbaaGreatDoor.En
end

/- Layer 11: slots: New. -/
section
set_option linter.unusedVariables false
set_option linter.unusedSimpArgs false
namespace Go.Proofs.YtbnkanehjnepbaaGreatDoor.En
open Go.RowKit

def SnOut (ra rb p : Nat) (sl : Sl) (size : Nat) (w : World) (e : Ending) (w' : World) : Prop := ∃ s, e = .returned (.tuple #[.pointer (some ⟨s, 0, none⟩), .int .i64 0]) ∧ w.heap.size ≤ s ∧ SlAt w' s ra rb p sl size ∧ Below w.heap.size w w'
set_option maxRecDepth 100000 in
set_option maxHeartbeats 4000000 in
theorem SNew_in {w : World} {ra rb p : Nat} {sl : Sl} {size : Nat} (ha : RgAt w ra p sl.a size) (hb : RgAt w rb p sl.b size) (heq : sl.b.count = sl.a.count) (htwo : 2 ≤ sl.a.count) :
    Calls Tryz.prog 110 #[.pointer (some ⟨ra, 0, none⟩), .pointer (some ⟨rb, 0, none⟩)] w (SnOut ra rb p sl size w) := by
  have hby := ha.bytes_le
  have hsz := ha.size
  have h2 : 2 * size ≤ sl.a.bytes size := by unfold Rg.bytes; exact Nat.mul_le_mul_right _ htwo
  have hbb : sl.b.bytes size = sl.a.bytes size := by unfold Rg.bytes; rw [heq]
  have HA := Lib.hid fun (W : World) (hW : Below w.heap.size w W) => RBytes_in (ha.keep hW)
  have HB := Lib.hid fun (W : World) (hW : Below w.heap.size w W) => RBytes_in (hb.keep hW)
  have HAS := Lib.hid fun (W : World) (hW : Below w.heap.size w W) => RSize_in (ha.keep hW)
  have HBS := Lib.hid fun (W : World) (hW : Below w.heap.size w W) => RSize_in (hb.keep hW)
  rw [hbb] at HB
  obtain ⟨B, hB⟩ : ∃ B, sl.a.bytes size = B := ⟨_, rfl⟩
  rw [hB] at HA HB hby h2
  have hq : ((B : Int) == 0) = false := by rw [beq_eq_false_iff_ne]; omega
  have hq2 : (B == 0) = false := by rw [beq_eq_false_iff_ne]; omega
  have hs4 : (size : Int) ≤ 4096 := by omega
  have hn2 : ¬ (B : Int) < 2 * (size : Int) := by omega
  have HRA := Lib.hid ha; have HRB := Lib.hid hb; have HEQ := Lib.hid heq; have HTW := Lib.hid htwo
  clear ha hb heq htwo hby hsz h2 hbb hB
  go_enter Tryz.func110, Tryz.ntmps110
  go_wp2_with fail
  refine (HA.out w (Below.refl _ _)).mono ?_
  rintro e w1 ⟨rfl, hb1⟩
  have HW1 := Lib.hid hb1
  clear hb1
  go_wp2_with fail
  refine (HB.out w1 HW1.out).mono ?_
  rintro e w2 ⟨rfl, hb2⟩
  have HW2 := Lib.hid (show Below w.heap.size w w2 from ext_trans HW1.out hb2)
  clear hb2
  go_wp2_with fail
  refine (HA.out w2 HW2.out).mono ?_
  rintro e w3 ⟨rfl, hb3⟩
  have HW3 := Lib.hid (show Below w.heap.size w w3 from ext_trans HW2.out hb3)
  clear hb3
  go_wp2_with fail
  refine (HB.out w3 HW3.out).mono ?_
  rintro e w4 ⟨rfl, hb4⟩
  have HW4 := Lib.hid (show Below w.heap.size w w4 from ext_trans HW3.out hb4)
  clear hb4
  go_wp2_with fail
  refine (HAS.out w4 HW4.out).mono ?_
  rintro e w5 ⟨rfl, hw5⟩
  rw [hw5]
  clear hw5 w5
  go_wp2_with fail
  refine (HBS.out w4 HW4.out).mono ?_
  rintro e w5 ⟨rfl, hw5⟩
  rw [hw5]
  clear hw5 w5
  go_wp2_with fail
  refine (HA.out w4 HW4.out).mono ?_
  rintro e w5 ⟨rfl, hb5⟩
  have HW5 := Lib.hid (show Below w.heap.size w w5 from ext_trans HW4.out hb5)
  clear hb5
  go_wp2_with fail
  refine (HAS.out w5 HW5.out).mono ?_
  rintro e w6 ⟨rfl, hw6⟩
  rw [hw6]
  clear hw6 w6
  go_wp2_with fail
  go_ret2
  obtain ⟨wf, hwf⟩ : ∃ wf, w5.alloc (.cells #[.pointer (some ⟨ra, 0, none⟩), .pointer (some ⟨rb, 0, none⟩)] 171) = wf := ⟨_, rfl⟩
  rw [hwf]
  have hbf : Below w.heap.size w wf := by rw [← hwf]; exact ext_alloc HW5.out _
  have hof : Arr wf w5.heap.size 171 #[.pointer (some ⟨ra, 0, none⟩), .pointer (some ⟨rb, 0, none⟩)] := by rw [← hwf]; exact Arr.fresh w5 _ _
  exact ⟨w5.heap.size, rfl, HW5.out.size, ⟨hof, HRA.out.keep hbf, HRB.out.keep hbf, HEQ.out, HTW.out⟩, hbf⟩
end Go.Proofs.YtbnkanehjnepbaaGreatDoor.En
end
