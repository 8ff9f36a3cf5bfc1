/- Packed: Rcv9, Rcv10, Rcv11, Rcv12, Rcv13, NilOpen. -/
import Derived.Test.YtbnkanehjnepbaaGreatDoorPk9
import Derived.Deep.CutRange
import Derived.Test.YtbnkanehjnepbaaGreatDoorPk12
import Derived.Test.YtbnkanehjnepbaaGreatDoorPk10
import Derived.Test.YtbnkanehjnepbaaGreatDoorPk11
import Derived.Test.YtbnkanehjnepbaaGreatDoorRows
import Derived.ProofKit
import Derived.Lib.LaidTab
import Derived.OpenShut
import Derived.ShutString
import Derived.ChangeOld
import Derived.Below
import Derived.ChangeSlices
import Derived.Lib.SmallJoins
import Derived.Deep.Slices
import Derived.Deep.Fields
import Derived.SizedLaws
import Derived.MakeChecks
import Derived.Lay
import Derived.Deep.DeepHandedRow
set_option linter.unusedVariables false
set_option linter.unusedSimpArgs false
/- Layer 24: recovery: Open over a device. -/
section
set_option linter.unusedVariables false
set_option linter.unusedSimpArgs false
namespace Go.Proofs.YtbnkanehjnepbaaGreatDoor.Rc
open Go.RowKit
open Go.Proofs.YtbnkanehjnepbaaGreatDoor.Bk (shape_size BookAt BkOk Bkg Parts)
open Go.Proofs.YtbnkanehjnepbaaGreatDoor.En (By DvIn DvIn_loc Dev Rg Sl Hd hdV hdV_one hd_size SvOut SSave_in RgAt SlAt Lg LgIn LgIn_loc LNew_in NwOut)
open Go.Proofs.YtbnkanehjnepbaaGreatDoor.Oc (Bs)
open Go.Proofs.YtbnkanehjnepbaaGreatDoor.Cr (CrcTab)
open Go.Proofs.YtbnkanehjnepbaaGreatDoor.Im (imgB headB Put_in PtOut)
open Go.Proofs.YtbnkanehjnepbaaGreatDoor.Eg (EnArr MapL doesL MkOut Make_in Idle_in)

theorem imgB_len (n codes nx ck : Nat) (L : List Bkg) : (imgB n codes nx ck L).length = 20 + 14 * L.length := by
  unfold imgB
  rw [List.length_append, Im.headB_len, Im.flat_len]
/-- behind a save: the device, the header's block -/
structure CutO (S SD : Nat → Prop) (w6 : World) (xh p : Nat) (cs : Array Value) (D : Dev) (W : World) : Prop where
  dv : DvIn p D SD W
  tc : Tch S w6 W
  sd : ∀ j, SD j → S j ∨ w6.heap.size ≤ j
  nx : ¬ SD xh
  lo : w6.heap.size ≤ xh
  hh : Arr W xh 77 cs
theorem CutO.put {S SD : Nat → Prop} {w6 : World} {xh p : Nat} {cs cs' : Array Value} {D : Dev} {W W' : World} (h : CutO S SD w6 xh p cs D W) (hA : Arr W' xh 77 cs') (hg : W.grownBy W' (some xh)) : CutO S SD w6 xh p cs' D W' :=
  ⟨(DvIn_loc p D).same h.dv hg.size (fun k hk => hg.block k ((DvIn_loc p D).lt h.dv k hk) (fun e => by injection e with e; subst e; exact h.nx hk)), h.tc.grown hg (fun k e => by injection e with e; exact .inr (by have := h.lo; omega)), h.sd, h.nx, h.lo, hA⟩
/-- an engine that stands over a device, just opened -/
structure OpAt (S : Nat → Prop) (w : World) (p k k2 k3 m n codes : Nat) (group : Int) (ep cov nx : Nat) (ck : Int) (L : List Bkg) (D : Dev) (e q s l ra rb b mb : Nat) (B SD LS : Nat → Prop) (qq : Parts) (w' : World) : Prop where
  en : EnArr w' e true (some ⟨q, 0, none⟩) (some ⟨s, 0, none⟩) (some ⟨b, 0, none⟩) (.slice none 0 0) (.map (some mb))
  mp : MapL w' mb (doesL e)
  lg : LgIn q l p ⟨ep, cov, [], 0⟩ ⟨k2, k3⟩ m LS w'
  sl : SlAt w' s ra rb p ⟨⟨0, k⟩, ⟨k, k⟩⟩ m
  bk : BookAt B w' b n codes group nx ck L qq
  dv : DvIn p D SD w'
  tc : Tch S w w'
  sd : ∀ j, SD j → S j ∨ w.heap.size ≤ j
  bd : ∀ j, B j → w.heap.size ≤ j ∧ ¬ SD j
  ld : ∀ j, LS j → w.heap.size ≤ j ∧ ¬ SD j
  nd : (w.heap.size ≤ e ∧ ¬ SD e) ∧ (w.heap.size ≤ mb ∧ ¬ SD mb) ∧ (w.heap.size ≤ s ∧ ¬ SD s) ∧ (w.heap.size ≤ ra ∧ ¬ SD ra) ∧ (w.heap.size ≤ rb ∧ ¬ SD rb)
def OpOut (S : Nat → Prop) (p k k2 k3 m n codes : Nat) (group : Int) (gen cov nx : Nat) (ck : Int) (L : List Bkg) (ep : Nat) (D : Dev) (w : World) (en : Ending) (w' : World) : Prop :=
  ∃ e q s l ra rb b mb B SD LS qq, en = .returned (.tuple #[.pointer (some ⟨e, 0, none⟩), .agg #[.int .u64 gen, .int .u64 cov, .int .i64 0], .int .i64 0]) ∧ OpAt S w p k k2 k3 m n codes group ep cov nx ck L D e q s l ra rb b mb B SD LS qq w'
set_option maxRecDepth 100000 in
set_option maxHeartbeats 8000000 in
theorem Open_ok {S : Nat → Prop} {p k k2 k3 m n codes : Nat} {group : Int} {gen cov nx ck : Nat} {L : List Bkg} {D D2 : Dev} {h : Hd} (w : World)
    (hB : ∀ W, Below w.heap.size w W → Calls Tryz.prog 23 #[.pointer (some ⟨p, 0, none⟩), .agg #[.int .i64 n, .int .i64 codes, .int .i64 group]] W (BdOut S p k k2 k3 m n codes group gen cov nx ck L D W))
    (ht : CrcTab w) (htS : ¬ S 1) (hS : ∀ j, S j → j < w.heap.size) (hk : BkOk n codes group nx ck L) (hcov : cov < 18446744073709551616) (hm : D.dk.size = m) (h32 : 32 ≤ m) (hrow : D.dk.row.length + (20 + 14 * L.length) ≤ 1000000)
    (hsv : Sl.save ⟨⟨0, k⟩, ⟨k, k⟩⟩ D (imgB n codes nx ck L) cov = (0, h, D2)) (hgen : h.gen < 18446744073709551616) :
    Calls Tryz.prog 5 #[.pointer (some ⟨p, 0, none⟩), .agg #[.int .i64 n, .int .i64 codes, .int .i64 group]] w (OpOut S p k k2 k3 m n codes group gen cov nx ck L h.gen D2 w) := by
  have hnn : 1 ≤ n ∧ n ≤ 1024 := by have := Geo.okS_yes hk.kshape; omega
  obtain ⟨xb, hxb⟩ : ∃ xb, w.heap.size = xb := ⟨_, rfl⟩
  obtain ⟨ws, hws⟩ : ∃ ws, w.alloc (.cells #[.int .i64 n, .int .i64 codes, .int .i64 group] 23) = ws := ⟨_, rfl⟩
  obtain ⟨xf, hxf⟩ : ∃ xf, ws.heap.size = xf := ⟨_, rfl⟩
  obtain ⟨w1, hw1⟩ : ∃ w1, ws.alloc (.cells found0 32) = w1 := ⟨_, rfl⟩
  have hb1 : Below w.heap.size w w1 := by rw [← hw1, ← hws]; exact ext_alloc (ext_alloc (Below.refl _ _) _) _
  have ha1 : Arr w1 xf 32 found0 := by rw [← hw1, ← hxf]; exact Arr.fresh ws _ _
  have hs1 : Arr w1 xb 23 #[.int .i64 n, .int .i64 codes, .int .i64 group] := by rw [← hw1, ← hws, ← hxb]; exact (Arr.fresh w _ _).alloc _
  have HXF := Lib.hid (show w.heap.size ≤ xf ∧ xf < w1.heap.size from ⟨by rw [← hxf, ← hws]; simp, ha1.lt⟩)
  have HBLD := Lib.hid (hB w1 hb1)
  have HS := Lib.hid hS
  have HNS := Lib.hid (show ∀ x, w.heap.size ≤ x → ¬ S x from fun x hx hs => by have := hS _ hs; omega)
  have HT := Lib.hid (show ∀ W, Tch S w W → CrcTab W from fun W hW => ht.tch hW htS)
  have HTS := Lib.hid htS; have HK := Lib.hid hk; have HCV := Lib.hid hcov; have HM := Lib.hid hm; have H32 := Lib.hid h32; have HROW := Lib.hid hrow; have HSV := Lib.hid hsv; have HGN := Lib.hid hgen; have HNN := Lib.hid hnn
  have HA1 := Lib.hid ha1; have HS1 := Lib.hid hs1; have HB1 := Lib.hid hb1; have HXB := Lib.hid hxb
  clear hB ht htS hS hk hcov hm h32 hrow hsv hgen hnn hb1 ha1 hs1
  go_enter Tryz.func5, Tryz.ntmps5
  go_wp2_with (refine wpList_load_blk rfl 23 (.tmp 3) rfl xb 23 _ HS1.out rfl _ Tryz.underlying23 rfl shape_size ?_)
  refine HBLD.out.mono ?_
  rintro e w2 ⟨s, l, ra, rb, b, B, q, rfl, hSl, hRl, hBk, hD, hT2, hzs, hzl, hza, hzb, hzB⟩
  obtain ⟨xv, hxv⟩ : ∃ xv, w2.heap.size = xv := ⟨_, rfl⟩
  obtain ⟨w3, hw3⟩ : ∃ w3, w2.alloc (.cells built0 70) = w3 := ⟨_, rfl⟩
  have hb3 : Below w2.heap.size w2 w3 := by rw [← hw3]; exact ext_alloc (Below.refl _ _) _
  have ha3 : Arr w3 xv 70 built0 := by rw [← hw3, ← hxv]; exact Arr.fresh w2 _ _
  have h3 : BdI S w xv p k k2 k3 m s l ra rb built0 D w3 := by
    have h4 := HB1.out.size; have h5 := hT2.size; have h6 := hSl.own.lt; have h7 := hRl.own.lt; have h8 := hSl.a.own.lt; have h9 := hSl.b.own.lt
    exact ⟨ha3, (DvIn_loc p D).below hD hb3, ((Tch.of_below HB1.out).trans hT2).below hb3, hSl.keep hb3, hRl.keep hb3, ⟨by omega, by omega, by omega, by omega, by omega⟩, ⟨by omega, by omega, by omega, by omega⟩⟩
  have H3 := Lib.hid h3; have HA3 := Lib.hid ha3
  have HK3 := Lib.hid (hBk.below hb3)
  have HF3 := Lib.hid ((hT2.arr HA1.out (HNS.out _ HXF.out.1)).keep hb3)
  have HXV := Lib.hid (show xf < xv by have := hT2.size; have := HXF.out; omega)
  have HBO := Lib.hid (show ∀ j, B j → w1.heap.size ≤ j ∧ j < xv from fun j hj => ⟨hzB j hj, by have := hBk.comp.lt j hj; omega⟩)
  have HLO := Lib.hid (show w1.heap.size ≤ s ∧ w1.heap.size ≤ l ∧ w1.heap.size ≤ ra ∧ w1.heap.size ≤ rb from ⟨hzs, hzl, hza, hzb⟩)
  clear hSl hRl hBk hD hT2 hzs hzl hza hzb hzB hb3 ha3 h3 HBLD HA1 HS1
  go_wp2_with (refine wpList_store_blk rfl 70 (.tmp 7) _ rfl xv 70 _ (buC s l gen cov (some ⟨b, 0, none⟩)) HA3.out rfl rfl rfl built_size (by simp [Value.oneCell']) ?_; intro w5 hA5 hg5 hs5; have H5 := Lib.hid (H3.out.put HS.out hA5 (Tch.one hg5)); have HK5 := Lib.hid (BookAt.apart HK3.out (Tch.one hg5) (fun j hj e => by have := HBO.out j hj; omega)); have HF5 := Lib.hid (HF3.out.grown hg5 (by have := HXV.out; omega)); have c5 := H5.out.bu.cell 5; clear hA5 hg5 hs5)
  refine (Put_in HK5.out HK.out).mono ?_
  rintro e w6 ⟨A, c, rfl, hA, hc, hb6⟩
  obtain ⟨g, rfl, hgz, hblk⟩ := hA (fun h0 => by have := imgB_len n codes nx ck L; rw [h0] at this; simp at this; omega)
  obtain ⟨body, hbody⟩ : ∃ body, imgB n codes nx ck L = body := ⟨_, rfl⟩
  rw [hbody] at hblk hc ⊢
  have HLN := Lib.hid (show body.length = 20 + 14 * L.length by rw [← hbody]; exact imgB_len n codes nx ck L)
  have HSV1 := Lib.hid (show Sl.save ⟨⟨0, k⟩, ⟨k, k⟩⟩ D body cov = (0, h, D2) by rw [← hbody]; exact HSV.out)
  have H6 := Lib.hid (H5.out.below hb6); have HK6 := Lib.hid (HK5.out.below hb6); have HF6 := Lib.hid (HF5.out.keep hb6)
  have HX6 := Lib.hid (show xv < w6.heap.size ∧ w.heap.size ≤ w6.heap.size from ⟨H6.out.bu.lt, H6.out.tc.size⟩)
  have HNS6 := Lib.hid (show ∀ x, w6.heap.size ≤ x → ¬ S x from fun x hx => HNS.out x (by have := HX6.out; omega))
  have HSAVE := Lib.hid (show ∀ W, Below w6.heap.size w6 W → Calls Tryz.prog 26 #[.pointer (some ⟨s, 0, none⟩), .slice (some ⟨g, 0, none⟩) body.length c, .int .u64 (cov : Nat)] W (SvOut S p (0, h, D2) W) from fun W hW => by
    have hx := H6.out.below hW
    have := SSave_in (sl := ⟨⟨0, k⟩, ⟨k, k⟩⟩) (d := D) (by rw [HM.out]; exact hx.sl) hx.dv (HNS.out _ hx.lo.2.1) (HNS.out _ hx.lo.2.2.2.1) (HNS.out _ hx.lo.2.2.2.2) (HT.out _ hx.tc) HTS.out (by rw [HM.out]; exact H32.out) body (some ⟨g, 0, none⟩) c cov ((hblk.bsx).keep hW) (fun g' off e => by injection e with e; injection e with e1 e2; subst e1; exact ⟨by have := hblk.lt; have := hW.size; omega, HNS.out _ (by have := H5.out.tc.size; omega)⟩) hc HCV.out (by rw [HLN.out]; exact HROW.out)
    rw [HSV1.out] at this
    exact this)
  have HLAST := Lib.hid (show ∀ W, Below w6.heap.size w6 W → Calls Tryz.prog 27 #[.pointer (some ⟨xv, 0, none⟩)] W (fun e w' => e = .returned (.int .u64 (cov : Nat)) ∧ Below W.heap.size W w') from fun W hW => by
    have := last_in (w := W) (x := xv) (gen := gen) (cov := cov) (s := some ⟨s, 0, none⟩) (r := some ⟨l, 0, none⟩) (b := some ⟨b, 0, none⟩) (fr := 0) (H6.out.bu.keep hW) (by have := HCV.out; omega)
    exact this)
  clear hA hc hgz hblk hb6 hbody c5 HSV HSV1 H5 HK5 HF5 H3 HK3 HF3 HA3
  go_upto_region 5 with fail
  obtain ⟨wd, hwd⟩ : ∃ wd, w6.drew = wd := ⟨_, rfl⟩
  have HB_wd := Lib.hid (show Below w6.heap.size w6 wd by rw [← hwd]; exact ext_drew (Below.refl _ _))
  have HV_wd := Lib.hid (show wd.cell? ⟨xv, 0, none⟩ = some (.pointer (some ⟨s, 0, none⟩)) from (H6.out.bu.keep HB_wd.out).cell 0)
  have HXV6 := Lib.hid (show xv < w6.heap.size ∧ ¬ S xv from ⟨HX6.out.1, HNS.out _ H6.out.lo.1⟩)
  have HXVo := HXV
  clear HXV
  have HXV := HXV6
  clear HXV6
  go_cut [8, 11] from 32 to 40 (fun s8 s11 wc => s8 = .int .i64 0 ∧ ∃ xh SD, s11 = .pointer (some ⟨xh, 0, none⟩) ∧ CutO S SD w6 xh p (hdV h) D2 wc)
  case first =>
    refine wp_region_held_drew (S := fun w' => w'.cell? ⟨xv, 0, none⟩ = some (.pointer (some ⟨s, 0, none⟩))) (by kernel_rfl) (by rw [hwd]; exact HV_wd.out) (fun hHeld => ?_)
    rw [hwd] at hHeld ⊢
    refine tky 0 (some 33) hHeld ?_
    refine tky 1 (some 34) hHeld ?_
    refine tky 2 (some 35) hHeld ?_
    refine tky 3 (some 36) hHeld ?_
    try simp only [Act.put, List.setIfInBounds_toArray, List.set_cons_zero, List.set_cons_succ]
    refine wpAnyH_ready (rs := [4, 9]) (by kernel_rfl) (by simp) ?_
    refine AllReadyH.cons rfl (fun K hK => ?_) (AllReadyH.cons rfl (fun K hK => ?_) (AllReadyH.nil))
    · go_simp
      refine (HLAST.out _ HB_wd.out).mono ?_
      rintro e v1 ⟨rfl, hb⟩
      have HB_v1 := Lib.hid (ext_trans HB_wd.out hb)
      have HV_v1 := Lib.hid ((hb.cell (p := ⟨xv, 0, none⟩) (World.block_lt_of_cell? _ _ HV_wd.out)).trans HV_wd.out)
      clear hb
      go_wp2_with fail
      refine hK.out _ _ (by exact HV_v1.out) (fun hH1 => ?_)
      clear hK K
      try simp only [Act.put, List.setIfInBounds_toArray, List.set_cons_zero, List.set_cons_succ]
      refine wpAnyH_ready (rs := [5, 9]) (by kernel_rfl) (by simp) ?_
      refine AllReadyH.cons rfl (fun K hK => ?_) (AllReadyH.cons rfl (fun K hK => ?_) (AllReadyH.nil))
      · go_simp
        refine (HSAVE.out _ HB_v1.out).mono ?_
        rintro e v2 ⟨rfl, hd, ht⟩
        obtain ⟨SD, hSD⟩ : ∃ SD, Gr S v1 v2 = SD := ⟨_, rfl⟩
        have HV_v2 := Lib.hid ((World.cell?_of_block (a := ⟨xv, 0, none⟩) (ht.block xv (World.block_lt_of_cell? _ _ HV_v1.out) HXV.out.2)).trans HV_v1.out)
        have HE_v2 := Lib.hid (show DvIn p D2 SD v2 ∧ Tch S w6 v2 ∧ (∀ j, SD j → S j ∨ w6.heap.size ≤ j) ∧ (∀ j, SD j → j < v2.heap.size) from ⟨by rw [← hSD]; exact hd, (Tch.of_below HB_v1.out).trans ht, fun j hj => by rw [← hSD] at hj; rcases hj with hj | hj; exact .inl hj; exact .inr (by have := HB_v1.out.size; omega), (DvIn_loc p D2).lt (by rw [← hSD]; exact hd)⟩)
        clear hd ht hSD
        go_wp2_with fail
        refine hK.out _ _ (by exact HV_v2.out) (fun hH2 => ?_)
        clear hK K
        try simp only [Act.put, List.setIfInBounds_toArray, List.set_cons_zero, List.set_cons_succ]
        refine tky 6 (some 32) hH2 ?_
        refine tky 7 (some 39) hH2 ?_
        refine tky 8 (some 40) hH2 ?_
        try simp only [Act.put, List.setIfInBounds_toArray, List.set_cons_zero, List.set_cons_succ]
        refine wpAnyH_ready (rs := [9]) (by kernel_rfl) (by simp) ?_
        refine AllReadyH.cons rfl (fun K hK => ?_) (AllReadyH.nil)
        · obtain ⟨v3, hv3⟩ : ∃ x, v2.alloc (.cells #[.int .u64 0, .int .u64 0, .int .i64 0, .int .u32 0] 77) = x := ⟨_, rfl⟩
          obtain ⟨xh, hxh⟩ : ∃ xh, v2.heap.size = xh := ⟨_, rfl⟩
          have HH_v3 := Lib.hid (show Arr v3 xh 77 #[.int .u64 0, .int .u64 0, .int .i64 0, .int .u32 0] by rw [← hv3, ← hxh]; exact Arr.fresh v2 _ _)
          have hb : Below v2.heap.size v2 v3 := by rw [← hv3]; exact ext_alloc (Below.refl _ _) _
          have HV_v3 := Lib.hid ((hb.cell (p := ⟨xv, 0, none⟩) (World.block_lt_of_cell? _ _ HV_v2.out)).trans HV_v2.out)
          have HXH := Lib.hid (show w6.heap.size ≤ xh by rw [← hxh]; exact HE_v2.out.2.1.size)
          have HD_v3 := Lib.hid (show CutO S SD w6 xh p #[.int .u64 0, .int .u64 0, .int .i64 0, .int .u32 0] D2 v3 from ⟨(DvIn_loc p D2).below HE_v2.out.1 hb, HE_v2.out.2.1.below hb, HE_v2.out.2.2.1, fun hj => by have := HE_v2.out.2.2.2 _ hj; omega, HXH.out, HH_v3.out⟩)
          go_simp
          go_wp2_with fail
          try rw [hv3]
          try rw [hxh]
          clear hb hv3 hxh
          refine hK.out _ _ (by exact HV_v3.out) (fun hH3 => ?_)
          clear hK K
          try simp only [Act.put, List.setIfInBounds_toArray, List.set_cons_zero, List.set_cons_succ]
          refine wpAnyH_ready (rs := [10]) (by kernel_rfl) (by simp) ?_
          refine AllReadyH.cons rfl (fun K hK => ?_) AllReadyH.nil
          refine wp_store_blk 77 (.tmp 11) (.tmp 39) rfl xh 77 _ (hdV h) HH_v3.out rfl rfl rfl hd_size (hdV_one h) ?_
          intro wz hAz hgz hsz
          have HZ := Lib.hid (CutO.put HD_v3.out hAz hgz)
          have HVz := Lib.hid ((World.cell?_of_block (a := ⟨xv, 0, none⟩) (hgz.block xv (World.block_lt_of_cell? _ _ HV_v3.out) (fun e => by injection e with e; have := HXV.out; have := HD_v3.out.lo; omega))).trans HV_v3.out)
          clear hAz hgz hsz
          refine hK.out _ _ (by exact HVz.out) (fun hHz => ?_)
          clear hK K
          try simp only [Act.put, List.setIfInBounds_toArray, List.set_cons_zero, List.set_cons_succ]
          refine tky 11 (some 8) hHz ?_
          try simp only [Act.put, List.setIfInBounds_toArray, List.set_cons_zero, List.set_cons_succ]
          refine wpAnyH_done (by kernel_rfl) ?_ _
          go_wp2_with fail
          go_meet
          exact ⟨rfl, xh, SD, rfl, HZ.out⟩
      · obtain ⟨v4, hv4⟩ : ∃ x, v1.alloc (.cells #[.int .u64 0, .int .u64 0, .int .i64 0, .int .u32 0] 77) = x := ⟨_, rfl⟩
        obtain ⟨xh, hxh⟩ : ∃ xh, v1.heap.size = xh := ⟨_, rfl⟩
        have HH_v4 := Lib.hid (show Arr v4 xh 77 #[.int .u64 0, .int .u64 0, .int .i64 0, .int .u32 0] by rw [← hv4, ← hxh]; exact Arr.fresh v1 _ _)
        have hb : Below v1.heap.size v1 v4 := by rw [← hv4]; exact ext_alloc (Below.refl _ _) _
        have HV_v4 := Lib.hid ((hb.cell (p := ⟨xv, 0, none⟩) (World.block_lt_of_cell? _ _ HV_v1.out)).trans HV_v1.out)
        have HXH := Lib.hid (show w6.heap.size ≤ xh by rw [← hxh]; exact HB_v1.out.size)
        have HB_v4 := Lib.hid (ext_trans HB_v1.out hb)
        go_simp
        go_wp2_with fail
        try rw [hv4]
        try rw [hxh]
        clear hb hv4 hxh
        refine hK.out _ _ (by exact HV_v4.out) (fun hH4 => ?_)
        clear hK K
        try simp only [Act.put, List.setIfInBounds_toArray, List.set_cons_zero, List.set_cons_succ]
        refine wpAnyH_ready (rs := [5]) (by kernel_rfl) (by simp) ?_
        refine AllReadyH.cons rfl (fun K hK => ?_) (AllReadyH.nil)
        · go_simp
          refine (HSAVE.out _ HB_v4.out).mono ?_
          rintro e v5 ⟨rfl, hd, ht⟩
          obtain ⟨SD, hSD⟩ : ∃ SD, Gr S v4 v5 = SD := ⟨_, rfl⟩
          have HV_v5 := Lib.hid ((World.cell?_of_block (a := ⟨xv, 0, none⟩) (ht.block xv (World.block_lt_of_cell? _ _ HV_v4.out) HXV.out.2)).trans HV_v4.out)
          have HD_v5 := Lib.hid (show CutO S SD w6 xh p #[.int .u64 0, .int .u64 0, .int .i64 0, .int .u32 0] D2 v5 from ⟨by rw [← hSD]; exact hd, (Tch.of_below HB_v4.out).trans ht, fun j hj => by rw [← hSD] at hj; rcases hj with hj | hj; exact .inl hj; exact .inr (by have := HB_v4.out.size; omega), by rw [← hSD]; rintro (hj | hj); exact HNS6.out _ HXH.out hj; have := HH_v4.out.lt; omega, HXH.out, ht.arr HH_v4.out (HNS6.out _ HXH.out)⟩)
          have HH_v5 := Lib.hid HD_v5.out.hh
          clear hd ht hSD
          go_wp2_with fail
          refine hK.out _ _ (by exact HV_v5.out) (fun hH5 => ?_)
          clear hK K
          try simp only [Act.put, List.setIfInBounds_toArray, List.set_cons_zero, List.set_cons_succ]
          refine tky 6 (some 32) hH5 ?_
          refine tky 7 (some 39) hH5 ?_
          refine tky 8 (some 40) hH5 ?_
          try simp only [Act.put, List.setIfInBounds_toArray, List.set_cons_zero, List.set_cons_succ]
          refine wpAnyH_ready (rs := [10]) (by kernel_rfl) (by simp) ?_
          refine AllReadyH.cons rfl (fun K hK => ?_) AllReadyH.nil
          refine wp_store_blk 77 (.tmp 11) (.tmp 39) rfl xh 77 _ (hdV h) HH_v5.out rfl rfl rfl hd_size (hdV_one h) ?_
          intro wz hAz hgz hsz
          have HZ := Lib.hid (CutO.put HD_v5.out hAz hgz)
          have HVz := Lib.hid ((World.cell?_of_block (a := ⟨xv, 0, none⟩) (hgz.block xv (World.block_lt_of_cell? _ _ HV_v5.out) (fun e => by injection e with e; have := HXV.out; have := HD_v5.out.lo; omega))).trans HV_v5.out)
          clear hAz hgz hsz
          refine hK.out _ _ (by exact HVz.out) (fun hHz => ?_)
          clear hK K
          try simp only [Act.put, List.setIfInBounds_toArray, List.set_cons_zero, List.set_cons_succ]
          refine tky 11 (some 8) hHz ?_
          try simp only [Act.put, List.setIfInBounds_toArray, List.set_cons_zero, List.set_cons_succ]
          refine wpAnyH_done (by kernel_rfl) ?_ _
          go_wp2_with fail
          go_meet
          exact ⟨rfl, xh, SD, rfl, HZ.out⟩
    · obtain ⟨v6, hv6⟩ : ∃ x, wd.alloc (.cells #[.int .u64 0, .int .u64 0, .int .i64 0, .int .u32 0] 77) = x := ⟨_, rfl⟩
      obtain ⟨xh, hxh⟩ : ∃ xh, wd.heap.size = xh := ⟨_, rfl⟩
      have HH_v6 := Lib.hid (show Arr v6 xh 77 #[.int .u64 0, .int .u64 0, .int .i64 0, .int .u32 0] by rw [← hv6, ← hxh]; exact Arr.fresh wd _ _)
      have hb : Below wd.heap.size wd v6 := by rw [← hv6]; exact ext_alloc (Below.refl _ _) _
      have HV_v6 := Lib.hid ((hb.cell (p := ⟨xv, 0, none⟩) (World.block_lt_of_cell? _ _ HV_wd.out)).trans HV_wd.out)
      have HXH := Lib.hid (show w6.heap.size ≤ xh by rw [← hxh]; exact HB_wd.out.size)
      have HB_v6 := Lib.hid (ext_trans HB_wd.out hb)
      go_simp
      go_wp2_with fail
      try rw [hv6]
      try rw [hxh]
      clear hb hv6 hxh
      refine hK.out _ _ (by exact HV_v6.out) (fun hH6 => ?_)
      clear hK K
      try simp only [Act.put, List.setIfInBounds_toArray, List.set_cons_zero, List.set_cons_succ]
      refine wpAnyH_ready (rs := [4]) (by kernel_rfl) (by simp) ?_
      refine AllReadyH.cons rfl (fun K hK => ?_) (AllReadyH.nil)
      · go_simp
        refine (HLAST.out _ HB_v6.out).mono ?_
        rintro e v7 ⟨rfl, hb⟩
        have HB_v7 := Lib.hid (ext_trans HB_v6.out hb)
        have HV_v7 := Lib.hid ((hb.cell (p := ⟨xv, 0, none⟩) (World.block_lt_of_cell? _ _ HV_v6.out)).trans HV_v6.out)
        have HH_v7 := Lib.hid (HH_v6.out.keep hb)
        clear hb
        go_wp2_with fail
        refine hK.out _ _ (by exact HV_v7.out) (fun hH7 => ?_)
        clear hK K
        try simp only [Act.put, List.setIfInBounds_toArray, List.set_cons_zero, List.set_cons_succ]
        refine wpAnyH_ready (rs := [5]) (by kernel_rfl) (by simp) ?_
        refine AllReadyH.cons rfl (fun K hK => ?_) (AllReadyH.nil)
        · go_simp
          refine (HSAVE.out _ HB_v7.out).mono ?_
          rintro e v8 ⟨rfl, hd, ht⟩
          obtain ⟨SD, hSD⟩ : ∃ SD, Gr S v7 v8 = SD := ⟨_, rfl⟩
          have HV_v8 := Lib.hid ((World.cell?_of_block (a := ⟨xv, 0, none⟩) (ht.block xv (World.block_lt_of_cell? _ _ HV_v7.out) HXV.out.2)).trans HV_v7.out)
          have HD_v8 := Lib.hid (show CutO S SD w6 xh p #[.int .u64 0, .int .u64 0, .int .i64 0, .int .u32 0] D2 v8 from ⟨by rw [← hSD]; exact hd, (Tch.of_below HB_v7.out).trans ht, fun j hj => by rw [← hSD] at hj; rcases hj with hj | hj; exact .inl hj; exact .inr (by have := HB_v7.out.size; omega), by rw [← hSD]; rintro (hj | hj); exact HNS6.out _ HXH.out hj; have := HH_v7.out.lt; omega, HXH.out, ht.arr HH_v7.out (HNS6.out _ HXH.out)⟩)
          have HH_v8 := Lib.hid HD_v8.out.hh
          clear hd ht hSD
          go_wp2_with fail
          refine hK.out _ _ (by exact HV_v8.out) (fun hH8 => ?_)
          clear hK K
          try simp only [Act.put, List.setIfInBounds_toArray, List.set_cons_zero, List.set_cons_succ]
          refine tky 6 (some 32) hH8 ?_
          refine tky 7 (some 39) hH8 ?_
          refine tky 8 (some 40) hH8 ?_
          try simp only [Act.put, List.setIfInBounds_toArray, List.set_cons_zero, List.set_cons_succ]
          refine wpAnyH_ready (rs := [10]) (by kernel_rfl) (by simp) ?_
          refine AllReadyH.cons rfl (fun K hK => ?_) AllReadyH.nil
          refine wp_store_blk 77 (.tmp 11) (.tmp 39) rfl xh 77 _ (hdV h) HH_v8.out rfl rfl rfl hd_size (hdV_one h) ?_
          intro wz hAz hgz hsz
          have HZ := Lib.hid (CutO.put HD_v8.out hAz hgz)
          have HVz := Lib.hid ((World.cell?_of_block (a := ⟨xv, 0, none⟩) (hgz.block xv (World.block_lt_of_cell? _ _ HV_v8.out) (fun e => by injection e with e; have := HXV.out; have := HD_v8.out.lo; omega))).trans HV_v8.out)
          clear hAz hgz hsz
          refine hK.out _ _ (by exact HVz.out) (fun hHz => ?_)
          clear hK K
          try simp only [Act.put, List.setIfInBounds_toArray, List.set_cons_zero, List.set_cons_succ]
          refine tky 11 (some 8) hHz ?_
          try simp only [Act.put, List.setIfInBounds_toArray, List.set_cons_zero, List.set_cons_succ]
          refine wpAnyH_done (by kernel_rfl) ?_ _
          go_wp2_with fail
          go_meet
          exact ⟨rfl, xh, SD, rfl, HZ.out⟩
  case rest =>
    obtain ⟨rfl, xh, SD, rfl, hC⟩ := hcut
    have HC := Lib.hid hC
    have hv := hC.tc.arr H6.out.bu (HNS.out _ H6.out.lo.1)
    have HV := Lib.hid hv
    have HSl := Lib.hid (H6.out.sl.tch hC.tc (HNS.out _ H6.out.lo.2.1) (HNS.out _ H6.out.lo.2.2.2.1) (HNS.out _ H6.out.lo.2.2.2.2))
    have HRl := Lib.hid (H6.out.rg.tch hC.tc (HNS.out _ H6.out.lo.2.2.1))
    have HKc := Lib.hid (BookAt.apart HK6.out hC.tc (fun j hj => HNS.out _ (by have := (HBO.out j hj).1; have := HB1.out.size; omega)))
    have HFc := Lib.hid (hC.tc.arr HF6.out (HNS.out _ HXF.out.1))
    have HCELL := Lib.hid (show ∀ W, Below wc.heap.size wc W → W.cell? ⟨xv, 1, none⟩ = some (.pointer (some ⟨l, 0, none⟩)) ∧ W.cell? ⟨xh, 0, none⟩ = some (.int .u64 (h.gen : Nat)) from fun W hW => ⟨(hv.keep hW).cell 1, (hC.hh.keep hW).cell 0⟩)
    have HTc := Lib.hid (show Tch S w wc from (H6.out.tc).trans hC.tc)
    have HLAST2 := Lib.hid (show ∀ W, Below wc.heap.size wc W → Calls Tryz.prog 27 #[.pointer (some ⟨xv, 0, none⟩)] W (fun e w' => e = .returned (.int .u64 (cov : Nat)) ∧ Below W.heap.size W w') from fun W hW => by
      have := last_in (w := W) (x := xv) (gen := gen) (cov := cov) (s := some ⟨s, 0, none⟩) (r := some ⟨l, 0, none⟩) (b := some ⟨b, 0, none⟩) (fr := 0) (hv.keep hW) (by have := HCV.out; omega)
      exact this)
    have HNEW := Lib.hid (show ∀ W, Below wc.heap.size wc W → Calls Tryz.prog 28 #[.pointer (some ⟨l, 0, none⟩), .int .u64 (h.gen : Nat), .int .u64 (cov : Nat)] W (NwOut l p ⟨h.gen, cov, [], 0⟩ ⟨k2, k3⟩ m W) from fun W hW => LNew_in (HRl.out.keep hW) h.gen cov HGN.out HCV.out)
    have HLT := Lib.hid (show s < w6.heap.size ∧ l < w6.heap.size ∧ ra < w6.heap.size ∧ rb < w6.heap.size ∧ xv < w6.heap.size from ⟨H6.out.sl.own.lt, H6.out.rg.own.lt, H6.out.sl.a.own.lt, H6.out.sl.b.own.lt, H6.out.bu.lt⟩)
    clear hC hv HSAVE HLAST H6 HK6 HF6 HB_wd HV_wd hwd wd
    go_upto_region 8 with fail
    obtain ⟨we, hwe⟩ : ∃ we, wc.drew = we := ⟨_, rfl⟩
    have HB_we := Lib.hid (show Below wc.heap.size wc we by rw [← hwe]; exact ext_drew (Below.refl _ _))
    refine wp_region_held_drew (S := fun w' => w'.cell? ⟨xv, 1, none⟩ = some (.pointer (some ⟨l, 0, none⟩)) ∧ w'.cell? ⟨xh, 0, none⟩ = some (.int .u64 (h.gen : Nat))) (by kernel_rfl) (by rw [hwe]; exact HCELL.out _ HB_we.out) (fun hHeld => ?_)
    rw [hwe] at hHeld ⊢
    refine tky 0 (some 47) hHeld ?_
    refine tky 1 (some 48) hHeld ?_
    refine tky 2 (some 49) hHeld ?_
    refine tky 3 (some 50) hHeld ?_
    refine tky 4 (some 51) hHeld ?_
    try simp only [Act.put, List.setIfInBounds_toArray, List.set_cons_zero, List.set_cons_succ]
    refine wpAnyH_ready (rs := [5]) (by kernel_rfl) (by simp) ?_
    refine AllReadyH.cons rfl (fun K hK => ?_) AllReadyH.nil
    go_simp
    refine (HLAST2.out _ HB_we.out).mono ?_
    rintro e w7 ⟨rfl, hb⟩
    have HB7 := Lib.hid (ext_trans HB_we.out hb)
    clear hb
    go_wp2_with fail
    refine hK.out _ _ (by exact HCELL.out _ HB7.out) (fun hH7 => ?_)
    clear hK K
    try simp only [Act.put, List.setIfInBounds_toArray, List.set_cons_zero, List.set_cons_succ]
    refine wpAnyH_ready (rs := [6]) (by kernel_rfl) (by simp) ?_
    refine AllReadyH.cons rfl (fun K hK => ?_) AllReadyH.nil
    go_simp
    refine (HNEW.out _ HB7.out).mono ?_
    rintro e w8 ⟨lq, rfl, hlq, hLg, hb⟩
    have HB8 := Lib.hid (ext_trans HB7.out hb)
    have HLg := Lib.hid hLg
    have HLQ := Lib.hid (show wc.heap.size ≤ lq by have := HB7.out.size; omega)
    clear hb hlq hLg
    go_wp2_with fail
    refine hK.out _ _ (by exact HCELL.out _ HB8.out) (fun hH8 => ?_)
    clear hK K
    try simp only [Act.put, List.setIfInBounds_toArray, List.set_cons_zero, List.set_cons_succ]
    refine tky 7 (some 46) hH8 ?_
    refine tky 8 (some 54) hH8 ?_
    refine tky 9 (some 55) hH8 ?_
    try simp only [Act.put, List.setIfInBounds_toArray, List.set_cons_zero, List.set_cons_succ]
    refine tky 10 (some 12) hH8 ?_
    refine tky 11 (some 13) hH8 ?_
    try simp only [Act.put, List.setIfInBounds_toArray, List.set_cons_zero, List.set_cons_succ]
    refine wpAnyH_done (by kernel_rfl) ?_ _
    have HV8 := Lib.hid (HV.out.keep HB8.out)
    have y0 := HV8.out.cell 0
    have y5 := HV8.out.cell 5
    clear HNEW HLAST2 HCELL hwe HB7 HB_we
    go_wp2_with fail
    obtain ⟨lv, hlv⟩ := HLg.out
    refine (Make_in hlv (HSl.out.keep HB8.out) (HKc.out.below HB8.out).comp HNN.out).mono ?_
    rintro e w9 ⟨en, mb, rfl, hEn, hMp, hze, hzm, hb9⟩
    have HB9 := Lib.hid (ext_trans HB8.out hb9)
    have HEn := Lib.hid hEn; have HMp := Lib.hid hMp; have HZE := Lib.hid (show wc.heap.size ≤ en ∧ wc.heap.size ≤ mb by have := HB8.out.size; omega)
    have HLg9 := Lib.hid ((LgIn_loc _ _ _ _ _ _).below HLg.out hb9)
    have HF9 := Lib.hid (HFc.out.keep HB9.out)
    have HR9 := Lib.hid (show ∀ W, Below w9.heap.size w9 W → W.rangeAt xv 2 [.int .u64 (gen : Nat), .int .u64 (cov : Nat), .int .i64 0] from fun W hW j u hj => by
      have := HV.out.keep (ext_trans HB9.out hW)
      rcases j with _ | _ | _ | j
      · exact (this.cell 2).trans hj
      · exact (this.cell 3).trans hj
      · exact (this.cell 4).trans hj
      · simp at hj)
    clear hEn hMp hze hzm hb9 hlv y0 y5 HLg HV8 HV
    go_upto_region 10 with fail
    obtain ⟨we, hwe⟩ : ∃ we, w9.drew = we := ⟨_, rfl⟩
    have HB_we := Lib.hid (show Below w9.heap.size w9 we by rw [← hwe]; exact ext_drew (Below.refl _ _))
    refine wp_region_held_drew (S := fun w' => w'.rangeAt xv 2 [.int .u64 (gen : Nat), .int .u64 (cov : Nat), .int .i64 0]) (by kernel_rfl) (by rw [hwe]; exact HR9.out _ HB_we.out) (fun hHeld => ?_)
    rw [hwe] at hHeld ⊢
    refine tky 0 (some 66) hHeld ?_
    refine tky 1 (some 67) hHeld ?_
    try simp only [Act.put, List.setIfInBounds_toArray, List.set_cons_zero, List.set_cons_succ]
    refine tk_load 2 (some 68) hHeld 32 (.tmp 67) xv 2 [.int .u64 (gen : Nat), .int .u64 (cov : Nat), .int .i64 0] _ (fun w' h => h) Tryz.underlying32 rfl found_size ?_
    try simp only [Act.put, List.setIfInBounds_toArray, List.set_cons_zero, List.set_cons_succ]
    refine tky 3 (some 69) hHeld ?_
    refine tky 4 (some 4) hHeld ?_
    try simp only [Act.put, List.setIfInBounds_toArray, List.set_cons_zero, List.set_cons_succ]
    refine wpAnyH_ready (rs := [5]) (by kernel_rfl) (by simp) ?_
    refine AllReadyH.cons rfl (fun K hK => ?_) AllReadyH.nil
    refine wp_store_blk 32 (.tmp 5) (.tmp 68) rfl xf 32 _ #[.int .u64 (gen : Nat), .int .u64 (cov : Nat), .int .i64 0] (HF9.out.keep HB_we.out) rfl rfl rfl found_size (by simp [Value.oneCell']) ?_
    intro wz hAz hgz hsz
    have HAz := Lib.hid hAz; have HGz := Lib.hid hgz
    have HRz := Lib.hid (show wz.rangeAt xv 2 [.int .u64 (gen : Nat), .int .u64 (cov : Nat), .int .i64 0] from fun j u hj => (World.cell?_of_block (a := ⟨xv, 2 + j, none⟩) (hgz.block xv (by have := HXV.out.1; have := HTc.out.size; have := HC.out.tc.size; have := HB9.out.size; have := HB_we.out.size; omega) (fun e => by injection e with e; have := HXVo.out; omega))).trans (HR9.out _ HB_we.out j u hj))
    clear hAz hgz hsz
    refine hK.out _ _ (by exact HRz.out) (fun hHz => ?_)
    clear hK K
    try simp only [Act.put, List.setIfInBounds_toArray, List.set_cons_zero, List.set_cons_succ]
    refine tky 6 (some 6) hHz ?_
    try simp only [Act.put, List.setIfInBounds_toArray, List.set_cons_zero, List.set_cons_succ]
    refine wpAnyH_done (by kernel_rfl) ?_ _
    go_wp2_with fail
    refine bodyPost_ret (results_tmp_cell_tmp Tryz.results5 _ (by rfl) (run_load_blk 32 HAz.out _ Tryz.underlying32 rfl found_size)) rfl ?_
    have hBw := ext_trans HB9.out HB_we.out
    have hsz := HC.out.tc.size
    have hsz1 := HB1.out.size
    have hx1 := HXF.out
    have hx2 := HXV.out
    have hx3 := HXVo.out
    have hx4 := HLO.out
    have hx5 := HZE.out
    have hx6 := HTc.out.size
    have hlt := (DvIn_loc p D2).lt HC.out.dv
    have hlt6 := HLT.out
    have hMl := HMp.out.lt
    have hT : Tch (· = xf) we wz := Tch.one HGz.out
    have hSD : ∀ j, SD j → S j ∨ w.heap.size ≤ j := fun j hj => (HC.out.sd j hj).imp id (fun hj => by have := HX6.out; omega)
    have hnSD : ∀ j, w1.heap.size ≤ j → j < w6.heap.size → ¬ SD j := fun j h1 h2 hj => (HC.out.sd j hj).elim (fun hs => HNS.out j (by omega) hs) (fun hj => by omega)
    have hnew : ∀ j, wc.heap.size ≤ j → ¬ SD j := fun j h1 hj => by have := hlt j hj; omega
    have hxs : ∀ j, xf < j → ¬ j = xf := fun j h1 h2 => by omega
    have hbs := HKc.out.comp.lt
    refine ⟨en, lq, s, l, ra, rb, b, mb, B, SD, _, q, rfl, Arr.grownTo (HEn.out.keep HB_we.out) HGz.out (fun e => by injection e with e; omega), HMp.out.same ?_, (LgIn_loc _ _ _ _ _ _).tch ((LgIn_loc _ _ _ _ _ _).below HLg9.out HB_we.out) hT (fun j hj e => ?_), (HSl.out.keep hBw).tch hT (hxs _ (by omega)) (hxs _ (by omega)) (hxs _ (by omega)), BookAt.apart (HKc.out.below hBw) hT (fun j hj => hxs _ (by have := HBO.out j hj; omega)), (DvIn_loc p D2).tch ((DvIn_loc p D2).below HC.out.dv hBw) hT (fun j hj e => ?_), ?_, hSD, fun j hj => ?_, fun j hj => ?_, ?_⟩
    · exact (HGz.out.block mb (by have := HMp.out.lt; have := HB_we.out.size; omega) (fun e => by injection e with e; omega)).trans (HB_we.out.block mb HMp.out.lt)
    · have := HLQ.out
      rcases hj with rfl | rfl <;> omega
    · rw [e] at hj
      exact (HC.out.sd xf hj).elim (fun hs => HNS.out xf hx1.1 hs) (fun hw => by omega)
    · exact (HTc.out.below hBw).grown HGz.out (fun k e => by injection e with e; exact .inr (by omega))
    · have := HBO.out j hj
      exact ⟨by omega, hnSD j this.1 (by omega)⟩
    · have := HLQ.out
      rcases hj with rfl | rfl
      · exact ⟨by omega, hnew _ this⟩
      · exact ⟨by omega, hnSD _ (by omega) (by omega)⟩
    · exact ⟨⟨by omega, hnew _ (by omega)⟩, ⟨by omega, hnew _ (by omega)⟩, ⟨by omega, hnSD _ (by omega) (by omega)⟩, ⟨by omega, hnSD _ (by omega) (by omega)⟩, ⟨by omega, hnSD _ (by omega) (by omega)⟩⟩

end Go.Proofs.YtbnkanehjnepbaaGreatDoor.Rc
end

/- Layer 24: recovery: Open of a device whose slots can't be read. -/
section
set_option linter.unusedVariables false
set_option linter.unusedSimpArgs false
namespace Go.Proofs.YtbnkanehjnepbaaGreatDoor.Rc
open Go.RowKit
open Go.Proofs.YtbnkanehjnepbaaGreatDoor.Bk (shape_size)
open Go.Proofs.YtbnkanehjnepbaaGreatDoor.Eg (EnArr Idle_in)
open Go.Proofs.YtbnkanehjnepbaaGreatDoor.En (DvIn DvIn_loc Dev)

def OeOut (S : Nat → Prop) (p : Nat) (er : Int) (D : Dev) (w : World) (en : Ending) (w' : World) : Prop :=
  ∃ e, en = .returned (.tuple #[.pointer (some ⟨e, 0, none⟩), .agg found0, .int .i64 er]) ∧ EnArr w' e false none none none (.slice none 0 0) (.map none) ∧ w.heap.size ≤ e ∧ DvIn p D S w' ∧ Tch S w w'
set_option maxRecDepth 100000 in
set_option maxHeartbeats 2000000 in
theorem Open_err {S : Nat → Prop} {p : Nat} {D : Dev} (n codes group : Int) (er : Int) (her : er ≠ 0) (w : World) (hS : ∀ j, S j → j < w.heap.size)
    (hB : ∀ W, Below w.heap.size w W → Calls Tryz.prog 23 #[.pointer (some ⟨p, 0, none⟩), .agg #[.int .i64 n, .int .i64 codes, .int .i64 group]] W (BeOut S p er D W)) :
    Calls Tryz.prog 5 #[.pointer (some ⟨p, 0, none⟩), .agg #[.int .i64 n, .int .i64 codes, .int .i64 group]] w (OeOut S p er D w) := by
  obtain ⟨xb, hxb⟩ : ∃ xb, w.heap.size = xb := ⟨_, rfl⟩
  obtain ⟨ws, hws⟩ : ∃ ws, w.alloc (.cells #[.int .i64 n, .int .i64 codes, .int .i64 group] 23) = ws := ⟨_, rfl⟩
  obtain ⟨xf, hxf⟩ : ∃ xf, ws.heap.size = xf := ⟨_, rfl⟩
  obtain ⟨w1, hw1⟩ : ∃ w1, ws.alloc (.cells found0 32) = w1 := ⟨_, rfl⟩
  have hb1 : Below w.heap.size w w1 := by rw [← hw1, ← hws]; exact ext_alloc (ext_alloc (Below.refl _ _) _) _
  have ha1 : Arr w1 xf 32 found0 := by rw [← hw1, ← hxf]; exact Arr.fresh ws _ _
  have hs1 : Arr w1 xb 23 #[.int .i64 n, .int .i64 codes, .int .i64 group] := by rw [← hw1, ← hws, ← hxb]; exact (Arr.fresh w _ _).alloc _
  have HXF := Lib.hid (show w.heap.size ≤ xf ∧ xf < w1.heap.size from ⟨by rw [← hxf, ← hws]; simp, ha1.lt⟩)
  have HBLD := Lib.hid (hB w1 hb1)
  have HNS := Lib.hid (show ∀ x, w.heap.size ≤ x → ¬ S x from fun x hx hs => by have := hS _ hs; omega)
  have HA1 := Lib.hid ha1; have HS1 := Lib.hid hs1; have HB1 := Lib.hid hb1
  have hne : (er == 0) = false := by rw [beq_eq_false_iff_ne]; exact her
  clear hB hS hb1 ha1 hs1
  go_enter Tryz.func5, Tryz.ntmps5
  go_wp2_with (refine wpList_load_blk rfl 23 (.tmp 3) rfl xb 23 _ HS1.out rfl _ Tryz.underlying23 rfl shape_size ?_)
  refine HBLD.out.mono ?_
  rintro e w2 ⟨s, l, rfl, hD, hT2⟩
  obtain ⟨xv, hxv⟩ : ∃ xv, w2.heap.size = xv := ⟨_, rfl⟩
  obtain ⟨w3, hw3⟩ : ∃ w3, w2.alloc (.cells built0 70) = w3 := ⟨_, rfl⟩
  have hb3 : Below w2.heap.size w2 w3 := by rw [← hw3]; exact ext_alloc (Below.refl _ _) _
  have HA3 := Lib.hid (show Arr w3 xv 70 built0 by rw [← hw3, ← hxv]; exact Arr.fresh w2 _ _)
  have HD3 := Lib.hid (show DvIn p D S w3 ∧ Tch S w w3 from ⟨(DvIn_loc p D).below hD hb3, ((Tch.of_below HB1.out).trans hT2).below hb3⟩)
  have HF3 := Lib.hid ((hT2.arr HA1.out (HNS.out _ HXF.out.1)).keep hb3)
  have HXV := Lib.hid (show xf < xv ∧ w.heap.size ≤ xv by have := hT2.size; have := HXF.out; omega)
  clear hD hT2 hb3 HBLD HA1 HS1
  go_wp2_with (refine wpList_store_blk rfl 70 (.tmp 7) _ rfl xv 70 _ (buC s l 0 0 none) HA3.out rfl rfl rfl built_size (by simp [Value.oneCell']) ?_; intro w5 hA5 hg5 hs5; have HD5 := Lib.hid (show DvIn p D S w5 ∧ Tch S w w5 from ⟨(DvIn_loc p D).tch HD3.out.1 (Tch.one hg5) (fun k hk e => by rw [e] at hk; exact HNS.out _ HXV.out.2 hk), HD3.out.2.grown hg5 (fun k e => by injection e with e; exact .inr (by have := HXV.out; omega))⟩); have HF5 := Lib.hid (HF3.out.grown hg5 (by have := HXV.out; omega)); clear hA5 hg5 hs5)
  refine (Idle_in _).mono ?_
  rintro e w6 ⟨rfl, hE, hb6⟩
  have HF6 := Lib.hid (HF5.out.keep hb6); have HE6 := Lib.hid hE
  have HD6 := Lib.hid (show DvIn p D S w6 ∧ Tch S w w6 from ⟨(DvIn_loc p D).below HD5.out.1 hb6, HD5.out.2.below hb6⟩)
  have HEZ := Lib.hid (show xf < w5.heap.size ∧ w.heap.size ≤ w5.heap.size from ⟨HF5.out.lt, HD5.out.2.size⟩)
  clear hb6 hE
  go_wp2_with (refine wpList_store_blk rfl 32 (.tmp 5) _ rfl xf 32 _ found0 HF6.out rfl rfl rfl found_size (by simp [Value.oneCell']) ?_; intro w7 hA7 hg7 hs7; have HA7 := Lib.hid hA7; have HG7 := Lib.hid hg7; clear hA7 hg7 hs7)
  refine bodyPost_ret (results_tmp_cell_tmp Tryz.results5 _ (by rfl) (run_load_blk 32 HA7.out _ Tryz.underlying32 rfl found_size)) rfl ?_
  have h1 := HXF.out
  have h2 := HEZ.out
  exact ⟨w5.heap.size, rfl, Arr.grownTo HE6.out HG7.out (fun e => by injection e with e; omega), h2.2, (DvIn_loc p D).tch HD6.out.1 (Tch.one HG7.out) (fun k hk e => by rw [e] at hk; exact HNS.out _ h1.1 hk), HD6.out.2.grown HG7.out (fun k e => by injection e with e; exact .inr (by omega))⟩

end Go.Proofs.YtbnkanehjnepbaaGreatDoor.Rc
end

/- Layer 24: recovery: Open of the example's device. -/
section
set_option linter.unusedVariables false
set_option linter.unusedSimpArgs false
namespace Go.Proofs.YtbnkanehjnepbaaGreatDoor.Aw
open Go.RowKit
open Go.Proofs.YtbnkanehjnepbaaGreatDoor.En (By DvIn DvIn_loc Dev Hd scan)
open Go.Proofs.YtbnkanehjnepbaaGreatDoor.Cr (CrcTab)
open Go.Proofs.YtbnkanehjnepbaaGreatDoor.Rc (Says OpOut OeOut build_ok build_err Open_ok Open_err)
open Go.Proofs.YtbnkanehjnepbaaGreatDoor.Bk (BkOk)

theorem okS_A : Geo.okS ((12 : Nat) : Int) ((8 : Nat) : Int) ((4 : Nat) : Int) = true := by decide
theorem okD_A : Geo.okD ((20 : Nat) : Int) ((64 : Nat) : Int) = true := by decide
theorem slot_A : Geo.slot ((12 : Nat) : Int) ((8 : Nat) : Int) ((64 : Nat) : Int) = ((4 : Nat) : Int) := by decide
theorem need_A : Geo.need ((12 : Nat) : Int) ((8 : Nat) : Int) ((64 : Nat) : Int) ≤ ((20 : Nat) : Int) := by decide
theorem img_A : Im.imgB 12 8 1 0 [] = bodyA := by kernel_rfl
theorem book_A : BkOk 12 8 4 1 0 [] := ⟨by decide, by decide, by decide, by decide, List.Pairwise.nil, (fun _ h => by cases h), (fun _ h => by cases h), List.Pairwise.nil, (fun _ h => by cases h)⟩
theorem says_none : Says 12 8 4 (-1) [] 1 0 [] := .inl ⟨by decide, rfl, rfl, rfl⟩
theorem says_A : Says 12 8 4 0 bodyA 1 0 [] := .inr ⟨by decide, by decide, by decide, by decide, by decide, by decide, by kernel_rfl, by kernel_rfl⟩
theorem open_at {S : Nat → Prop} {p : Nat} {A A1 A2 A3 : Dev} {hd h : Hd} {body bs : By} {at_ : Int} (w : World) (hD : DvIn p A S w) (ht : CrcTab w) (htS : ¬ S 1) (hn : A.dk.dur.length = 20) (hm : A.dk.size = 64) (hL : sA.load A = ⟨0, hd, body, at_, A1⟩) (hm1 : A1.dk.size = 64) (hcov : hd.cov < 18446744073709551616) (hG : Says 12 8 4 at_ body 1 0 []) (hR : gA.read A1 (0 : Nat) (gA.bytes A1.dk.size : Nat) = (0, bs, A2)) (hbs : bs ≠ [] ∧ scan bs hd.gen hd.cov = []) (hm2 : A2.dk.size = 64) (hrow : A2.dk.row = []) (hsv : sA.save A2 bodyA hd.cov = (0, h, A3)) (hgen : h.gen < 18446744073709551616) :
    Calls Tryz.prog 5 #[.pointer (some ⟨p, 0, none⟩), .agg #[.int .i64 12, .int .i64 8, .int .i64 4]] w (OpOut S p 4 8 12 64 12 8 4 hd.gen hd.cov 1 0 [] h.gen A3 w) :=
  Open_ok (S := S) (p := p) (k := 4) (k2 := 8) (k3 := 12) (m := 64) (n := 12) (codes := 8) (group := 4) (gen := hd.gen) (cov := hd.cov) (nx := 1) (ck := 0) (L := []) (D := A2) (D2 := A3) (h := h) w
    (fun W hW => build_ok (S := S) (p := p) (k := 4) (k2 := 8) (k3 := 12) (m := 64) (d := A) (d1 := A1) (d2 := A2) 12 8 4 20 W ((DvIn_loc p A).below hD hW) (ht.keep hW) htS hn hm okS_A okD_A need_A slot_A rfl rfl (by decide) (by decide) hd body at_ 1 0 [] hL hm1 hcov hG bs hR hbs)
    ht htS ((DvIn_loc p A).lt hD) book_A hcov hm2 (by decide) (by rw [hrow]; decide) (by rw [img_A]; exact hsv) hgen
theorem open_no {S : Nat → Prop} {p : Nat} {A A1 : Dev} {hd : Hd} {body : By} {at_ er : Int} (w : World) (hD : DvIn p A S w) (ht : CrcTab w) (htS : ¬ S 1) (hn : A.dk.dur.length = 20) (hm : A.dk.size = 64) (her : er ≠ 0) (hL : sA.load A = ⟨er, hd, body, at_, A1⟩) :
    Calls Tryz.prog 5 #[.pointer (some ⟨p, 0, none⟩), .agg #[.int .i64 12, .int .i64 8, .int .i64 4]] w (OeOut S p er A1 w) :=
  Open_err (S := S) (p := p) (D := A1) 12 8 4 er her w ((DvIn_loc p A).lt hD)
    (fun W hW => build_err (S := S) (p := p) (k := 4) (k2 := 8) (k3 := 12) (m := 64) (d := A) (d1 := A1) 12 8 4 20 W ((DvIn_loc p A).below hD hW) (ht.keep hW) htS hn hm okS_A okD_A need_A slot_A rfl rfl (by decide) (by decide) er her hd body at_ hL)

end Go.Proofs.YtbnkanehjnepbaaGreatDoor.Aw
end

/- Layer 24: the chapter's example. -/
section
set_option linter.unusedVariables false
set_option linter.unusedSimpArgs false
namespace Go.Proofs.YtbnkanehjnepbaaGreatDoor.Aw
open Go.RowKit
open Go.Proofs.YtbnkanehjnepbaaGreatDoor.Bk (shape_size)
open Go.Proofs.YtbnkanehjnepbaaGreatDoor.Rc (Says OpOut OpAt OeOut NoDev found0 found_size Generation_in)
open Go.Proofs.YtbnkanehjnepbaaGreatDoor.En (LgIn_loc)
open Go.Proofs.YtbnkanehjnepbaaGreatDoor.En (By DvIn DvIn_loc Dev Hd scan DNew dk0 PNew_in PArm_in)
open Go.Proofs.YtbnkanehjnepbaaGreatDoor.Cr (CrcTab)
open Go.Proofs.YtbnkanehjnepbaaGreatDoor.Eg (EnArr Ready_in)

theorem L768_ne : L768 ≠ [] := fun h => by have := congrArg List.length h; rw [show L768.length = 768 from List.length_replicate] at this; cases this
/-- a whole block is loaded, where the guard says so -/
theorem wpList_load_want {P : Program} {ops : Array Oper} {rest : List Oper} {o : Oper} {a : Act} {w : World} {Q : Exit → Act → World → Prop} (hw : Region.wanted o (yielded ops a.tmps) = true) (ty : TypeId) (x : Operand) (ho : o.op = .load ty x)
    (g : Nat) (t : TypeId) (cs : Array Value) (hg : Arr w g t cs) (hx : a.eval x = .pointer (some ⟨g, 0, none⟩)) (d : TypeDesc)
    (hu : P.underlying ty = some d) (hd : (match d with | .struct _ | .array _ _ => true | _ => false) = true) (hi : (P.info? ty).map (·.size) = some cs.size)
    (h : wpList P ops Q rest (a.put o.dst (.agg cs)) w) : wpList P ops Q (o :: rest) a w :=
  BigFrame.wpList_want hw fun K hK => wp_load_row ty x ho g hx t cs (0, 0) d hg hu hd hi (hK _ _ h)
set_option maxRecDepth 100000 in
set_option maxHeartbeats 4000000 in
theorem awake_in (w : World) (ht : CrcTab w) : Calls Tryz.prog 8 #[] w fun e w' => e = .returned (.bool true) ∧ Below w.heap.size w w' := by
  have HT := Lib.hid ht
  clear ht
  go_enter Tryz.func8, Tryz.ntmps8
  go_wp2_with fail
  refine (En.New_in 20 64 ⟨by decide, by decide⟩ (.inl rfl) w).mono ?_
  rintro e w1 ⟨p0, S0, rfl, hK, hS0, hb1⟩
  have HK := Lib.hid hK; have HS0 := Lib.hid hS0; have HB1 := Lib.hid hb1
  clear hK hS0 hb1
  go_wp2_with fail
  refine (PNew_in HK.out).mono ?_
  rintro e w2 ⟨p, rfl, hD, hp, hb2⟩
  obtain ⟨S, hS⟩ : ∃ S, Gr S0 w1 w2 = S := ⟨_, rfl⟩
  rw [hS] at hD
  have HD2 := Lib.hid (show DvIn p A0 S w2 from hD)
  have HSN := Lib.hid (show ∀ j, S j → w.heap.size ≤ j from fun j hj => by rw [← hS] at hj; rcases hj with hj | hj; exact HS0.out j hj; have := HB1.out.size; omega)
  have HB2 := Lib.hid (ext_trans HB1.out hb2)
  clear hD hp hb2 hS HK HS0 HB1
  obtain ⟨xs, hxs⟩ : ∃ xs, w2.heap.size = xs := ⟨_, rfl⟩
  obtain ⟨w3, hw3⟩ : ∃ w3, w2.alloc (.cells #[.int .i64 0, .int .i64 0, .int .i64 0] 23) = w3 := ⟨_, rfl⟩
  have HA3 := Lib.hid (show Arr w3 xs 23 #[.int .i64 0, .int .i64 0, .int .i64 0] by rw [← hw3, ← hxs]; exact Arr.fresh w2 _ _)
  have HB3 := Lib.hid (show Below w2.heap.size w2 w3 by rw [← hw3]; exact ext_alloc (Below.refl _ _) _)
  have HXS := Lib.hid hxs
  go_wp2_with (first | (refine wpList_load_blk rfl 23 _ rfl xs 23 _ HS4.out rfl _ Tryz.underlying23 rfl shape_size ?_) | (refine wpList_store_blk rfl 23 _ _ rfl xs 23 _ #[.int .i64 12, .int .i64 8, .int .i64 4] HA3.out rfl rfl rfl shape_size (by simp [Value.oneCell']) ?_; intro w4 hA4 hg4 hs4; have HB4 := Lib.hid (show Below w2.heap.size w2 w4 from ext_only HB3.out hg4 (Nat.le_of_eq HXS.out)); have HS4 := Lib.hid hA4; clear hA4 hg4 hs4))
  have HTB := Lib.hid (show ∀ T : Nat → Prop, (∀ j, T j → w.heap.size ≤ j) → ¬ T 1 from fun T hT hj => by have := hT _ hj; have := HT.out.lt; omega)
  have HO := open_at w4 ((DvIn_loc p A0).below HD2.out HB4.out) (HT.out.keep (ext_trans HB2.out HB4.out)) (HTB.out S HSN.out) rfl rfl load0 rfl (by decide) says_none read1 ⟨L768_ne, scan0⟩ rfl rfl save2 (by decide)
  rw [show Hd.zero.gen = 0 from rfl, show Hd.zero.cov = 0 from rfl, show h1.gen = 1 from rfl] at HO
  refine HO.mono ?_
  rintro e w5 ⟨en, q, s, l, ra, rb, b, mb, B, SD, LS, qq, rfl, hO⟩
  clear HO
  have HO := Lib.hid hO
  have HB5 := Lib.hid (show Below w.heap.size w w5 from Tch.fresh hO.tc (ext_trans HB2.out HB4.out) HSN.out)
  have HSD := Lib.hid (show ∀ j, SD j → w.heap.size ≤ j from fun j hj => (hO.sd j hj).elim (HSN.out j) (fun hw => by have := HB2.out.size; have := HB4.out.size; omega))
  have HS5 := Lib.hid (hO.tc.arr HS4.out (fun hj => by have := (DvIn_loc p A0).lt HD2.out _ hj; have := HXS.out; omega))
  have HXSS := Lib.hid (show ¬ S xs from fun hj => by have := (DvIn_loc p A0).lt HD2.out _ hj; have := HXS.out; omega)
  have HXS4 := Lib.hid HS4.out.lt
  clear hO HD2 HSN HA3 HB3
  obtain ⟨xf, hxf⟩ : ∃ xf, w5.heap.size = xf := ⟨_, rfl⟩
  obtain ⟨w6, hw6⟩ : ∃ w6, w5.alloc (.cells found0 32) = w6 := ⟨_, rfl⟩
  have HA6 := Lib.hid (show Arr w6 xf 32 found0 by rw [← hw6, ← hxf]; exact Arr.fresh w5 _ _)
  have HB6 := Lib.hid (show Below w5.heap.size w5 w6 by rw [← hw6]; exact ext_alloc (Below.refl _ _) _)
  have HXF := Lib.hid hxf
  go_wp2_with (first | (refine wpList_store_blk rfl 32 _ _ rfl xf 32 _ found0 HA6.out rfl rfl rfl found_size (by simp [Value.oneCell']) ?_; intro w7 hA7 hg7 hs7; have HB7 := Lib.hid (show Below w5.heap.size w5 w7 from ext_only HB6.out hg7 (Nat.le_of_eq HXF.out)); have HF7 := Lib.hid hA7; clear hA7 hg7 hs7) | (refine wpList_load_want rfl 32 _ rfl xf 32 _ HF7.out rfl _ Tryz.underlying32 rfl found_size ?_))
  have HE7 := Lib.hid (show EnArr w7 en true (some ⟨q, 0, none⟩) (some ⟨s, 0, none⟩) (some ⟨b, 0, none⟩) (.slice none 0 0) (.map (some mb)) from Arr.keep HO.out.en HB7.out)
  have HXF7 := Lib.hid (show xf < w7.heap.size from HF7.out.lt)
  have HLG := Lib.hid ((LgIn_loc _ _ _ _ _ _).below HO.out.lg HB7.out)
  refine (Ready_in HE7.out).mono ?_
  rintro e wq ⟨rfl, hwq⟩
  rw [hwq]
  clear hwq wq
  go_wp2_with fail
  obtain ⟨lv, hlv⟩ := HLG.out
  refine (Generation_in HE7.out hlv).mono ?_
  rintro e wq ⟨rfl, hwq⟩
  rw [hwq]
  clear hwq wq hlv
  have HS7 := Lib.hid (HS5.out.keep HB7.out)
  go_wp2_with (refine wpList_load_blk rfl 23 _ rfl xs 23 _ HS7.out rfl _ Tryz.underlying23 rfl shape_size ?_)
  have HX2 := open_at w7 ((DvIn_loc p A3).below HO.out.dv HB7.out) (HT.out.keep (ext_trans HB5.out HB7.out)) (HTB.out SD HSD.out) rfl rfl load3 rfl (by decide) says_A read4 ⟨L768_ne, scan1⟩ rfl rfl save5 (by decide)
  rw [show h1.gen = 1 from rfl, show h1.cov = 0 from rfl, show h2.gen = 2 from rfl] at HX2
  refine HX2.mono ?_
  rintro e w8 ⟨en2, q2, s2, l2, ra2, rb2, b2, mb2, B2, SD2, LS2, qq2, rfl, hO2⟩
  clear HX2
  have HO2 := Lib.hid hO2
  have hlt5 := (DvIn_loc p A3).lt HO.out.dv
  have HB8 := Lib.hid (show Below w.heap.size w w8 from Tch.fresh hO2.tc (ext_trans HB5.out HB7.out) HSD.out)
  have HSD2 := Lib.hid (show ∀ j, SD2 j → w.heap.size ≤ j from fun j hj => (hO2.sd j hj).elim (HSD.out j) (fun hw => by have := HB5.out.size; have := HB7.out.size; omega))
  have HS8 := Lib.hid (hO2.tc.arr HS7.out (fun hj => by have := hO2.tc.size; rcases HO.out.sd _ hj with h9 | h9; exact HXSS.out h9; have := HXS4.out; omega))
  have HF8 := Lib.hid (hO2.tc.arr HF7.out (fun hj => by have := hlt5 _ hj; have := HXF.out; omega))
  clear hO2 hlt5 HE7 HLG HS7 HF7
  go_wp2_with (first | (refine wpList_store_blk rfl 32 _ _ rfl xf 32 _ #[.int .u64 1, .int .u64 0, .int .i64 0] HF8.out rfl rfl rfl found_size (by simp [Value.oneCell']) ?_; intro w9 hA9 hg9 hs9; have HT9 := Lib.hid (Rc.Tch.one hg9); have HF9 := Lib.hid hA9; clear hA9 hg9 hs9))
  have HXFX := Lib.hid (show w.heap.size ≤ xf ∧ xs ≠ xf from ⟨by have := HB5.out.size; have := HXF.out; omega, by have := HS5.out.lt; have := HXF.out; omega⟩)
  have HB9 := Lib.hid (show Below w.heap.size w w9 from Tch.fresh HT9.out HB8.out (fun j hj => by have := HXFX.out; omega))
  have HD9 := Lib.hid (show DvIn p A6 SD2 w9 from (DvIn_loc p A6).tch HO2.out.dv HT9.out (fun j hj e => by
    have h9 := (DvIn_loc p A3).lt HO.out.dv
    rcases HO2.out.sd _ hj with h8 | h8
    · have := h9 _ h8; have := HXF.out; omega
    · have := HB7.out.size; have := HF8.out.lt; have := HXF.out; have := HXF7.out; omega))
  have HS9 := Lib.hid (HT9.out.arr HS8.out HXFX.out.2)
  clear HT9 HF8 HS8
  refine (PArm_in HD9.out 0 (by decide)).mono ?_
  rw [arm6]
  rintro e w10 ⟨rfl, hD10, ht10⟩
  have HD10 := Lib.hid hD10
  have HB10 := Lib.hid (show Below w.heap.size w w10 from Tch.fresh ht10 HB9.out HSD2.out)
  have HNX := Lib.hid (show ¬ SD2 xf ∧ ¬ SD2 xs from ⟨fun hj => by
    rcases HO2.out.sd _ hj with h8 | h8
    · have := (DvIn_loc p A3).lt HO.out.dv _ h8; have := HXF.out; omega
    · have := HXF7.out; omega, fun hj => by
    rcases HO2.out.sd _ hj with h8 | h8
    · rcases HO.out.sd _ h8 with h9 | h9; exact HXSS.out h9; have := HXS4.out; omega
    · have := HXF7.out; have := HS5.out.lt; have := HXF.out; omega⟩)
  have HS10 := Lib.hid (ht10.arr HS9.out HNX.out.2)
  have HF10 := Lib.hid (ht10.arr HF9.out HNX.out.1)
  clear hD10 ht10 HD9 HS9 HF9
  go_wp2_with (refine wpList_load_blk rfl 23 _ rfl xs 23 _ HS10.out rfl _ Tryz.underlying23 rfl shape_size ?_)
  refine (open_no w10 HD10.out (HT.out.keep HB10.out) (HTB.out SD2 HSD2.out) rfl rfl (by decide) load7).mono ?_
  rintro e w11 ⟨en3, rfl, hE, hz3, hD, ht11⟩
  have HE11 := Lib.hid hE
  have HF11 := Lib.hid (ht11.arr HF10.out HNX.out.1)
  have HB11 := Lib.hid (show Below w.heap.size w w11 from Tch.fresh ht11 HB10.out HSD2.out)
  clear hE hz3 hD ht11
  obtain ⟨xg, hxg⟩ : ∃ xg, w11.heap.size = xg := ⟨_, rfl⟩
  obtain ⟨w12, hw12⟩ : ∃ w12, w11.alloc (.cells found0 32) = w12 := ⟨_, rfl⟩
  have HA12 := Lib.hid (show Arr w12 xg 32 found0 by rw [← hw12, ← hxg]; exact Arr.fresh w11 _ _)
  have HB12 := Lib.hid (show Below w11.heap.size w11 w12 by rw [← hw12]; exact ext_alloc (Below.refl _ _) _)
  have HXG := Lib.hid hxg
  go_wp2_with (first | (refine wpList_store_blk rfl 32 _ _ rfl xg 32 _ found0 HA12.out rfl rfl rfl found_size (by simp [Value.oneCell']) ?_; intro w13 hA13 hg13 hs13; have HB13 := Lib.hid (show Below w11.heap.size w11 w13 from ext_only HB12.out hg13 (Nat.le_of_eq HXG.out)); have HG13 := Lib.hid hA13; have HF13 := Lib.hid (HF11.out.keep HB13.out); have HE13 := Lib.hid (show EnArr w13 en3 false none none none (.slice none 0 0) (.map none) from Arr.keep HE11.out HB13.out); clear hA13 hg13 hs13) | (refine wpList_load_want rfl 32 (.tmp 7) rfl xf 32 _ HF13.out rfl _ Tryz.underlying32 rfl found_size ?_))
  refine (Ready_in HE13.out).mono ?_
  rintro e wq ⟨rfl, hwq⟩
  rw [hwq]
  clear hwq wq
  go_wp2_with (refine wpList_load_want rfl 32 (.tmp 10) rfl xg 32 _ HG13.out rfl _ Tryz.underlying32 rfl found_size ?_)
  go_ret
  exact ⟨rfl, ext_trans HB11.out HB13.out⟩

end Go.Proofs.YtbnkanehjnepbaaGreatDoor.Aw
end

/- Law RecoveryNil: without a device, and with one that nobody made. -/
section
set_option linter.unusedVariables false
set_option linter.unusedSimpArgs false
namespace Go.Proofs.YtbnkanehjnepbaaGreatDoor.Aw
open Go.RowKit
open Go.Proofs.YtbnkanehjnepbaaGreatDoor.Bk (shape_size)
open Go.Proofs.YtbnkanehjnepbaaGreatDoor.Rc (NoDev OpNone Open_none Look_none found0 found_size)
open Go.Proofs.YtbnkanehjnepbaaGreatDoor.Cr (CrcTab)
open Go.Proofs.YtbnkanehjnepbaaGreatDoor.Eg (EnArr Ready_in)

set_option maxRecDepth 100000 in
set_option maxHeartbeats 4000000 in
theorem nil_in (a b c : Int) (w : World) (ht : CrcTab w) : Calls Tryz.prog 3 #[.agg #[.int .i64 a, .int .i64 b, .int .i64 c]] w fun e w' => e = .returned (.bool true) ∧ Below w.heap.size w w' := by
  have HT := Lib.hid ht
  clear ht
  obtain ⟨xb, hxb⟩ : ∃ xb, w.heap.size = xb := ⟨_, rfl⟩
  obtain ⟨w1, hw1⟩ : ∃ w1, w.alloc (.cells #[.int .i64 a, .int .i64 b, .int .i64 c] 23) = w1 := ⟨_, rfl⟩
  have HS1 := Lib.hid (show Arr w1 xb 23 #[.int .i64 a, .int .i64 b, .int .i64 c] by rw [← hw1, ← hxb]; exact Arr.fresh w _ _)
  have HB1 := Lib.hid (show Below w.heap.size w w1 by rw [← hw1]; exact ext_alloc (Below.refl _ _) _)
  obtain ⟨pd, hpd⟩ : ∃ pd, w1.heap.size = pd := ⟨_, rfl⟩
  go_enter Tryz.func3, Tryz.ntmps3
  go_wp2_with fail
  obtain ⟨w3, hw3⟩ : ∃ w3, (w1.alloc (.cells #[.pointer none, .bool false, .int .i64 0, .int .i64 0] 27)).alloc (.cells #[.pointer none, .pointer (some ⟨pd, 0, none⟩)] 24) = w3 := ⟨_, rfl⟩
  have hD3 : Arr w3 pd 27 #[.pointer none, .bool false, .int .i64 0, .int .i64 0] := by rw [← hw3, ← hpd]; exact (Arr.fresh w1 _ _).alloc _
  have hG3 : Arr w3 (pd + 1) 24 #[.pointer none, .pointer (some ⟨pd, 0, none⟩)] := by rw [← hw3, ← hpd]; exact Arr.new (by simp)
  have HB3 := Lib.hid (show Below w.heap.size w w3 by rw [← hw3]; exact ext_alloc (ext_alloc HB1.out _) _)
  have HS3 := Lib.hid (show Arr w3 xb 23 #[.int .i64 a, .int .i64 b, .int .i64 c] by rw [← hw3]; exact (HS1.out.alloc _).alloc _)
  rw [hw3]
  have HPT := Lib.hid (show ∀ W, Below w3.heap.size w3 W → ∀ j : Nat, j < 2 → ∃ pt, W.cell? ⟨pd + 1, j, none⟩ = some (.pointer pt) ∧ NoDev W pt from fun W hW j hj => by
    rcases j with _ | _ | j
    · exact ⟨none, (hG3.keep hW).cell 0, .inl rfl⟩
    · exact ⟨some ⟨pd, 0, none⟩, (hG3.keep hW).cell 1, .inr ⟨pd, rfl, (hD3.keep hW).cell 0⟩⟩
    · omega)
  clear hw3 hD3 hG3 hpd HS1 HB1
  go_loopw [17] (fun i wr => ∃ j : Nat, j ≤ 2 ∧ i = .int .i64 j ∧ Below w3.heap.size w3 wr) (fun i _ => (2 - intOf i).toNat)
  case atStart => exact ⟨0, by omega, rfl, Below.refl _ _⟩
  case round =>
    obtain ⟨j, hj, rfl, hb⟩ := hrel
    by_cases h2 : j < 2
    · obtain ⟨pt, hpt, hno⟩ := HPT.out wr hb j h2
      have h2' : (j : Int) < 2 := by omega
      have HNO := Lib.hid hno
      have HSr := Lib.hid (HS3.out.keep hb)
      have HBr := Lib.hid hb
      clear hno hb
      go_wp2_with (refine wpList_load_blk rfl 23 _ rfl xb 23 _ HSr.out rfl _ Tryz.underlying23 rfl shape_size ?_)
      refine (Open_none pt a b c wr HNO.out).mono ?_
      rintro e w4 ⟨en, rfl, hE, hz, hb4⟩
      have HE4 := Lib.hid hE
      have HNO4 := Lib.hid (HNO.out.keep hb4)
      have HSr4 := Lib.hid (HSr.out.keep hb4)
      have HB4 := Lib.hid (ext_trans HBr.out hb4)
      clear hE hz hb4
      obtain ⟨xf, hxf⟩ : ∃ xf, w4.heap.size = xf := ⟨_, rfl⟩
      obtain ⟨w5, hw5⟩ : ∃ w5, w4.alloc (.cells found0 32) = w5 := ⟨_, rfl⟩
      have HA5 := Lib.hid (show Arr w5 xf 32 found0 by rw [← hw5, ← hxf]; exact Arr.fresh w4 _ _)
      have HB5 := Lib.hid (show Below w4.heap.size w4 w5 by rw [← hw5]; exact ext_alloc (Below.refl _ _) _)
      have HXF := Lib.hid hxf
      go_wp2_with (first | (refine wpList_store_blk rfl 32 _ _ rfl xf 32 _ found0 HA5.out rfl rfl rfl found_size (by simp [Value.oneCell']) ?_; intro w6 hA6 hg6 hs6; have HB6 := Lib.hid (show Below w4.heap.size w4 w6 from ext_only HB5.out hg6 (Nat.le_of_eq HXF.out)); have HF6 := Lib.hid hA6; have HSr6 := Lib.hid (HSr4.out.keep HB6.out); clear hA6 hg6 hs6) | (refine wpList_load_blk rfl 23 _ rfl xb 23 _ HSr6.out rfl _ Tryz.underlying23 rfl shape_size ?_))
      refine (Look_none pt a b c w6 (HNO4.out.keep HB6.out)).mono ?_
      rintro e w7 ⟨rfl, hb7⟩
      have HB7 := Lib.hid (ext_trans HB6.out hb7)
      have HF7 := Lib.hid (HF6.out.keep hb7)
      clear hb7 hxf hw5
      obtain ⟨xg, hxg⟩ : ∃ xg, w7.heap.size = xg := ⟨_, rfl⟩
      obtain ⟨w8, hw8⟩ : ∃ w8, w7.alloc (.cells found0 32) = w8 := ⟨_, rfl⟩
      have HA8 := Lib.hid (show Arr w8 xg 32 found0 by rw [← hw8, ← hxg]; exact Arr.fresh w7 _ _)
      have HB8 := Lib.hid (show Below w7.heap.size w7 w8 by rw [← hw8]; exact ext_alloc (Below.refl _ _) _)
      have HXG := Lib.hid hxg
      go_wp2_with (first | (refine wpList_store_blk rfl 32 _ _ rfl xg 32 _ found0 HA8.out rfl rfl rfl found_size (by simp [Value.oneCell']) ?_; intro w9 hA9 hg9 hs9; have HB9 := Lib.hid (show Below w7.heap.size w7 w9 from ext_only HB8.out hg9 (Nat.le_of_eq HXG.out)); have HG9 := Lib.hid hA9; have HF9 := Lib.hid (HF7.out.keep HB9.out); have HE9 := Lib.hid (show EnArr w9 en false none none none (.slice none 0 0) (.map none) from Arr.keep HE4.out (ext_trans HB7.out HB9.out)); clear hA9 hg9 hs9))
      refine (Ready_in HE9.out).mono ?_
      rintro e wq ⟨rfl, hwq⟩
      rw [hwq]
      clear hwq wq
      go_wp2_with (first | (refine wpList_load_want rfl 32 (.tmp 7) rfl xf 32 _ HF9.out rfl _ Tryz.underlying32 rfl found_size ?_) | (refine wpList_load_want rfl 32 (.tmp 9) rfl xg 32 _ HG9.out rfl _ Tryz.underlying32 rfl found_size ?_))
      go_roundw
      case rel => exact ⟨j + 1, by omega, by go_num, ext_trans HB4.out (ext_trans HB7.out HB9.out)⟩
      case measure => simp [intOf]; omega
    · obtain rfl : j = 2 := by omega
      go_wp2_with fail
      refine (awake_in wr (HT.out.keep (ext_trans HB3.out hb))).mono ?_
      rintro e w4 ⟨rfl, hb4⟩
      go_wp2_with fail
      go_ret
      exact ⟨rfl, ext_trans (ext_trans HB3.out hb) hb4⟩

end Go.Proofs.YtbnkanehjnepbaaGreatDoor.Aw
end

/- What the rows' list says of the table of sums, opened for the walks. -/
section
set_option linter.unusedVariables false
set_option linter.unusedSimpArgs false
namespace Go.Proofs.YtbnkanehjnepbaaGreatDoor.Aw
open Go.RowKit Go.ChangeShapes Go.WideShapes Go.ChangeAt Go.Joins
open Go.Proofs.YtbnkanehjnepbaaGreatDoor.Cr (CrcTab tblN)

/-- there is an input that fits: a world whose listed variables were laid by the law -/
theorem witness_zip {H : Type} {enc : TypeId × Value → H} {C : Checked} {os : Os} {f : FuncId} {fn : Func} {s : OpenSpec} {conds : List PathCond} {apart : Bool} {laid : List (String × DataW Unit)} (modest : Bool) (w0 : World) (args : Array Value) (hos : w0.os = os)
    (hv : (w0.forCall (fun _ _ => 0) ⟨#[], args, []⟩).variablesZipB C.prog = true)
    (hr : ((w0.forCall (fun _ _ => 0) ⟨#[], args, []⟩).heap.toList.drop C.prog.globals.size).take ((begin C.prog (fun _ _ => 0) default).world.heap.size - C.prog.globals.size) =
      (begin C.prog (fun _ _ => 0) default).world.heap.toList.drop C.prog.globals.size)
    (hok : Input.okWideB C.prog (w0.forCall (fun _ _ => 0) ⟨#[], args, []⟩) f ⟨#[], args, []⟩ = true)
    (hrow : s.preRow enc C.prog fn conds apart laid (w0.forCall (fun _ _ => 0) ⟨#[], args, []⟩).memory args) :
    ∃ (w : World) (tape : Tape) (i : Input), w.os = os ∧ (w.forCall tape i).Shaped C.prog ∧ i.vars = [] ∧ Input.okWide C.prog (w.forCall tape i) .any w.heap.size f i ∧
      s.preRow enc C.prog fn conds apart laid (w.forCall tape i).memory i.args ∧ ({ modest := modest } : Assume).holds C.prog (lone (Frame.enter C.prog f i.args .normal) [] (w.forCall tape i)) :=
  ⟨w0, fun _ _ => 0, ⟨#[], args, []⟩, hos, World.shaped_of_ZipB hv hr, (Input.okWide_of_okWideB (base := 0) hok).1, (Input.okWide_of_okWideB hok).2, hrow, by
    simp only [Assume.holds]
    exact ⟨by simp, by simp, fun _ => Modest.zero, by simp, by simp⟩⟩

theorem gTab : Tryz.prog.globalNamed "gangway/crc.table" = some 1 := by kernel_rfl
theorem gTabType : (Tryz.prog.globals[1]?).map (·.type) = some 307 := by kernel_rfl
theorem cellsT : Tryz.prog.cellsOf 307 = 16 := by kernel_rfl
theorem cellsE : Tryz.prog.cellsOf 75 = 1 := by kernel_rfl
/-- what the row's list gives: the table's cells hold its numbers -/
theorem table {W : World} (h : laidMetH Tryz.prog Rows.recoveryNilRow.laid W) : Lib.TabIs Tryz.prog W "gangway/crc.table" .u32 [0, 498536548, 997073096, 651767980, 1994146192, 1802195444, 1303535960, 1342533948, 3988292384, 4027552580, 3604390888, 3412177804, 2607071920, 2262029012, 2685067896, 3183342108] :=
  Lib.tabIs_of_head (rest := []) gTab gTabType Tryz.underlying307 Tryz.underlying75 cellsE cellsT h
theorem tab_is : ∀ i : Fin 16, ([0, 498536548, 997073096, 651767980, 1994146192, 1802195444, 1303535960, 1342533948, 3988292384, 4027552580, 3604390888, 3412177804, 2607071920, 2262029012, 2685067896, 3183342108] : List Int).getD i.val 0 = (tblN.getD i.val 0 : Nat) := by decide
theorem tab {W : World} (h : laidMetH Tryz.prog Rows.recoveryNilRow.laid W) : CrcTab W := fun i hi => by
  rw [(table h).cell gTab i hi, tab_is ⟨i, hi⟩]

end Go.Proofs.YtbnkanehjnepbaaGreatDoor.Aw
end
