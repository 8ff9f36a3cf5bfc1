/- Packed: FltB, Kt3, Kt4. -/
import Derived.Test.YtkmpchffflemcaaGreatDoorPk14
import Derived.Test.YtkmpchffflemcaaGreatDoorPk1
import Derived.OwnWalk
import Derived.Test.YtkmpchffflemcaaGreatDoorProg
set_option linter.unusedVariables false
set_option linter.unusedSimpArgs false
/- flatBytes: lists of bytes that lie apart. -/
section
set_option linter.unusedVariables false
set_option linter.unusedSimpArgs false
namespace Go.Proofs.YtkmpchffflemcaaGreatDoor.Fl
open Go.RowKit
open Go.Proofs.YtkmpchffflemcaaGreatDoor.Oc (u8_info)

set_option maxRecDepth 100000 in
set_option maxHeartbeats 8000000 in
theorem FlatBytes (hd m hc : Nat) (AD AH : Nat → Option Addr) (N C : Nat → Nat) (w : World) (hLS : Lists 5 ElB w hd m AD AH N C) :
    Calls Tryz.prog 56 #[.slice (some ⟨hd, 0, none⟩) m hc] w fun e w' => e = .returned (.bool true) ∧ Tch (inG AD m) w w' := by
  have hm := hLS.few
  have hdl := hLS.lt
  have hN := hLS.small
  have HH := Lib.hid hLS.hdr; have HE := Lib.hid elB_ok; have HF := Lib.hid hLS.form; have HNE := Lib.hid hLS.ne; have HSH := Lib.hid hLS.apart
  clear hLS
  go_enter Tryz.func56, Tryz.ntmps56
  go_wp2_with fail
  go_loopw [3] (fun k wr => ∃ j : Nat, j ≤ m ∧ k = .int .i64 j ∧ (∀ q, q < m → ∀ g, At AD q g → Blk 5 ElB wr g (C q) q (lv N j q)) ∧ Tch (inG AD m) w wr) (fun k _ => (m - intOf k).toNat)
  case atStart =>
    refine ⟨0, by omega, rfl, fun q hq g hg => ?_, Tch.refl _ _⟩
    rw [lv_ge (by omega)]
    rcases HF.out q hq with ⟨h1, _⟩ | ⟨g2, h1, _, h2⟩
    · unfold At at hg; rw [h1] at hg; cases hg
    · obtain rfl := h1.eq hg
      exact h2
  case round =>
    obtain ⟨k, hk, rfl, hBl, ht⟩ := hrel
    have HBL := Lib.hid hBl
    clear hBl
    by_cases h : k < m
    · have hk1 : (k : Int) < (m : Int) := by omega
      obtain ⟨hn1, hn2⟩ := hN k h
      go_wp2_with fail
      go_loopw [4] (fun i wi => ∃ i' : Nat, i' ≤ N k ∧ i = .int .i64 i' ∧ (∀ q, q < m → q ≠ k → ∀ g, At AD q g → Blk 5 ElB wi g (C q) q (lv N k q)) ∧ (∀ g, At AD k g → Blk 5 ElB wi g (C k) k i') ∧ Tch (inG AD m) w wi) (fun i _ => (N k - intOf i).toNat)
      case atStart => exact ⟨0, by omega, rfl, fun q hq _ g hg => HBL.out q hq g hg, fun g hg => (HBL.out k h g hg).less (by omega), ht⟩
      case round =>
        obtain ⟨i, hi, rfl, hOt, hBk, hti⟩ := hrel
        have x0 : wr.cell? ⟨hd, k, none⟩ = some (.slice (AH k) (N k) (C k)) := HH.out.tch hti hdl HSH.out k h
        have hdl2 : hd < wr.heap.size := Nat.lt_of_lt_of_le hdl hti.size
        have HOT := Lib.hid hOt; have HBK := Lib.hid hBk; have HT := Lib.hid hti
        clear hOt hBk hti
        by_cases h2 : i < N k
        · obtain ⟨gk, hgk, hgk'⟩ : ∃ g, At AD k g ∧ At AH k g := by
            rcases HF.out k h with ⟨_, h3, _⟩ | ⟨g, h3, h4, _⟩
            · omega
            · exact ⟨g, h3, by assumption⟩
          rw [show AH k = some ⟨gk, 0, none⟩ from hgk'] at x0
          have HGK := Lib.hid hgk
          have HB0 := Lib.hid (HBK.out gk hgk)
          have gkl := HB0.out.lt
          have hi1 : (i : Int) < (N k : Int) := by omega
          have hdk : hd ≠ gk := fun e => HSH.out ⟨k, h, by rw [e]; exact HGK.out⟩
          have hdk2 : gk ≠ hd := fun e => hdk e.symm
          have hi0 : (0 : Int) ≤ (i : Int) := by omega
          obtain ⟨⟨u0, u0c⟩, m0⟩ := HB0.out.there (show i < C k by omega)
          clear hgk hgk'
          go_wp2_with fail
          refine wp_region_held_drew (S := (fun w' => w'.cell? ⟨hd, k, none⟩ = some (.slice (some ⟨gk, 0, none⟩) (N k) (C k)) ∧ hd < w'.heap.size)) (by kernel_rfl) (by exact ⟨x0, Nat.lt_of_lt_of_le hdl2 (Nat.le_refl _)⟩) (fun hHeld => ?_)
          refine take_yes (i := 0) (oi := ?o1) (d := (some 31)) (v := ?v1) ?hi1 (by kernel_rfl) (by kernel_rfl) (by kernel_rfl) (fun _ _ _ h => h) ?hd1 ?hw1 ?hy1 (by assumption) ?_
          case hi1 => (simp only [List.getElem?_toArray, List.getElem?_cons_zero]; exact rfl)
          case hd1 => rfl
          case hw1 => rfl
          case hy1 => (intro w hSw; (try dsimp only at hSw); go_simp; try with_reducible rfl)
          try simp only [Act.put, List.setIfInBounds_toArray, List.set_cons_zero, List.set_cons_succ]
          refine take_yes (i := 1) (oi := ?o2) (d := (some 32)) (v := ?v2) ?hi2 (by kernel_rfl) (by kernel_rfl) (by kernel_rfl) (fun _ _ _ h => h) ?hd2 ?hw2 ?hy2 (by assumption) ?_
          case hi2 => (simp only [List.getElem?_toArray, List.getElem?_cons_zero, List.getElem?_cons_succ]; exact rfl)
          case hd2 => rfl
          case hw2 => rfl
          case hy2 => (intro w hSw; (try dsimp only at hSw); go_simp; try with_reducible rfl)
          try simp only [Act.put, List.setIfInBounds_toArray, List.set_cons_zero, List.set_cons_succ]
          refine take_yes (i := 2) (oi := ?o3) (d := (some 33)) (v := ?v3) ?hi3 (by kernel_rfl) (by kernel_rfl) (by kernel_rfl) (fun _ _ _ h => h) ?hd3 ?hw3 ?hy3 (by assumption) ?_
          case hi3 => (simp only [List.getElem?_toArray, List.getElem?_cons_zero, List.getElem?_cons_succ]; exact rfl)
          case hd3 => rfl
          case hw3 => rfl
          case hy3 => (intro w hSw; (try dsimp only at hSw); go_simp; try with_reducible rfl)
          try simp only [Act.put, List.setIfInBounds_toArray, List.set_cons_zero, List.set_cons_succ]
          refine take_yes (i := 3) (oi := ?o4) (d := (some 34)) (v := ?v4) ?hi4 (by kernel_rfl) (by kernel_rfl) (by kernel_rfl) (fun _ _ _ h => h) ?hd4 ?hw4 ?hy4 (by assumption) ?_
          case hi4 => (simp only [List.getElem?_toArray, List.getElem?_cons_zero, List.getElem?_cons_succ]; exact rfl)
          case hd4 => rfl
          case hw4 => rfl
          case hy4 => (intro w hSw; (try dsimp only at hSw); go_simp; try with_reducible rfl)
          try simp only [Act.put, List.setIfInBounds_toArray, List.set_cons_zero, List.set_cons_succ]
          refine take_yes (i := 4) (oi := ?o5) (d := (some 35)) (v := ?v5) ?hi5 (by kernel_rfl) (by kernel_rfl) (by kernel_rfl) (fun _ _ _ h => h) ?hd5 ?hw5 ?hy5 (by assumption) ?_
          case hi5 => (simp only [List.getElem?_toArray, List.getElem?_cons_zero, List.getElem?_cons_succ]; exact rfl)
          case hd5 => rfl
          case hw5 => rfl
          case hy5 => (intro w hSw; (try dsimp only at hSw); go_simp; try with_reducible rfl)
          try simp only [Act.put, List.setIfInBounds_toArray, List.set_cons_zero, List.set_cons_succ]
          refine take_yes (i := 5) (oi := ?o6) (d := (some 36)) (v := ?v6) ?hi6 (by kernel_rfl) (by kernel_rfl) (by kernel_rfl) (fun _ _ _ h => h) ?hd6 ?hw6 ?hy6 (by assumption) ?_
          case hi6 => (simp only [List.getElem?_toArray, List.getElem?_cons_zero, List.getElem?_cons_succ]; exact rfl)
          case hd6 => rfl
          case hw6 => rfl
          case hy6 => (intro w hSw; (try dsimp only at hSw); go_simp; try with_reducible rfl)
          try simp only [Act.put, List.setIfInBounds_toArray, List.set_cons_zero, List.set_cons_succ]
          refine take_yes (i := 6) (oi := ?o7) (d := (some 37)) (v := ?v7) ?hi7 (by kernel_rfl) (by kernel_rfl) (by kernel_rfl) (fun _ _ _ h => h) ?hd7 ?hw7 ?hy7 (by assumption) ?_
          case hi7 => (simp only [List.getElem?_toArray, List.getElem?_cons_zero, List.getElem?_cons_succ]; exact rfl)
          case hd7 => rfl
          case hw7 => rfl
          case hy7 => (intro w hSw; (try dsimp only at hSw); go_simp; try with_reducible rfl)
          try simp only [Act.put, List.setIfInBounds_toArray, List.set_cons_zero, List.set_cons_succ]
          refine wpAnyH_ready (rs := [7]) (by kernel_rfl) (by simp) ?_
          refine AllReadyH.cons rfl (fun K hK => ?_) AllReadyH.nil
          go_simp
          (go_at_call 11; refine (MarkByte k i _).mono ?_; rintro e w3 ⟨rfl, hb3⟩; have hbz := ext_trans (ext_drew (Below.refl wr.heap.size wr)) hb3; have y0 := cell_lift u0c hbz; have q0 := (hbz.frozen (p := ⟨gk, i, none⟩) gkl).trans m0)
          go_wp2_with fail
          refine hK.out _ _ (by first | exact ⟨cell_lift x0 hbz, Nat.lt_of_lt_of_le hdl2 hbz.size⟩ | exact ⟨(World.cell?_of_block (a := ⟨hd, k, none⟩) (Below.heap_setCell _ _ _ _ hdk)).trans (cell_lift x0 hbz), by simp; exact Nat.lt_of_lt_of_le hdl2 hbz.size⟩) (fun hHeld7 => ?_)
          clear hK K
          try simp only [Act.put, List.setIfInBounds_toArray, List.set_cons_zero, List.set_cons_succ]
          refine take_yes (i := 8) (oi := ?o8) (d := (some 39)) (v := ?v8) ?hi8 (by kernel_rfl) (by kernel_rfl) (by kernel_rfl) (fun _ _ _ h => h) ?hd8 ?hw8 ?hy8 (by assumption) ?_
          case hi8 => (simp only [List.getElem?_toArray, List.getElem?_cons_zero, List.getElem?_cons_succ]; exact rfl)
          case hd8 => rfl
          case hw8 => rfl
          case hy8 => (intro w hSw; (try dsimp only at hSw); go_simp; try with_reducible rfl)
          try simp only [Act.put, List.setIfInBounds_toArray, List.set_cons_zero, List.set_cons_succ]
          refine wpAnyH_ready (rs := [9]) (by kernel_rfl) (by simp) ?_
          refine AllReadyH.cons rfl (fun K hK => ?_) AllReadyH.nil
          go_simp
          skip
          go_wp2_with fail
          refine hK.out _ _ (by first | exact ⟨cell_lift x0 hbz, Nat.lt_of_lt_of_le hdl2 hbz.size⟩ | exact ⟨(World.cell?_of_block (a := ⟨hd, k, none⟩) (Below.heap_setCell _ _ _ _ hdk)).trans (cell_lift x0 hbz), by simp; exact Nat.lt_of_lt_of_le hdl2 hbz.size⟩) (fun hHeld9 => ?_)
          clear hK K
          try simp only [Act.put, List.setIfInBounds_toArray, List.set_cons_zero, List.set_cons_succ]
          refine wpAnyH_done (by kernel_rfl) ?_ _
          go_wp2_with fail
          go_roundw
          case rel =>
            have hb4 : Below wr.heap.size wr w3 := hbz
            have hg4 : w3.grownBy (w3.setCell ⟨gk, i, none⟩ (.int .u8 (mkV k i))) (some gk) := (only_setCells gk [.int .u8 (mkV k i)] i w3).1
            have hk4 : Ks ElB w3 (w3.setCell ⟨gk, i, none⟩ (.int .u8 (mkV k i))) := ksB _ _
            refine ⟨i + 1, by omega, by go_num, fun q hq hqk g hg => ?_, fun g hg => ?_, ?_⟩
            · have hb5 := (HOT.out q hq hqk g hg).keep HE.out hb4
              exact hb5.same hk4 (hg4.block g hb5.lt (fun e => by
                injection e with e
                subst e
                exact hqk (HNE.out q k _ hq h hg HGK.out)))
            · obtain rfl := HGK.out.eq hg
              exact (HB0.out.keep HE.out hb4).put HE.out rfl (by omega)
            · exact (HT.out.below hb4).grown hg4 (fun x hx => by injection hx with hx; subst hx; exact .inl ⟨k, h, HGK.out⟩)
          case measure => simp [intOf]; omega
        · obtain rfl : i = N k := by omega
          go_wp2_with fail
          go_roundw
          case rel =>
            refine ⟨k + 1, by omega, by go_num, fun q hq g hg => ?_, HT.out⟩
            rcases Nat.lt_trichotomy q k with h3 | h3 | h3
            · have := HOT.out q hq (by omega) g hg; rw [lv_lt h3] at this; rw [lv_lt (by omega)]; exact this
            · subst h3; rw [lv_lt (by omega)]; exact HBK.out g hg
            · have := HOT.out q hq (by omega) g hg; rw [lv_ge (by omega)] at this; rw [lv_ge (by omega)]; exact this
          case measure => simp [intOf]; omega
    · obtain rfl : k = m := by omega
      have hB2 : Mrk 5 ElB wr k AD N C := fun q hq g hg => by have := HBL.out q hq g hg; rw [lv_lt hq] at this; exact this
      have HB2 := Lib.hid hB2; have HT := Lib.hid ht
      have hGlt : ∀ q g, q < k → At AD q g → g < wr.heap.size := fun q g hq hg => (hB2 q hq g hg).lt
      have HGL := Lib.hid hGlt
      have hw := ht.size
      clear hB2 HBL ht h hGlt
      obtain ⟨i1, hi1, hz01, hz11, hz21⟩ := info_parts rows_info
      obtain ⟨i0, hi, hz0, hz1, hz2⟩ := info_parts u8_info
      go_wp2_with (refine wpList_make_full _ rfl _ _ 24 rfl wr.heap.size 22 i1 (.slice none 0 0) 1 Tryz.underlying24 hi1 hz01 hz11 .i64 .i64 _ _ k rfl rfl rfl rfl (by rw [hz21]; omega) (by unfold maxLen; omega) (Nat.le_refl _) ?_; intro w5 hown5 hg5; have HO5 := Lib.hid hown5; have HG5 := Lib.hid hg5; clear hown5 hg5)
      obtain ⟨cs0, hcs0, hcs1⟩ := own_arr HO5.out
      have hb5 : Below wr.heap.size wr w5 := Below.grown (Below.refl _ _) HG5.out (Nat.le_refl _) (by simp)
      obtain ⟨gsb, hgsb⟩ : ∃ gsb, gsb = wr.heap.size := ⟨_, rfl⟩
      have hl5 := hcs0.lt
      rw [← hgsb] at hcs0 hl5 ⊢
      have HGS := Lib.hid hgsb
      have hB5 : Mrk 5 ElB w5 k AD N C := HB2.out.keep HE.out hb5
      have ht5 := HT.out.below hb5
      have HB5 := Lib.hid hB5
      clear hgsb HO5 HG5 HB2 hB5
      rename World => w5'
      have hgw : w.heap.size ≤ gsb := by have := HGS.out; omega
      have hGl : ∀ q g, q < k → At AD q g → g < gsb := fun q g hq hg => by rw [HGS.out]; exact HGL.out q g hq hg
      have HGLT := Lib.hid hGl
      clear hGl
      go_loopw [6] (fun j wr => ∃ (j' : Nat) (cs : Array Value), j' ≤ k ∧ j = .int .i64 j' ∧ cs.size = k ∧ Inv 5 22 ElB k AD N C w wr.heap.size gsb cs j' 64 wr) (fun j _ => (k - intOf j).toNat)
      case atStart => exact ⟨0, cs0, by omega, rfl, hcs1, hcs0, fun q hq => absurd hq (by omega), HB5.out, ht5, Nat.le_refl _⟩
      case round =>
        clear hcs0 hcs1 hb5 hl5 ht5 HB5
        obtain ⟨j, cs, hj, rfl, hcz, hinv⟩ := hrel
        rename World => wo
        have hgo : gsb < wo.heap.size := hinv.1.lt
        have HINV := Lib.hid hinv
        have hlo : hd < wo.heap.size := Nat.lt_of_lt_of_le hdl hinv.2.2.2.1.size
        by_cases h : j < k
        · obtain ⟨hn1, hn2⟩ := hN j h
          have x0 : wo.cell? ⟨hd, j, none⟩ = some (.slice (AH j) (N j) (C j)) := HH.out.tch hinv.2.2.2.1 hdl HSH.out j h
          have hj1 : (j : Int) < (k : Int) := by omega
          clear hinv
          go_wp2_with fail
          go_loopw [7, 8] (fun g i wi => ∃ i' : Nat, i' ≤ 64 ∧ i = .int .i64 i' ∧ GRow 5 ElB wi AD wo.heap.size wi.heap.size j (N j + i') g ∧ Inv 5 22 ElB k AD N C w wo.heap.size gsb cs j 64 wi) (fun _ i _ => (64 - intOf i).toNat)
          case atStart =>
            refine ⟨0, by omega, rfl, ⟨AH j, C j, rfl, hn1, ?_⟩, HINV.out⟩
            rcases HF.out j h with ⟨h1, h2, h3⟩ | ⟨g, h1, h1', _⟩
            · exact .inl ⟨h2, h3⟩
            · exact .inr ⟨g, h1', HINV.out.2.2.1 j h g h1, .inl h1, (HINV.out.2.2.1 j h g h1).lt⟩
          case round =>
            obtain ⟨i, hi', rfl, hg, hiv⟩ := hrel
            obtain ⟨ao, gc, rfl, hnc, hway⟩ := hg
            have x0 : wr.cell? ⟨hd, j, none⟩ = some (.slice (AH j) (N j) (C j)) := HH.out.tch hiv.2.2.2.1 hdl HSH.out j h
            have HIV := Lib.hid hiv; have HWAY := Lib.hid hway
            have hsz := hiv.2.2.2.2
            have hcsl := hiv.1.lt
            clear hway
            by_cases hi64 : i < 64
            · clear hiv
              go_wp2_with fail
              refine (MarkByteE j (N j + i) _ _ rfl (by simp) _).mono ?_
              rintro e w4 ⟨rfl, hb4⟩
              have hbA := ext_alloc hb4 (.cells #[.int .u8 (mkV j (N j + i))] 5)
              have HNW := Lib.hid (news_any w4 [.int .u8 (mkV j (N j + i))] 5)
              have HIA := Lib.hid (HIV.out.below HE.out hbA)
              have hwayA : (N j + i = 0 ∧ gc = 0) ∨ ∃ g, ao = some ⟨g, 0, none⟩ ∧ Blk 5 ElB (w4.alloc (.cells #[.int .u8 (mkV j (N j + i))] 5)) g gc j (N j + i) ∧ (At AD j g ∨ wo.heap.size ≤ g) ∧ g < wr.heap.size := by
                rcases HWAY.out with h1 | ⟨g, h1, h2, h3, h4⟩
                · exact .inl h1
                · exact .inr ⟨g, h1, h2.keep HE.out hbA, h3, h4⟩
              have HWA := Lib.hid hwayA
              have HBA := Lib.hid hbA
              clear hwayA hbA hb4
              by_cases hroom : N j + i + 1 ≤ gc
              · obtain ⟨gg, rfl, hbk, hat, hltg⟩ : ∃ g, ao = some ⟨g, 0, none⟩ ∧ Blk 5 ElB (w4.alloc (.cells #[.int .u8 (mkV j (N j + i))] 5)) g gc j (N j + i) ∧ (At AD j g ∨ wo.heap.size ≤ g) ∧ g < wr.heap.size := by
                  rcases HWA.out with ⟨_, h3⟩ | h1
                  · omega
                  · exact h1
                obtain ⟨olds, ho1, ho2, _⟩ := hbk.olds hnc
                have HO2 := Lib.hid ho2; have HBK := Lib.hid hbk
                clear ho2 hbk
                go_wp2_with (at_builtin; refine wpList_append_arg _ rfl (.tmp 57) (.tmp 67) 22 rfl 5 i0 (.int .u8 0) 1 1 Tryz.underlying22 hi hz0 hz1 hz2 rfl (by decide) gg 0 (N j + i) gc olds rfl ho1 HO2.out ⟨w4.heap.size, 0, none⟩ 1 1 [.int .u8 (mkV j (N j + i))] rfl rfl HNW.out (mk_one _) (fun _ s hs => by have hs2 : s < 1 := hs; have := HBK.out.there (j := 0 + (N j + i) * 1 + s) (by omega); exact ⟨by obtain ⟨u, hu⟩ := this.1; rw [hu]; rfl, this.2⟩) (by unfold maxLen; omega) (by omega) (fun _ => ?_) (fun hc => absurd hroom (by omega)); rw [Nat.zero_add]; generalize hw6 : World.setCells _ gg ((N j + i) * 1) _ = w6; have HW6 := Lib.hid hw6; clear hw6)
                go_roundw
                case rel =>
                  have hbp := HBK.out.put HE.out (u := .int .u8 (mkV j (N j + i))) rfl (show N j + i < gc by omega)
                  have hgp := (only_setCells gg [.int .u8 (mkV j (N j + i))] (N j + i) (w4.alloc (.cells #[.int .u8 (mkV j (N j + i))] 5))).1
                  have hw6 := HW6.out
                  rw [Nat.mul_one] at hw6
                  rw [setCells_one] at hw6 hgp
                  rw [hw6] at hbp hgp
                  refine ⟨i + 1, by omega, by go_num, ⟨_, gc, rfl, by omega, .inr ⟨gg, rfl, hbp, hat, hbp.lt⟩⟩, HIA.out.turn (ksB _ _) hgp HGLT.out HNE.out h hgo (by omega) ?_⟩
                  rcases hat with h1 | h1
                  · refine .inl ⟨h1, ?_⟩
                    have hrm := ((HIA.out.2.2.1 j h gg h1).room HE.out [.int .u8 (mkV j (N j + i))] (show N j ≤ N j + i by omega) (by
                      have h8 := HIA.out.2.2.1 j h gg h1
                      obtain ⟨c1, d1, e1, _⟩ := h8
                      obtain ⟨c2, d2, e2, _⟩ := HBK.out
                      have d3 := Eq.trans (Eq.symm (show _ = _ from d1)) (show _ = _ from d2)
                      injection d3 with d3
                      injection d3 with d3
                      subst d3
                      simp; omega)).1
                    rw [setCells_one, hw6] at hrm
                    exact hrm
                  · exact .inr h1
                case measure => simp [intOf]; omega
              · obtain ⟨olds, ho1, ho4, ho2, ho3⟩ := GRow.olds (El := ElB) hnc HWA.out
                have HO2 := Lib.hid ho2; have HO3 := Lib.hid ho3; have HO4 := Lib.hid ho4
                clear ho2 ho3 ho4
                go_wp2_with (at_builtin; refine wpList_append_grows _ rfl (.tmp 57) (.tmp 67) 22 rfl 5 i0 (.int .u8 0) 1 1 Tryz.underlying22 hi hz0 hz1 hz2 rfl (by decide) ao (N j + i) gc olds rfl HO4.out ho1 HO2.out ⟨w4.heap.size, 0, none⟩ 1 1 [.int .u8 (mkV j (N j + i))] rfl rfl HNW.out (mk_one _) (by omega) (by unfold maxLen; omega) (by omega) (fun v6 w6 hown6 hg6 => ?_); obtain ⟨g6, c6, rfl, hb6, hn6, hl6⟩ := Blk.ofOwn1 (El := ElB) (q := j) (w := w6) (ksB _ _) hown6 ho1 HO3.out rfl; have HB6 := Lib.hid hb6; have HG6 := Lib.hid hg6; clear hown6 hg6 hb6)
                go_roundw
                case rel =>
                  have hz6 := HBA.out.size
                  exact ⟨i + 1, by omega, by go_num, ⟨_, c6, rfl, hn6, .inr ⟨g6, rfl, HB6.out, .inr (by simp at hl6 hz6; omega), HB6.out.lt⟩⟩, HIA.out.below HE.out (grown_none HG6.out)⟩
                case measure => simp [intOf]; omega
            · obtain rfl : i = 64 := by omega
              obtain ⟨gg, rfl, hbk, hat, hltg⟩ : ∃ g, ao = some ⟨g, 0, none⟩ ∧ Blk 5 ElB wr g gc j (N j + 64) ∧ (At AD j g ∨ wo.heap.size ≤ g) ∧ g < wr.heap.size := by
                rcases HWAY.out with ⟨h3, _⟩ | h1
                · omega
                · exact h1
              have HBK := Lib.hid hbk
              have hcj : cs[j]? = some (cs[j]'(by omega)) := Array.getElem?_eq_getElem _
              have y0 : wr.cell? ⟨gsb, j, none⟩ = some (cs[j]'(by omega)) := (hiv.1.cell j).trans hcj
              have m0 := hiv.1.mark j
              clear hiv hbk
              go_wp2_with fail
              go_roundw
              case rel => exact ⟨j + 1, _, by omega, by go_num, by rw [Array.size_setIfInBounds]; exact hcz, HIV.out.next HE.out HBK.out hat h hcz HGLT.out hgo hgw⟩
              case measure => simp [intOf]; omega
        · obtain rfl : j = k := by omega
          obtain ⟨top, htop⟩ : ∃ top, wo.heap.size = top := ⟨_, rfl⟩
          rw [htop] at HINV hgo
          clear hinv
          go_wp2_with fail
          go_loopw [9] (fun q wr => ∃ q' : Nat, q' ≤ j ∧ q = .int .i64 q' ∧ Inv 5 22 ElB j AD N C w top gsb cs j 64 wr) (fun q _ => (j - intOf q).toNat)
          case atStart => exact ⟨0, by omega, rfl, HINV.out⟩
          case round =>
            obtain ⟨q, hq, rfl, hinv⟩ := hrel
            by_cases h5 : q < j
            · obtain ⟨hn1, hn2⟩ := hN q h5
              have hq1 : (q : Int) < (j : Int) := by omega
              obtain ⟨g, c, hv, hb1, hgat, hgl⟩ := hinv.2.1 q h5
              have y0 : wr.cell? ⟨gsb, q, none⟩ = some (.slice (some ⟨g, 0, none⟩) (N q + 64) c) := (hinv.1.cell q).trans hv
              have HINV5 := Lib.hid hinv
              have HV := Lib.hid hv
              clear hinv hb1 hv
              go_wp2_with fail
              go_loopw [10] (fun i wi => ∃ i' : Nat, i' ≤ N q + 64 ∧ i = .int .i64 i' ∧ Inv 5 22 ElB j AD N C w top gsb cs j 64 wi) (fun i _ => (N q + 64 - intOf i).toNat)
              case atStart => exact ⟨0, by omega, rfl, HINV5.out⟩
              case round =>
                clear y0
                obtain ⟨i, hi6, rfl, hinv⟩ := hrel
                have z1 : wr.cell? ⟨gsb, q, none⟩ = some (.slice (some ⟨g, 0, none⟩) (N q + 64) c) := (hinv.1.cell q).trans HV.out
                have z2 : wr.cell? ⟨hd, q, none⟩ = some (.slice (AH q) (N q) (C q)) := HH.out.tch hinv.2.2.2.1 hdl HSH.out q h5
                by_cases h6 : i < N q + 64
                · obtain ⟨_, z3, rfl⟩ := (hinv.row h5 HV.out).cell h6
                  have hi1 : (i : Int) < (N q : Int) + 64 := by omega
                  have hi0 : (0 : Int) ≤ (i : Int) := by omega
                  obtain ⟨M, hM⟩ : ∃ M, mkV q i = M := ⟨_, rfl⟩
                  have hms : ∀ W : World, Calls Tryz.prog 11 #[.int .i64 q, .int .i64 i] W fun e w' => e = .returned (.int .u8 M) ∧ Below W.heap.size W w' := fun W => by rw [← hM]; exact MarkByte q i W
                  have HMS := Lib.hid hms
                  by_cases h7 : i < N q
                  · obtain ⟨gq, hgq, hgq'⟩ : ∃ g, At AD q g ∧ At AH q g := by
                      rcases HF.out q h5 with ⟨_, h3, _⟩ | ⟨g, h3, h4, _⟩
                      · omega
                      · exact ⟨g, h3, h4⟩
                    obtain ⟨_, z5, rfl⟩ := (hinv.2.2.1 q h5 gq hgq).cell h7
                    rw [show AH q = some ⟨gq, 0, none⟩ from hgq'] at z2
                    rw [hM] at z3 z5
                    have HCS : (∀ w', Below wr.heap.size wr w' → ((fun w' => w'.cell? ⟨gsb, q, none⟩ = some (.slice (some ⟨g, 0, none⟩) (N q + 64) c) ∧ w'.cell? ⟨hd, q, none⟩ = some (.slice (some ⟨gq, 0, none⟩) (N q) (C q)) ∧ w'.cell? ⟨g, i, none⟩ = some (.int .u8 M) ∧ w'.cell? ⟨gq, i, none⟩ = some (.int .u8 M) ∧ Below wr.heap.size wr w') w')) := fun w' hb => ⟨cell_lift z1 hb, cell_lift z2 hb, cell_lift z3 hb, cell_lift z5 hb, hb⟩
                    have hi7 : (i : Int) < (N q : Int) := by omega
                    have HINV6 := Lib.hid hinv
                    clear hinv hms hM hgq hgq'
                    go_wp2_with fail
                    refine wp_region_held_drew (S := (fun w' => w'.cell? ⟨gsb, q, none⟩ = some (.slice (some ⟨g, 0, none⟩) (N q + 64) c) ∧ w'.cell? ⟨hd, q, none⟩ = some (.slice (some ⟨gq, 0, none⟩) (N q) (C q)) ∧ w'.cell? ⟨g, i, none⟩ = some (.int .u8 M) ∧ w'.cell? ⟨gq, i, none⟩ = some (.int .u8 M) ∧ Below wr.heap.size wr w')) (by kernel_rfl) (by exact HCS _ (ext_drew (Below.refl _ _))) (fun hHeld => ?_)
                    refine take_yes (i := 0) (oi := ?o9) (d := (some 88)) (v := ?v9) ?hi9 (by kernel_rfl) (by kernel_rfl) (by kernel_rfl) (fun _ _ _ h => h) ?hd9 ?hw9 ?hy9 (by assumption) ?_
                    case hi9 => (simp only [List.getElem?_toArray, List.getElem?_cons_zero]; exact rfl)
                    case hd9 => rfl
                    case hw9 => rfl
                    case hy9 => (intro w hSw; (try dsimp only at hSw); go_simp; try with_reducible rfl)
                    try simp only [Act.put, List.setIfInBounds_toArray, List.set_cons_zero, List.set_cons_succ]
                    refine take_yes (i := 1) (oi := ?o10) (d := (some 89)) (v := ?v10) ?hi10 (by kernel_rfl) (by kernel_rfl) (by kernel_rfl) (fun _ _ _ h => h) ?hd10 ?hw10 ?hy10 (by assumption) ?_
                    case hi10 => (simp only [List.getElem?_toArray, List.getElem?_cons_zero, List.getElem?_cons_succ]; exact rfl)
                    case hd10 => rfl
                    case hw10 => rfl
                    case hy10 => (intro w hSw; (try dsimp only at hSw); go_simp; try with_reducible rfl)
                    try simp only [Act.put, List.setIfInBounds_toArray, List.set_cons_zero, List.set_cons_succ]
                    refine take_yes (i := 2) (oi := ?o11) (d := (some 90)) (v := ?v11) ?hi11 (by kernel_rfl) (by kernel_rfl) (by kernel_rfl) (fun _ _ _ h => h) ?hd11 ?hw11 ?hy11 (by assumption) ?_
                    case hi11 => (simp only [List.getElem?_toArray, List.getElem?_cons_zero, List.getElem?_cons_succ]; exact rfl)
                    case hd11 => rfl
                    case hw11 => rfl
                    case hy11 => (intro w hSw; (try dsimp only at hSw); go_simp; try with_reducible rfl)
                    try simp only [Act.put, List.setIfInBounds_toArray, List.set_cons_zero, List.set_cons_succ]
                    refine take_yes (i := 3) (oi := ?o12) (d := (some 91)) (v := ?v12) ?hi12 (by kernel_rfl) (by kernel_rfl) (by kernel_rfl) (fun _ _ _ h => h) ?hd12 ?hw12 ?hy12 (by assumption) ?_
                    case hi12 => (simp only [List.getElem?_toArray, List.getElem?_cons_zero, List.getElem?_cons_succ]; exact rfl)
                    case hd12 => rfl
                    case hw12 => rfl
                    case hy12 => (intro w hSw; (try dsimp only at hSw); go_simp; try with_reducible rfl)
                    try simp only [Act.put, List.setIfInBounds_toArray, List.set_cons_zero, List.set_cons_succ]
                    refine take_yes (i := 4) (oi := ?o13) (d := (some 92)) (v := ?v13) ?hi13 (by kernel_rfl) (by kernel_rfl) (by kernel_rfl) (fun _ _ _ h => h) ?hd13 ?hw13 ?hy13 (by assumption) ?_
                    case hi13 => (simp only [List.getElem?_toArray, List.getElem?_cons_zero, List.getElem?_cons_succ]; exact rfl)
                    case hd13 => rfl
                    case hw13 => rfl
                    case hy13 => (intro w hSw; (try dsimp only at hSw); go_simp; try with_reducible rfl)
                    try simp only [Act.put, List.setIfInBounds_toArray, List.set_cons_zero, List.set_cons_succ]
                    refine take_yes (i := 5) (oi := ?o14) (d := (some 93)) (v := ?v14) ?hi14 (by kernel_rfl) (by kernel_rfl) (by kernel_rfl) (fun _ _ _ h => h) ?hd14 ?hw14 ?hy14 (by assumption) ?_
                    case hi14 => (simp only [List.getElem?_toArray, List.getElem?_cons_zero, List.getElem?_cons_succ]; exact rfl)
                    case hd14 => rfl
                    case hw14 => rfl
                    case hy14 => (intro w hSw; (try dsimp only at hSw); go_simp; try with_reducible rfl)
                    try simp only [Act.put, List.setIfInBounds_toArray, List.set_cons_zero, List.set_cons_succ]
                    refine take_yes (i := 6) (oi := ?o15) (d := (some 94)) (v := ?v15) ?hi15 (by kernel_rfl) (by kernel_rfl) (by kernel_rfl) (fun _ _ _ h => h) ?hd15 ?hw15 ?hy15 (by assumption) ?_
                    case hi15 => (simp only [List.getElem?_toArray, List.getElem?_cons_zero, List.getElem?_cons_succ]; exact rfl)
                    case hd15 => rfl
                    case hw15 => rfl
                    case hy15 => (intro w hSw; (try dsimp only at hSw); go_simp; try with_reducible rfl)
                    try simp only [Act.put, List.setIfInBounds_toArray, List.set_cons_zero, List.set_cons_succ]
                    refine take_yes (i := 7) (oi := ?o16) (d := (some 95)) (v := ?v16) ?hi16 (by kernel_rfl) (by kernel_rfl) (by kernel_rfl) (fun _ _ _ h => h) ?hd16 ?hw16 ?hy16 (by assumption) ?_
                    case hi16 => (simp only [List.getElem?_toArray, List.getElem?_cons_zero, List.getElem?_cons_succ]; exact rfl)
                    case hd16 => rfl
                    case hw16 => rfl
                    case hy16 => (intro w hSw; (try dsimp only at hSw); go_simp; try with_reducible rfl)
                    try simp only [Act.put, List.setIfInBounds_toArray, List.set_cons_zero, List.set_cons_succ]
                    refine take_yes (i := 8) (oi := ?o17) (d := (some 96)) (v := ?v17) ?hi17 (by kernel_rfl) (by kernel_rfl) (by kernel_rfl) (fun _ _ _ h => h) ?hd17 ?hw17 ?hy17 (by assumption) ?_
                    case hi17 => (simp only [List.getElem?_toArray, List.getElem?_cons_zero, List.getElem?_cons_succ]; exact rfl)
                    case hd17 => rfl
                    case hw17 => rfl
                    case hy17 => (intro w hSw; (try dsimp only at hSw); go_simp; try with_reducible rfl)
                    try simp only [Act.put, List.setIfInBounds_toArray, List.set_cons_zero, List.set_cons_succ]
                    refine wpAnyH_ready (rs := [9]) (by kernel_rfl) (by simp) ?_
                    refine AllReadyH.cons rfl (fun K hK => ?_) AllReadyH.nil
                    go_simp
                    (go_at_call 11; refine (HMS.out _).mono ?_; rintro e w9 ⟨rfl, hb9⟩; have hbz9 := ext_trans hHeld.2.2.2.2 hb9)
                    go_wp2_with fail
                    refine hK.out _ _ (by exact HCS _ (by assumption)) (fun hHeld9 => ?_)
                    clear hK K
                    try simp only [Act.put, List.setIfInBounds_toArray, List.set_cons_zero, List.set_cons_succ]
                    refine take_yes (i := 10) (oi := ?o18) (d := (some 98)) (v := ?v18) ?hi18 (by kernel_rfl) (by kernel_rfl) (by kernel_rfl) (fun _ _ _ h => h) ?hd18 ?hw18 ?hy18 (by assumption) ?_
                    case hi18 => (simp only [List.getElem?_toArray, List.getElem?_cons_zero, List.getElem?_cons_succ]; exact rfl)
                    case hd18 => rfl
                    case hw18 => rfl
                    case hy18 => (intro w hSw; (try dsimp only at hSw); go_simp; try with_reducible rfl)
                    try simp only [Act.put, List.setIfInBounds_toArray, List.set_cons_zero, List.set_cons_succ]
                    refine take_yes (i := 11) (oi := ?o19) (d := (some 99)) (v := ?v19) ?hi19 (by kernel_rfl) (by kernel_rfl) (by kernel_rfl) (fun _ _ _ h => h) ?hd19 ?hw19 ?hy19 (by assumption) ?_
                    case hi19 => (simp only [List.getElem?_toArray, List.getElem?_cons_zero, List.getElem?_cons_succ]; exact rfl)
                    case hd19 => rfl
                    case hw19 => rfl
                    case hy19 => (intro w hSw; (try dsimp only at hSw); go_simp; try with_reducible rfl)
                    try simp only [Act.put, List.setIfInBounds_toArray, List.set_cons_zero, List.set_cons_succ]
                    refine take_yes (i := 12) (oi := ?o20) (d := (some 100)) (v := ?v20) ?hi20 (by kernel_rfl) (by kernel_rfl) (by kernel_rfl) (fun _ _ _ h => h) ?hd20 ?hw20 ?hy20 (by assumption) ?_
                    case hi20 => (simp only [List.getElem?_toArray, List.getElem?_cons_zero, List.getElem?_cons_succ]; exact rfl)
                    case hd20 => rfl
                    case hw20 => rfl
                    case hy20 => (intro w hSw; (try dsimp only at hSw); go_simp; try with_reducible rfl)
                    try simp only [Act.put, List.setIfInBounds_toArray, List.set_cons_zero, List.set_cons_succ]
                    refine take_yes (i := 13) (oi := ?o21) (d := (some 101)) (v := ?v21) ?hi21 (by kernel_rfl) (by kernel_rfl) (by kernel_rfl) (fun _ _ _ h => h) ?hd21 ?hw21 ?hy21 (by assumption) ?_
                    case hi21 => (simp only [List.getElem?_toArray, List.getElem?_cons_zero, List.getElem?_cons_succ]; exact rfl)
                    case hd21 => rfl
                    case hw21 => rfl
                    case hy21 => (intro w hSw; (try dsimp only at hSw); go_simp; try with_reducible rfl)
                    try simp only [Act.put, List.setIfInBounds_toArray, List.set_cons_zero, List.set_cons_succ]
                    refine take_yes (i := 14) (oi := ?o22) (d := (some 102)) (v := ?v22) ?hi22 (by kernel_rfl) (by kernel_rfl) (by kernel_rfl) (fun _ _ _ h => h) ?hd22 ?hw22 ?hy22 (by assumption) ?_
                    case hi22 => (simp only [List.getElem?_toArray, List.getElem?_cons_zero, List.getElem?_cons_succ]; exact rfl)
                    case hd22 => rfl
                    case hw22 => rfl
                    case hy22 => (intro w hSw; (try dsimp only at hSw); go_simp; try with_reducible rfl)
                    try simp only [Act.put, List.setIfInBounds_toArray, List.set_cons_zero, List.set_cons_succ]
                    refine take_yes (i := 15) (oi := ?o23) (d := (some 103)) (v := ?v23) ?hi23 (by kernel_rfl) (by kernel_rfl) (by kernel_rfl) (fun _ _ _ h => h) ?hd23 ?hw23 ?hy23 (by assumption) ?_
                    case hi23 => (simp only [List.getElem?_toArray, List.getElem?_cons_zero, List.getElem?_cons_succ]; exact rfl)
                    case hd23 => rfl
                    case hw23 => rfl
                    case hy23 => (intro w hSw; (try dsimp only at hSw); go_simp; try with_reducible rfl)
                    try simp only [Act.put, List.setIfInBounds_toArray, List.set_cons_zero, List.set_cons_succ]
                    refine take_yes (i := 16) (oi := ?o24) (d := (some 104)) (v := ?v24) ?hi24 (by kernel_rfl) (by kernel_rfl) (by kernel_rfl) (fun _ _ _ h => h) ?hd24 ?hw24 ?hy24 (by assumption) ?_
                    case hi24 => (simp only [List.getElem?_toArray, List.getElem?_cons_zero, List.getElem?_cons_succ]; exact rfl)
                    case hd24 => rfl
                    case hw24 => rfl
                    case hy24 => (intro w hSw; (try dsimp only at hSw); go_simp; try with_reducible rfl)
                    try simp only [Act.put, List.setIfInBounds_toArray, List.set_cons_zero, List.set_cons_succ]
                    refine take_yes (i := 17) (oi := ?o25) (d := (some 105)) (v := ?v25) ?hi25 (by kernel_rfl) (by kernel_rfl) (by kernel_rfl) (fun _ _ _ h => h) ?hd25 ?hw25 ?hy25 (by assumption) ?_
                    case hi25 => (simp only [List.getElem?_toArray, List.getElem?_cons_zero, List.getElem?_cons_succ]; exact rfl)
                    case hd25 => rfl
                    case hw25 => rfl
                    case hy25 => (intro w hSw; (try dsimp only at hSw); go_simp; try with_reducible rfl)
                    try simp only [Act.put, List.setIfInBounds_toArray, List.set_cons_zero, List.set_cons_succ]
                    refine take_yes (i := 18) (oi := ?o26) (d := (some 106)) (v := ?v26) ?hi26 (by kernel_rfl) (by kernel_rfl) (by kernel_rfl) (fun _ _ _ h => h) ?hd26 ?hw26 ?hy26 (by assumption) ?_
                    case hi26 => (simp only [List.getElem?_toArray, List.getElem?_cons_zero, List.getElem?_cons_succ]; exact rfl)
                    case hd26 => rfl
                    case hw26 => rfl
                    case hy26 => (intro w hSw; (try dsimp only at hSw); go_simp; try with_reducible rfl)
                    try simp only [Act.put, List.setIfInBounds_toArray, List.set_cons_zero, List.set_cons_succ]
                    refine take_yes (i := 19) (oi := ?o27) (d := (some 107)) (v := ?v27) ?hi27 (by kernel_rfl) (by kernel_rfl) (by kernel_rfl) (fun _ _ _ h => h) ?hd27 ?hw27 ?hy27 (by assumption) ?_
                    case hi27 => (simp only [List.getElem?_toArray, List.getElem?_cons_zero, List.getElem?_cons_succ]; exact rfl)
                    case hd27 => rfl
                    case hw27 => rfl
                    case hy27 => (intro w hSw; (try dsimp only at hSw); go_simp; try with_reducible rfl)
                    try simp only [Act.put, List.setIfInBounds_toArray, List.set_cons_zero, List.set_cons_succ]
                    refine take_yes (i := 20) (oi := ?o28) (d := (some 108)) (v := ?v28) ?hi28 (by kernel_rfl) (by kernel_rfl) (by kernel_rfl) (fun _ _ _ h => h) ?hd28 ?hw28 ?hy28 (by assumption) ?_
                    case hi28 => (simp only [List.getElem?_toArray, List.getElem?_cons_zero, List.getElem?_cons_succ]; exact rfl)
                    case hd28 => rfl
                    case hw28 => rfl
                    case hy28 => (intro w hSw; (try dsimp only at hSw); go_simp; try with_reducible rfl)
                    try simp only [Act.put, List.setIfInBounds_toArray, List.set_cons_zero, List.set_cons_succ]
                    refine take_yes (i := 21) (oi := ?o29) (d := (some 109)) (v := ?v29) ?hi29 (by kernel_rfl) (by kernel_rfl) (by kernel_rfl) (fun _ _ _ h => h) ?hd29 ?hw29 ?hy29 (by assumption) ?_
                    case hi29 => (simp only [List.getElem?_toArray, List.getElem?_cons_zero, List.getElem?_cons_succ]; exact rfl)
                    case hd29 => rfl
                    case hw29 => rfl
                    case hy29 => (intro w hSw; (try dsimp only at hSw); go_simp; try with_reducible rfl)
                    try simp only [Act.put, List.setIfInBounds_toArray, List.set_cons_zero, List.set_cons_succ]
                    refine take_yes (i := 22) (oi := ?o30) (d := (some 110)) (v := ?v30) ?hi30 (by kernel_rfl) (by kernel_rfl) (by kernel_rfl) (fun _ _ _ h => h) ?hd30 ?hw30 ?hy30 (by assumption) ?_
                    case hi30 => (simp only [List.getElem?_toArray, List.getElem?_cons_zero, List.getElem?_cons_succ]; exact rfl)
                    case hd30 => rfl
                    case hw30 => rfl
                    case hy30 => (intro w hSw; (try dsimp only at hSw); go_simp; try with_reducible rfl)
                    try simp only [Act.put, List.setIfInBounds_toArray, List.set_cons_zero, List.set_cons_succ]
                    refine take_yes (i := 23) (oi := ?o31) (d := (some 111)) (v := ?v31) ?hi31 (by kernel_rfl) (by kernel_rfl) (by kernel_rfl) (fun _ _ _ h => h) ?hd31 ?hw31 ?hy31 (by assumption) ?_
                    case hi31 => (simp only [List.getElem?_toArray, List.getElem?_cons_zero, List.getElem?_cons_succ]; exact rfl)
                    case hd31 => rfl
                    case hw31 => rfl
                    case hy31 => (intro w hSw; (try dsimp only at hSw); go_simp; try with_reducible rfl)
                    try simp only [Act.put, List.setIfInBounds_toArray, List.set_cons_zero, List.set_cons_succ]
                    refine take_yes (i := 24) (oi := ?o32) (d := (some 112)) (v := ?v32) ?hi32 (by kernel_rfl) (by kernel_rfl) (by kernel_rfl) (fun _ _ _ h => h) ?hd32 ?hw32 ?hy32 (by assumption) ?_
                    case hi32 => (simp only [List.getElem?_toArray, List.getElem?_cons_zero, List.getElem?_cons_succ]; exact rfl)
                    case hd32 => rfl
                    case hw32 => rfl
                    case hy32 => (intro w hSw; (try dsimp only at hSw); go_simp; try with_reducible rfl)
                    try simp only [Act.put, List.setIfInBounds_toArray, List.set_cons_zero, List.set_cons_succ]
                    refine take_yes (i := 25) (oi := ?o33) (d := (some 113)) (v := ?v33) ?hi33 (by kernel_rfl) (by kernel_rfl) (by kernel_rfl) (fun _ _ _ h => h) ?hd33 ?hw33 ?hy33 (by assumption) ?_
                    case hi33 => (simp only [List.getElem?_toArray, List.getElem?_cons_zero, List.getElem?_cons_succ]; exact rfl)
                    case hd33 => rfl
                    case hw33 => rfl
                    case hy33 => (intro w hSw; (try dsimp only at hSw); go_simp; try with_reducible rfl)
                    try simp only [Act.put, List.setIfInBounds_toArray, List.set_cons_zero, List.set_cons_succ]
                    refine take_yes (i := 26) (oi := ?o34) (d := (some 114)) (v := ?v34) ?hi34 (by kernel_rfl) (by kernel_rfl) (by kernel_rfl) (fun _ _ _ h => h) ?hd34 ?hw34 ?hy34 (by assumption) ?_
                    case hi34 => (simp only [List.getElem?_toArray, List.getElem?_cons_zero, List.getElem?_cons_succ]; exact rfl)
                    case hd34 => rfl
                    case hw34 => rfl
                    case hy34 => (intro w hSw; (try dsimp only at hSw); go_simp; try with_reducible rfl)
                    try simp only [Act.put, List.setIfInBounds_toArray, List.set_cons_zero, List.set_cons_succ]
                    refine take_yes (i := 27) (oi := ?o35) (d := (some 115)) (v := ?v35) ?hi35 (by kernel_rfl) (by kernel_rfl) (by kernel_rfl) (fun _ _ _ h => h) ?hd35 ?hw35 ?hy35 (by assumption) ?_
                    case hi35 => (simp only [List.getElem?_toArray, List.getElem?_cons_zero, List.getElem?_cons_succ]; exact rfl)
                    case hd35 => rfl
                    case hw35 => rfl
                    case hy35 => (intro w hSw; (try dsimp only at hSw); go_simp; try with_reducible rfl)
                    try simp only [Act.put, List.setIfInBounds_toArray, List.set_cons_zero, List.set_cons_succ]
                    refine take_yes (i := 28) (oi := ?o36) (d := (some 116)) (v := ?v36) ?hi36 (by kernel_rfl) (by kernel_rfl) (by kernel_rfl) (fun _ _ _ h => h) ?hd36 ?hw36 ?hy36 (by assumption) ?_
                    case hi36 => (simp only [List.getElem?_toArray, List.getElem?_cons_zero, List.getElem?_cons_succ]; exact rfl)
                    case hd36 => rfl
                    case hw36 => rfl
                    case hy36 => (intro w hSw; (try dsimp only at hSw); go_simp; try with_reducible rfl)
                    try simp only [Act.put, List.setIfInBounds_toArray, List.set_cons_zero, List.set_cons_succ]
                    refine take_yes (i := 29) (oi := ?o37) (d := (some 117)) (v := ?v37) ?hi37 (by kernel_rfl) (by kernel_rfl) (by kernel_rfl) (fun _ _ _ h => h) ?hd37 ?hw37 ?hy37 (by assumption) ?_
                    case hi37 => (simp only [List.getElem?_toArray, List.getElem?_cons_zero, List.getElem?_cons_succ]; exact rfl)
                    case hd37 => rfl
                    case hw37 => rfl
                    case hy37 => (intro w hSw; (try dsimp only at hSw); go_simp; try with_reducible rfl)
                    try simp only [Act.put, List.setIfInBounds_toArray, List.set_cons_zero, List.set_cons_succ]
                    refine wpAnyH_ready (rs := [30]) (by kernel_rfl) (by simp) ?_
                    refine AllReadyH.cons rfl (fun K hK => ?_) AllReadyH.nil
                    go_simp
                    (go_at_call 11; refine (HMS.out _).mono ?_; rintro e w30 ⟨rfl, hb30⟩; have hbz30 := ext_trans hHeld9.2.2.2.2 hb30)
                    go_wp2_with fail
                    refine hK.out _ _ (by exact HCS _ (by assumption)) (fun hHeld30 => ?_)
                    clear hK K
                    try simp only [Act.put, List.setIfInBounds_toArray, List.set_cons_zero, List.set_cons_succ]
                    refine take_yes (i := 31) (oi := ?o38) (d := (some 119)) (v := ?v38) ?hi38 (by kernel_rfl) (by kernel_rfl) (by kernel_rfl) (fun _ _ _ h => h) ?hd38 ?hw38 ?hy38 (by assumption) ?_
                    case hi38 => (simp only [List.getElem?_toArray, List.getElem?_cons_zero, List.getElem?_cons_succ]; exact rfl)
                    case hd38 => rfl
                    case hw38 => rfl
                    case hy38 => (intro w hSw; (try dsimp only at hSw); go_simp; try with_reducible rfl)
                    try simp only [Act.put, List.setIfInBounds_toArray, List.set_cons_zero, List.set_cons_succ]
                    refine take_yes (i := 32) (oi := ?o39) (d := (some 120)) (v := ?v39) ?hi39 (by kernel_rfl) (by kernel_rfl) (by kernel_rfl) (fun _ _ _ h => h) ?hd39 ?hw39 ?hy39 (by assumption) ?_
                    case hi39 => (simp only [List.getElem?_toArray, List.getElem?_cons_zero, List.getElem?_cons_succ]; exact rfl)
                    case hd39 => rfl
                    case hw39 => rfl
                    case hy39 => (intro w hSw; (try dsimp only at hSw); go_simp; try with_reducible rfl)
                    try simp only [Act.put, List.setIfInBounds_toArray, List.set_cons_zero, List.set_cons_succ]
                    refine take_yes (i := 33) (oi := ?o40) (d := (some 121)) (v := ?v40) ?hi40 (by kernel_rfl) (by kernel_rfl) (by kernel_rfl) (fun _ _ _ h => h) ?hd40 ?hw40 ?hy40 (by assumption) ?_
                    case hi40 => (simp only [List.getElem?_toArray, List.getElem?_cons_zero, List.getElem?_cons_succ]; exact rfl)
                    case hd40 => rfl
                    case hw40 => rfl
                    case hy40 => (intro w hSw; (try dsimp only at hSw); go_simp; try with_reducible rfl)
                    try simp only [Act.put, List.setIfInBounds_toArray, List.set_cons_zero, List.set_cons_succ]
                    refine take_yes (i := 34) (oi := ?o41) (d := (some 122)) (v := ?v41) ?hi41 (by kernel_rfl) (by kernel_rfl) (by kernel_rfl) (fun _ _ _ h => h) ?hd41 ?hw41 ?hy41 (by assumption) ?_
                    case hi41 => (simp only [List.getElem?_toArray, List.getElem?_cons_zero, List.getElem?_cons_succ]; exact rfl)
                    case hd41 => rfl
                    case hw41 => rfl
                    case hy41 => (intro w hSw; (try dsimp only at hSw); go_simp; try with_reducible rfl)
                    try simp only [Act.put, List.setIfInBounds_toArray, List.set_cons_zero, List.set_cons_succ]
                    refine wpAnyH_done (by kernel_rfl) ?_ _
                    go_wp2_with fail
                    go_roundw
                    case rel => exact ⟨i + 1, by omega, by go_num, HINV6.out.below HE.out hHeld30.2.2.2.2⟩
                    case measure => simp [intOf]; omega
                  · rw [hM] at z3
                    have HCS : (∀ w', Below wr.heap.size wr w' → ((fun w' => w'.cell? ⟨gsb, q, none⟩ = some (.slice (some ⟨g, 0, none⟩) (N q + 64) c) ∧ w'.cell? ⟨hd, q, none⟩ = some (.slice (AH q) (N q) (C q)) ∧ w'.cell? ⟨g, i, none⟩ = some (.int .u8 M) ∧ Below wr.heap.size wr w') w')) := fun w' hb => ⟨cell_lift z1 hb, cell_lift z2 hb, cell_lift z3 hb, hb⟩
                    have hi7 : ¬ (i : Int) < (N q : Int) := by omega
                    have HINV6 := Lib.hid hinv
                    clear hinv hms hM
                    go_wp2_with fail
                    refine wp_region_held_drew (S := (fun w' => w'.cell? ⟨gsb, q, none⟩ = some (.slice (some ⟨g, 0, none⟩) (N q + 64) c) ∧ w'.cell? ⟨hd, q, none⟩ = some (.slice (AH q) (N q) (C q)) ∧ w'.cell? ⟨g, i, none⟩ = some (.int .u8 M) ∧ Below wr.heap.size wr w')) (by kernel_rfl) (by exact HCS _ (ext_drew (Below.refl _ _))) (fun hHeld => ?_)
                    refine take_yes (i := 0) (oi := ?o42) (d := (some 88)) (v := ?v42) ?hi42 (by kernel_rfl) (by kernel_rfl) (by kernel_rfl) (fun _ _ _ h => h) ?hd42 ?hw42 ?hy42 (by assumption) ?_
                    case hi42 => (simp only [List.getElem?_toArray, List.getElem?_cons_zero]; exact rfl)
                    case hd42 => rfl
                    case hw42 => rfl
                    case hy42 => (intro w hSw; (try dsimp only at hSw); go_simp; try with_reducible rfl)
                    try simp only [Act.put, List.setIfInBounds_toArray, List.set_cons_zero, List.set_cons_succ]
                    refine take_yes (i := 1) (oi := ?o43) (d := (some 89)) (v := ?v43) ?hi43 (by kernel_rfl) (by kernel_rfl) (by kernel_rfl) (fun _ _ _ h => h) ?hd43 ?hw43 ?hy43 (by assumption) ?_
                    case hi43 => (simp only [List.getElem?_toArray, List.getElem?_cons_zero, List.getElem?_cons_succ]; exact rfl)
                    case hd43 => rfl
                    case hw43 => rfl
                    case hy43 => (intro w hSw; (try dsimp only at hSw); go_simp; try with_reducible rfl)
                    try simp only [Act.put, List.setIfInBounds_toArray, List.set_cons_zero, List.set_cons_succ]
                    refine take_yes (i := 2) (oi := ?o44) (d := (some 90)) (v := ?v44) ?hi44 (by kernel_rfl) (by kernel_rfl) (by kernel_rfl) (fun _ _ _ h => h) ?hd44 ?hw44 ?hy44 (by assumption) ?_
                    case hi44 => (simp only [List.getElem?_toArray, List.getElem?_cons_zero, List.getElem?_cons_succ]; exact rfl)
                    case hd44 => rfl
                    case hw44 => rfl
                    case hy44 => (intro w hSw; (try dsimp only at hSw); go_simp; try with_reducible rfl)
                    try simp only [Act.put, List.setIfInBounds_toArray, List.set_cons_zero, List.set_cons_succ]
                    refine take_yes (i := 3) (oi := ?o45) (d := (some 91)) (v := ?v45) ?hi45 (by kernel_rfl) (by kernel_rfl) (by kernel_rfl) (fun _ _ _ h => h) ?hd45 ?hw45 ?hy45 (by assumption) ?_
                    case hi45 => (simp only [List.getElem?_toArray, List.getElem?_cons_zero, List.getElem?_cons_succ]; exact rfl)
                    case hd45 => rfl
                    case hw45 => rfl
                    case hy45 => (intro w hSw; (try dsimp only at hSw); go_simp; try with_reducible rfl)
                    try simp only [Act.put, List.setIfInBounds_toArray, List.set_cons_zero, List.set_cons_succ]
                    refine take_yes (i := 4) (oi := ?o46) (d := (some 92)) (v := ?v46) ?hi46 (by kernel_rfl) (by kernel_rfl) (by kernel_rfl) (fun _ _ _ h => h) ?hd46 ?hw46 ?hy46 (by assumption) ?_
                    case hi46 => (simp only [List.getElem?_toArray, List.getElem?_cons_zero, List.getElem?_cons_succ]; exact rfl)
                    case hd46 => rfl
                    case hw46 => rfl
                    case hy46 => (intro w hSw; (try dsimp only at hSw); go_simp; try with_reducible rfl)
                    try simp only [Act.put, List.setIfInBounds_toArray, List.set_cons_zero, List.set_cons_succ]
                    refine take_yes (i := 5) (oi := ?o47) (d := (some 93)) (v := ?v47) ?hi47 (by kernel_rfl) (by kernel_rfl) (by kernel_rfl) (fun _ _ _ h => h) ?hd47 ?hw47 ?hy47 (by assumption) ?_
                    case hi47 => (simp only [List.getElem?_toArray, List.getElem?_cons_zero, List.getElem?_cons_succ]; exact rfl)
                    case hd47 => rfl
                    case hw47 => rfl
                    case hy47 => (intro w hSw; (try dsimp only at hSw); go_simp; try with_reducible rfl)
                    try simp only [Act.put, List.setIfInBounds_toArray, List.set_cons_zero, List.set_cons_succ]
                    refine take_yes (i := 6) (oi := ?o48) (d := (some 94)) (v := ?v48) ?hi48 (by kernel_rfl) (by kernel_rfl) (by kernel_rfl) (fun _ _ _ h => h) ?hd48 ?hw48 ?hy48 (by assumption) ?_
                    case hi48 => (simp only [List.getElem?_toArray, List.getElem?_cons_zero, List.getElem?_cons_succ]; exact rfl)
                    case hd48 => rfl
                    case hw48 => rfl
                    case hy48 => (intro w hSw; (try dsimp only at hSw); go_simp; try with_reducible rfl)
                    try simp only [Act.put, List.setIfInBounds_toArray, List.set_cons_zero, List.set_cons_succ]
                    refine take_yes (i := 7) (oi := ?o49) (d := (some 95)) (v := ?v49) ?hi49 (by kernel_rfl) (by kernel_rfl) (by kernel_rfl) (fun _ _ _ h => h) ?hd49 ?hw49 ?hy49 (by assumption) ?_
                    case hi49 => (simp only [List.getElem?_toArray, List.getElem?_cons_zero, List.getElem?_cons_succ]; exact rfl)
                    case hd49 => rfl
                    case hw49 => rfl
                    case hy49 => (intro w hSw; (try dsimp only at hSw); go_simp; try with_reducible rfl)
                    try simp only [Act.put, List.setIfInBounds_toArray, List.set_cons_zero, List.set_cons_succ]
                    refine take_yes (i := 8) (oi := ?o50) (d := (some 96)) (v := ?v50) ?hi50 (by kernel_rfl) (by kernel_rfl) (by kernel_rfl) (fun _ _ _ h => h) ?hd50 ?hw50 ?hy50 (by assumption) ?_
                    case hi50 => (simp only [List.getElem?_toArray, List.getElem?_cons_zero, List.getElem?_cons_succ]; exact rfl)
                    case hd50 => rfl
                    case hw50 => rfl
                    case hy50 => (intro w hSw; (try dsimp only at hSw); go_simp; try with_reducible rfl)
                    try simp only [Act.put, List.setIfInBounds_toArray, List.set_cons_zero, List.set_cons_succ]
                    refine wpAnyH_ready (rs := [9]) (by kernel_rfl) (by simp) ?_
                    refine AllReadyH.cons rfl (fun K hK => ?_) AllReadyH.nil
                    go_simp
                    (go_at_call 11; refine (HMS.out _).mono ?_; rintro e w9 ⟨rfl, hb9⟩; have hbz9 := ext_trans hHeld.2.2.2 hb9)
                    go_wp2_with fail
                    refine hK.out _ _ (by exact HCS _ (by assumption)) (fun hHeld9 => ?_)
                    clear hK K
                    try simp only [Act.put, List.setIfInBounds_toArray, List.set_cons_zero, List.set_cons_succ]
                    refine take_yes (i := 10) (oi := ?o51) (d := (some 98)) (v := ?v51) ?hi51 (by kernel_rfl) (by kernel_rfl) (by kernel_rfl) (fun _ _ _ h => h) ?hd51 ?hw51 ?hy51 (by assumption) ?_
                    case hi51 => (simp only [List.getElem?_toArray, List.getElem?_cons_zero, List.getElem?_cons_succ]; exact rfl)
                    case hd51 => rfl
                    case hw51 => rfl
                    case hy51 => (intro w hSw; (try dsimp only at hSw); go_simp; try with_reducible rfl)
                    try simp only [Act.put, List.setIfInBounds_toArray, List.set_cons_zero, List.set_cons_succ]
                    refine take_yes (i := 11) (oi := ?o52) (d := (some 99)) (v := ?v52) ?hi52 (by kernel_rfl) (by kernel_rfl) (by kernel_rfl) (fun _ _ _ h => h) ?hd52 ?hw52 ?hy52 (by assumption) ?_
                    case hi52 => (simp only [List.getElem?_toArray, List.getElem?_cons_zero, List.getElem?_cons_succ]; exact rfl)
                    case hd52 => rfl
                    case hw52 => rfl
                    case hy52 => (intro w hSw; (try dsimp only at hSw); go_simp; try with_reducible rfl)
                    try simp only [Act.put, List.setIfInBounds_toArray, List.set_cons_zero, List.set_cons_succ]
                    refine take_yes (i := 12) (oi := ?o53) (d := (some 100)) (v := ?v53) ?hi53 (by kernel_rfl) (by kernel_rfl) (by kernel_rfl) (fun _ _ _ h => h) ?hd53 ?hw53 ?hy53 (by assumption) ?_
                    case hi53 => (simp only [List.getElem?_toArray, List.getElem?_cons_zero, List.getElem?_cons_succ]; exact rfl)
                    case hd53 => rfl
                    case hw53 => rfl
                    case hy53 => (intro w hSw; (try dsimp only at hSw); go_simp; try with_reducible rfl)
                    try simp only [Act.put, List.setIfInBounds_toArray, List.set_cons_zero, List.set_cons_succ]
                    refine take_yes (i := 13) (oi := ?o54) (d := (some 101)) (v := ?v54) ?hi54 (by kernel_rfl) (by kernel_rfl) (by kernel_rfl) (fun _ _ _ h => h) ?hd54 ?hw54 ?hy54 (by assumption) ?_
                    case hi54 => (simp only [List.getElem?_toArray, List.getElem?_cons_zero, List.getElem?_cons_succ]; exact rfl)
                    case hd54 => rfl
                    case hw54 => rfl
                    case hy54 => (intro w hSw; (try dsimp only at hSw); go_simp; try with_reducible rfl)
                    try simp only [Act.put, List.setIfInBounds_toArray, List.set_cons_zero, List.set_cons_succ]
                    refine take_yes (i := 14) (oi := ?o55) (d := (some 102)) (v := ?v55) ?hi55 (by kernel_rfl) (by kernel_rfl) (by kernel_rfl) (fun _ _ _ h => h) ?hd55 ?hw55 ?hy55 (by assumption) ?_
                    case hi55 => (simp only [List.getElem?_toArray, List.getElem?_cons_zero, List.getElem?_cons_succ]; exact rfl)
                    case hd55 => rfl
                    case hw55 => rfl
                    case hy55 => (intro w hSw; (try dsimp only at hSw); go_simp; try with_reducible rfl)
                    try simp only [Act.put, List.setIfInBounds_toArray, List.set_cons_zero, List.set_cons_succ]
                    refine take_yes (i := 15) (oi := ?o56) (d := (some 103)) (v := ?v56) ?hi56 (by kernel_rfl) (by kernel_rfl) (by kernel_rfl) (fun _ _ _ h => h) ?hd56 ?hw56 ?hy56 (by assumption) ?_
                    case hi56 => (simp only [List.getElem?_toArray, List.getElem?_cons_zero, List.getElem?_cons_succ]; exact rfl)
                    case hd56 => rfl
                    case hw56 => rfl
                    case hy56 => (intro w hSw; (try dsimp only at hSw); go_simp; try with_reducible rfl)
                    try simp only [Act.put, List.setIfInBounds_toArray, List.set_cons_zero, List.set_cons_succ]
                    refine take_yes (i := 16) (oi := ?o57) (d := (some 104)) (v := ?v57) ?hi57 (by kernel_rfl) (by kernel_rfl) (by kernel_rfl) (fun _ _ _ h => h) ?hd57 ?hw57 ?hy57 (by assumption) ?_
                    case hi57 => (simp only [List.getElem?_toArray, List.getElem?_cons_zero, List.getElem?_cons_succ]; exact rfl)
                    case hd57 => rfl
                    case hw57 => rfl
                    case hy57 => (intro w hSw; (try dsimp only at hSw); go_simp; try with_reducible rfl)
                    try simp only [Act.put, List.setIfInBounds_toArray, List.set_cons_zero, List.set_cons_succ]
                    refine take_yes (i := 17) (oi := ?o58) (d := (some 105)) (v := ?v58) ?hi58 (by kernel_rfl) (by kernel_rfl) (by kernel_rfl) (fun _ _ _ h => h) ?hd58 ?hw58 ?hy58 (by assumption) ?_
                    case hi58 => (simp only [List.getElem?_toArray, List.getElem?_cons_zero, List.getElem?_cons_succ]; exact rfl)
                    case hd58 => rfl
                    case hw58 => rfl
                    case hy58 => (intro w hSw; (try dsimp only at hSw); go_simp; try with_reducible rfl)
                    try simp only [Act.put, List.setIfInBounds_toArray, List.set_cons_zero, List.set_cons_succ]
                    refine take_yes (i := 18) (oi := ?o59) (d := (some 106)) (v := ?v59) ?hi59 (by kernel_rfl) (by kernel_rfl) (by kernel_rfl) (fun _ _ _ h => h) ?hd59 ?hw59 ?hy59 (by assumption) ?_
                    case hi59 => (simp only [List.getElem?_toArray, List.getElem?_cons_zero, List.getElem?_cons_succ]; exact rfl)
                    case hd59 => rfl
                    case hw59 => rfl
                    case hy59 => (intro w hSw; (try dsimp only at hSw); go_simp; try with_reducible rfl)
                    try simp only [Act.put, List.setIfInBounds_toArray, List.set_cons_zero, List.set_cons_succ]
                    refine take_yes (i := 19) (oi := ?o60) (d := (some 107)) (v := ?v60) ?hi60 (by kernel_rfl) (by kernel_rfl) (by kernel_rfl) (fun _ _ _ h => h) ?hd60 ?hw60 ?hy60 (by assumption) ?_
                    case hi60 => (simp only [List.getElem?_toArray, List.getElem?_cons_zero, List.getElem?_cons_succ]; exact rfl)
                    case hd60 => rfl
                    case hw60 => rfl
                    case hy60 => (intro w hSw; (try dsimp only at hSw); go_simp; try with_reducible rfl)
                    try simp only [Act.put, List.setIfInBounds_toArray, List.set_cons_zero, List.set_cons_succ]
                    refine take_yes (i := 20) (oi := ?o61) (d := (some 108)) (v := ?v61) ?hi61 (by kernel_rfl) (by kernel_rfl) (by kernel_rfl) (fun _ _ _ h => h) ?hd61 ?hw61 ?hy61 (by assumption) ?_
                    case hi61 => (simp only [List.getElem?_toArray, List.getElem?_cons_zero, List.getElem?_cons_succ]; exact rfl)
                    case hd61 => rfl
                    case hw61 => rfl
                    case hy61 => (intro w hSw; (try dsimp only at hSw); go_simp; try with_reducible rfl)
                    try simp only [Act.put, List.setIfInBounds_toArray, List.set_cons_zero, List.set_cons_succ]
                    refine take_no (i := 21) (oi := ?o62) (d := (some 109)) ?hi62 (by kernel_rfl) (by kernel_rfl) (by kernel_rfl) (fun _ _ _ h => h) ?hd62 ?hw62 (by assumption) ?_
                    case hi62 => (simp only [List.getElem?_toArray, List.getElem?_cons_zero, List.getElem?_cons_succ]; exact rfl)
                    case hd62 => rfl
                    case hw62 => rfl
                    try simp only [Act.put, List.setIfInBounds_toArray, List.set_cons_zero, List.set_cons_succ]
                    refine take_no (i := 22) (oi := ?o63) (d := (some 110)) ?hi63 (by kernel_rfl) (by kernel_rfl) (by kernel_rfl) (fun _ _ _ h => h) ?hd63 ?hw63 (by assumption) ?_
                    case hi63 => (simp only [List.getElem?_toArray, List.getElem?_cons_zero, List.getElem?_cons_succ]; exact rfl)
                    case hd63 => rfl
                    case hw63 => rfl
                    try simp only [Act.put, List.setIfInBounds_toArray, List.set_cons_zero, List.set_cons_succ]
                    refine take_no (i := 23) (oi := ?o64) (d := (some 111)) ?hi64 (by kernel_rfl) (by kernel_rfl) (by kernel_rfl) (fun _ _ _ h => h) ?hd64 ?hw64 (by assumption) ?_
                    case hi64 => (simp only [List.getElem?_toArray, List.getElem?_cons_zero, List.getElem?_cons_succ]; exact rfl)
                    case hd64 => rfl
                    case hw64 => rfl
                    try simp only [Act.put, List.setIfInBounds_toArray, List.set_cons_zero, List.set_cons_succ]
                    refine take_no (i := 24) (oi := ?o65) (d := (some 112)) ?hi65 (by kernel_rfl) (by kernel_rfl) (by kernel_rfl) (fun _ _ _ h => h) ?hd65 ?hw65 (by assumption) ?_
                    case hi65 => (simp only [List.getElem?_toArray, List.getElem?_cons_zero, List.getElem?_cons_succ]; exact rfl)
                    case hd65 => rfl
                    case hw65 => rfl
                    try simp only [Act.put, List.setIfInBounds_toArray, List.set_cons_zero, List.set_cons_succ]
                    refine take_no (i := 25) (oi := ?o66) (d := (some 113)) ?hi66 (by kernel_rfl) (by kernel_rfl) (by kernel_rfl) (fun _ _ _ h => h) ?hd66 ?hw66 (by assumption) ?_
                    case hi66 => (simp only [List.getElem?_toArray, List.getElem?_cons_zero, List.getElem?_cons_succ]; exact rfl)
                    case hd66 => rfl
                    case hw66 => rfl
                    try simp only [Act.put, List.setIfInBounds_toArray, List.set_cons_zero, List.set_cons_succ]
                    refine take_no (i := 26) (oi := ?o67) (d := (some 114)) ?hi67 (by kernel_rfl) (by kernel_rfl) (by kernel_rfl) (fun _ _ _ h => h) ?hd67 ?hw67 (by assumption) ?_
                    case hi67 => (simp only [List.getElem?_toArray, List.getElem?_cons_zero, List.getElem?_cons_succ]; exact rfl)
                    case hd67 => rfl
                    case hw67 => rfl
                    try simp only [Act.put, List.setIfInBounds_toArray, List.set_cons_zero, List.set_cons_succ]
                    refine take_no (i := 27) (oi := ?o68) (d := (some 115)) ?hi68 (by kernel_rfl) (by kernel_rfl) (by kernel_rfl) (fun _ _ _ h => h) ?hd68 ?hw68 (by assumption) ?_
                    case hi68 => (simp only [List.getElem?_toArray, List.getElem?_cons_zero, List.getElem?_cons_succ]; exact rfl)
                    case hd68 => rfl
                    case hw68 => rfl
                    try simp only [Act.put, List.setIfInBounds_toArray, List.set_cons_zero, List.set_cons_succ]
                    refine take_no (i := 28) (oi := ?o69) (d := (some 116)) ?hi69 (by kernel_rfl) (by kernel_rfl) (by kernel_rfl) (fun _ _ _ h => h) ?hd69 ?hw69 (by assumption) ?_
                    case hi69 => (simp only [List.getElem?_toArray, List.getElem?_cons_zero, List.getElem?_cons_succ]; exact rfl)
                    case hd69 => rfl
                    case hw69 => rfl
                    try simp only [Act.put, List.setIfInBounds_toArray, List.set_cons_zero, List.set_cons_succ]
                    refine take_no (i := 29) (oi := ?o70) (d := (some 117)) ?hi70 (by kernel_rfl) (by kernel_rfl) (by kernel_rfl) (fun _ _ _ h => h) ?hd70 ?hw70 (by assumption) ?_
                    case hi70 => (simp only [List.getElem?_toArray, List.getElem?_cons_zero, List.getElem?_cons_succ]; exact rfl)
                    case hd70 => rfl
                    case hw70 => rfl
                    try simp only [Act.put, List.setIfInBounds_toArray, List.set_cons_zero, List.set_cons_succ]
                    refine take_no (i := 30) (oi := ?o71) (d := (some 118)) ?hi71 (by kernel_rfl) (by kernel_rfl) (by kernel_rfl) (fun _ _ _ h => h) ?hd71 ?hw71 (by assumption) ?_
                    case hi71 => (simp only [List.getElem?_toArray, List.getElem?_cons_zero, List.getElem?_cons_succ]; exact rfl)
                    case hd71 => rfl
                    case hw71 => rfl
                    try simp only [Act.put, List.setIfInBounds_toArray, List.set_cons_zero, List.set_cons_succ]
                    refine take_no (i := 31) (oi := ?o72) (d := (some 119)) ?hi72 (by kernel_rfl) (by kernel_rfl) (by kernel_rfl) (fun _ _ _ h => h) ?hd72 ?hw72 (by assumption) ?_
                    case hi72 => (simp only [List.getElem?_toArray, List.getElem?_cons_zero, List.getElem?_cons_succ]; exact rfl)
                    case hd72 => rfl
                    case hw72 => rfl
                    try simp only [Act.put, List.setIfInBounds_toArray, List.set_cons_zero, List.set_cons_succ]
                    refine take_no (i := 32) (oi := ?o73) (d := (some 120)) ?hi73 (by kernel_rfl) (by kernel_rfl) (by kernel_rfl) (fun _ _ _ h => h) ?hd73 ?hw73 (by assumption) ?_
                    case hi73 => (simp only [List.getElem?_toArray, List.getElem?_cons_zero, List.getElem?_cons_succ]; exact rfl)
                    case hd73 => rfl
                    case hw73 => rfl
                    try simp only [Act.put, List.setIfInBounds_toArray, List.set_cons_zero, List.set_cons_succ]
                    refine take_yes (i := 33) (oi := ?o74) (d := (some 121)) (v := ?v74) ?hi74 (by kernel_rfl) (by kernel_rfl) (by kernel_rfl) (fun _ _ _ h => h) ?hd74 ?hw74 ?hy74 (by assumption) ?_
                    case hi74 => (simp only [List.getElem?_toArray, List.getElem?_cons_zero, List.getElem?_cons_succ]; exact rfl)
                    case hd74 => rfl
                    case hw74 => rfl
                    case hy74 => (intro w hSw; (try dsimp only at hSw); go_simp; try with_reducible rfl)
                    try simp only [Act.put, List.setIfInBounds_toArray, List.set_cons_zero, List.set_cons_succ]
                    refine take_yes (i := 34) (oi := ?o75) (d := (some 122)) (v := ?v75) ?hi75 (by kernel_rfl) (by kernel_rfl) (by kernel_rfl) (fun _ _ _ h => h) ?hd75 ?hw75 ?hy75 (by assumption) ?_
                    case hi75 => (simp only [List.getElem?_toArray, List.getElem?_cons_zero, List.getElem?_cons_succ]; exact rfl)
                    case hd75 => rfl
                    case hw75 => rfl
                    case hy75 => (intro w hSw; (try dsimp only at hSw); go_simp; try with_reducible rfl)
                    try simp only [Act.put, List.setIfInBounds_toArray, List.set_cons_zero, List.set_cons_succ]
                    refine wpAnyH_done (by kernel_rfl) ?_ _
                    go_wp2_with fail
                    go_roundw
                    case rel => exact ⟨i + 1, by omega, by go_num, HINV6.out.below HE.out hHeld9.2.2.2⟩
                    case measure => simp [intOf]; omega
                · obtain rfl : i = N q + 64 := by omega
                  have HINV6 := Lib.hid hinv
                  clear hinv
                  go_wp2_with fail
                  go_roundw
                  case rel => exact ⟨q + 1, by omega, by go_num, HINV6.out⟩
                  case measure => simp [intOf]; omega
            · obtain rfl : q = j := by omega
              have HINV5 := Lib.hid hinv
              clear hinv
              have h70 : Inv 5 22 ElB q AD N C w top gsb cs 0 0 wr := ⟨HINV5.out.1, fun p hp => absurd hp (by omega), HINV5.out.2.2.1, HINV5.out.2.2.2⟩
              have H70 := Lib.hid h70
              clear h70
              go_wp2_with fail
              go_loopw [11] (fun p wr => ∃ (p' tp : Nat) (cs : Array Value), p' ≤ q ∧ p = .int .i64 p' ∧ cs.size = q ∧ gsb < tp ∧ w.heap.size ≤ tp ∧ Inv 5 22 ElB q AD N C w tp gsb cs p' 0 wr) (fun p _ => (q - intOf p).toNat)
              case atStart => exact ⟨0, top, cs, by omega, rfl, hcz, hgo, by omega, H70.out⟩
              case round =>
                clear H70 HINV5 HINV hcz hgo hlo
                obtain ⟨p, tp, cs, hp, rfl, hcz, hgo, hwtp, hinv⟩ := hrel
                by_cases h7 : p < q
                · obtain ⟨hn1, hn2⟩ := hN p h7
                  have hp1 : (p : Int) < (q : Int) := by omega
                  have HI7 := Lib.hid hinv
                  have htpl := hinv.2.2.2.2
                  clear hinv
                  go_wp2_with (refine wpList_make_full _ rfl _ _ 22 rfl wr.heap.size 5 i0 (.int .u8 0) 1 Tryz.underlying22 hi hz0 hz1 .i64 .i64 _ _ 64 rfl rfl rfl rfl (by rw [hz2]; omega) (by unfold maxLen; omega) (Nat.le_refl _) ?_; intro w5 hown5 hg5; have HO5 := Lib.hid (many_made rfl hown5); have HG5 := Lib.hid hg5; clear hown5 hg5)
                  have h7b := HI7.out.below HE.out (grown_none HG5.out)
                  have H7B := Lib.hid h7b
                  obtain ⟨mb, hmb⟩ : ∃ mb, mb = wr.heap.size := ⟨_, rfl⟩
                  have HMB := Lib.hid hmb
                  have hmbt : tp ≤ mb := by omega
                  have HM5 : Many 5 w5 mb := by rw [hmb]; exact HO5.out
                  rw [← hmb]
                  have HMM := Lib.hid HM5
                  clear hmb HM5 h7b HO5 HG5 HI7
                  rename World => w5'
                  go_loopw [13] (fun i wi => ∃ i' : Nat, i' ≤ 64 ∧ i = .int .i64 i' ∧ Inv 5 22 ElB q AD N C w tp gsb cs p 0 wi ∧ Many 5 wi mb) (fun i _ => (64 - intOf i).toNat)
                  case atStart => exact ⟨0, by omega, rfl, H7B.out, HMM.out⟩
                  case round =>
                    clear H7B HMM
                    obtain ⟨i, hi8, rfl, hinv, hmany⟩ := hrel
                    have HI8 := Lib.hid hinv; have HMN := Lib.hid hmany
                    have hszi := hinv.2.2.2.2
                    have hmbl := hmany.lt
                    by_cases h8 : i < 64
                    · clear hinv hmany
                      go_wp2_with fail
                      refine (MarkByteE (p + q) i _ _ (by simp) rfl _).mono ?_
                      rintro e w4 ⟨rfl, hb4⟩
                      have HM4 := Lib.hid (HMN.out.keep hb4)
                      obtain ⟨⟨u0, y0⟩, m0⟩ := HM4.out.there (show i < 64 by omega)
                      have HI9 := Lib.hid (HI8.out.below HE.out hb4)
                      clear hb4
                      go_wp2_with fail
                      go_roundw
                      case rel =>
                        have hg1 : w4.grownBy (w4.setCell ⟨mb, i, none⟩ (.int .u8 (mkV (p + q) i))) (some mb) := (only_setCells mb [.int .u8 (mkV (p + q) i)] i w4).1
                        exact ⟨i + 1, by omega, by go_num, HI9.out.turn (ksB _ _) hg1 HGLT.out HNE.out h7 hgo hwtp (.inr hmbt), HM4.out.put i (.int .u8 (mkV (p + q) i)) rfl⟩
                      case measure => simp [intOf]; omega
                    · obtain rfl : i = 64 := by omega
                      have z2 : wr.cell? ⟨hd, p, none⟩ = some (.slice (AH p) (N p) (C p)) := HH.out.tch hinv.2.2.2.1 hdl HSH.out p h7
                      obtain ⟨news, hw1, hw2, hw3⟩ := hmany.list
                      have HW2 := Lib.hid hw2; have HW3 := Lib.hid hw3
                      have hcj : cs[p]? = some (cs[p]'(by omega)) := Array.getElem?_eq_getElem _
                      have HB7 := Lib.hid (show ∀ g, At AD p g → Blk 5 ElB wr g (C p) p (N p) from fun g h1 => hinv.2.2.1 p h7 g h1)
                      have hway : (N p = 0 ∧ C p = 0) ∨ ∃ g, AH p = some ⟨g, 0, none⟩ ∧ Blk 5 ElB wr g (C p) p (N p) ∧ (At AD p g ∨ wr.heap.size ≤ g) ∧ g < wr.heap.size := by
                        rcases HF.out p h7 with ⟨_, h1⟩ | ⟨g, h1, h1', _⟩
                        · exact .inl h1
                        · exact .inr ⟨g, h1', hinv.2.2.1 p h7 g h1, .inl h1, (hinv.2.2.1 p h7 g h1).lt⟩
                      obtain ⟨olds, ho1, ho4, ho2, ho3⟩ := GRow.olds (El := ElB) hn1 hway
                      have HO2 := Lib.hid ho2; have HO3 := Lib.hid ho3; have HO4 := Lib.hid ho4; have HWAY := Lib.hid hway
                      clear hw2 hw3 ho2 ho3 ho4 hinv hmany hway
                      by_cases hroom : N p + 64 ≤ C p
                      · obtain ⟨gp, hgp, hgp', hbp⟩ : ∃ g, At AD p g ∧ AH p = some ⟨g, 0, none⟩ ∧ Blk 5 ElB wr g (C p) p (N p) := by
                          rcases HF.out p h7 with ⟨_, _, h3⟩ | ⟨g, h1, h2, _⟩
                          · omega
                          · exact ⟨g, h1, h2, HB7.out g h1⟩
                        rw [hgp'] at z2
                        have hrb := hbp.room HE.out (o := N p * 1) news (by omega) (by omega)
                        obtain ⟨w6, hw6⟩ : ∃ x, wr.setCells gp (N p * 1) news = x := ⟨_, rfl⟩
                        rw [hw6] at hrb
                        have HW6 := Lib.hid hw6
                        clear hw6
                        have H10 := Lib.hid (HI8.out.turn (ksB _ _) hrb.2 HGLT.out HNE.out h7 hgo hwtp (.inl ⟨hgp, hrb.1⟩))
                        have HRB := Lib.hid hrb.1
                        have HBP := Lib.hid hbp; have HGP := Lib.hid hgp
                        have y0 := (H10.out.1.cell p).trans hcj
                        have m0 := H10.out.1.mark p
                        have HO2' := Lib.hid (fun j u hu => by have := HO2.out ⟨gp, 0, none⟩ hgp' j u hu; rwa [add_zero_off, ← Nat.zero_add j] at this : ∀ j u, olds[j]? = some u → wr.cell? ⟨gp, 0 + j, none⟩ = some u)
                        clear hrb hbp hgp hgp'
                        go_wp2_with (at_builtin; refine wpList_append_arg _ rfl (.tmp 148) (.tmp 149) 22 rfl 5 i0 (.int .u8 0) 1 1 Tryz.underlying22 hi hz0 hz1 hz2 rfl (by decide) gp 0 (N p) (C p) olds rfl ho1 HO2'.out ⟨mb, 0, none⟩ 64 64 news rfl hw1 HW2.out HW3.out (fun _ s hs => by have := HBP.out.there (j := 0 + N p * 1 + s) (by omega); exact ⟨by obtain ⟨u, hu⟩ := this.1; rw [hu]; rfl, this.2⟩) (by unfold maxLen; omega) (by omega) (fun _ => ?_) (fun hc => absurd hroom (by omega)); rw [Nat.zero_add, HW6.out])
                        go_roundw
                        case rel =>
                          have hn9 := H10.out.next HE.out HRB.out (.inl HGP.out) h7 hcz HGLT.out hgo hgw
                          exact ⟨p + 1, _, _, by omega, by go_num, by rw [Array.size_setIfInBounds]; exact hcz, hn9.1.lt, hn9.2.2.2.1.size, hn9⟩
                        case measure => simp [intOf]; omega
                      · go_wp2_with (at_builtin; refine wpList_append_grows _ rfl (.tmp 148) (.tmp 149) 22 rfl 5 i0 (.int .u8 0) 1 1 Tryz.underlying22 hi hz0 hz1 hz2 rfl (by decide) (AH p) (N p) (C p) olds rfl HO4.out ho1 HO2.out ⟨mb, 0, none⟩ 64 64 news rfl hw1 HW2.out HW3.out (by omega) (by unfold maxLen; omega) (by omega) (fun v6 w6 hown6 hg6 => ?_); obtain ⟨g6, c6, rfl, hb6, hn6, hl6⟩ := Blk.ofOwn (El := ElB) (q := p) (w := w6) (ksB _ _) hown6 (by omega) ho1 HO3.out; have HB6 := Lib.hid hb6; have H10 := Lib.hid (HI8.out.below HE.out (grown_none hg6)); have y0 := (H10.out.1.cell p).trans hcj; have m0 := H10.out.1.mark p; clear hown6 hg6 hb6)
                        go_roundw
                        case rel =>
                          have hn9 := H10.out.next HE.out HB6.out (.inr (by omega)) h7 hcz HGLT.out hgo hgw
                          exact ⟨p + 1, _, _, by omega, by go_num, by rw [Array.size_setIfInBounds]; exact hcz, hn9.1.lt, hn9.2.2.2.1.size, hn9⟩
                        case measure => simp [intOf]; omega
                · obtain rfl : p = q := by omega
                  have HI7 := Lib.hid hinv
                  clear hinv
                  go_wp2_with fail
                  go_loopw [14] (fun s wr => ∃ s' : Nat, s' ≤ p ∧ s = .int .i64 s' ∧ Inv 5 22 ElB p AD N C w tp gsb cs p 0 wr) (fun s _ => (p - intOf s).toNat)
                  case atStart => exact ⟨0, by omega, rfl, HI7.out⟩
                  case round =>
                    clear HI7
                    obtain ⟨q, hs, rfl, hinv⟩ := hrel
                    by_cases h9 : q < p
                    · obtain ⟨hn1, hn2⟩ := hN q h9
                      have hs1 : (q : Int) < (p : Int) := by omega
                      obtain ⟨g, c, hv, _⟩ := hinv.2.1 q h9
                      have z2 : wr.cell? ⟨hd, q, none⟩ = some (.slice (AH q) (N q) (C q)) := HH.out.tch hinv.2.2.2.1 hdl HSH.out q h9
                      have HV := Lib.hid hv
                      have HI9 := Lib.hid hinv
                      clear hinv hv
                      go_wp2_with fail
                      go_loopw [15] (fun i wi => ∃ i' : Nat, i' ≤ N q ∧ i = .int .i64 i' ∧ Inv 5 22 ElB p AD N C w tp gsb cs p 0 wi) (fun i _ => (N q - intOf i).toNat)
                      case atStart => exact ⟨0, by omega, rfl, HI9.out⟩
                      case round =>
                        clear HI9 z2
                        obtain ⟨i, hi9, rfl, hinv⟩ := hrel
                        have z1 : wr.cell? ⟨gsb, q, none⟩ = some (.slice (some ⟨g, 0, none⟩) (N q + 64) c) := (hinv.1.cell q).trans HV.out
                        have z2 : wr.cell? ⟨hd, q, none⟩ = some (.slice (AH q) (N q) (C q)) := HH.out.tch hinv.2.2.2.1 hdl HSH.out q h9
                        by_cases h10 : i < N q
                        · obtain ⟨gq, hgq, hgq'⟩ : ∃ g, At AD q g ∧ At AH q g := by
                            rcases HF.out q h9 with ⟨_, h3, _⟩ | ⟨g, h3, h4, _⟩
                            · omega
                            · exact ⟨g, h3, h4⟩
                          obtain ⟨_, z3, rfl⟩ := (hinv.row h9 HV.out).cell (show i < N q + 0 from h10)
                          obtain ⟨_, z5, rfl⟩ := (hinv.2.2.1 q h9 gq hgq).cell h10
                          rw [show AH q = some ⟨gq, 0, none⟩ from hgq'] at z2
                          have hi1 : (i : Int) < (N q : Int) := by omega
                          have hi2 : (i : Int) < (N q : Int) + 64 := by omega
                          have hi0 : (0 : Int) ≤ (i : Int) := by omega
                          obtain ⟨M, hM⟩ : ∃ M, mkV q i = M := ⟨_, rfl⟩
                          have hms : ∀ W : World, Calls Tryz.prog 11 #[.int .i64 q, .int .i64 i] W fun e w' => e = .returned (.int .u8 M) ∧ Below W.heap.size W w' := fun W => by rw [← hM]; exact MarkByte q i W
                          have HMS := Lib.hid hms
                          rw [hM] at z3 z5
                          have HCS : (∀ w', Below wr.heap.size wr w' → ((fun w' => w'.cell? ⟨gsb, q, none⟩ = some (.slice (some ⟨g, 0, none⟩) (N q + 64) c) ∧ w'.cell? ⟨hd, q, none⟩ = some (.slice (some ⟨gq, 0, none⟩) (N q) (C q)) ∧ w'.cell? ⟨g, i, none⟩ = some (.int .u8 M) ∧ w'.cell? ⟨gq, i, none⟩ = some (.int .u8 M) ∧ Below wr.heap.size wr w') w')) := fun w' hb => ⟨cell_lift z1 hb, cell_lift z2 hb, cell_lift z3 hb, cell_lift z5 hb, hb⟩
                          have HI10 := Lib.hid hinv
                          clear hinv hms hM hgq hgq'
                          go_wp2_with fail
                          refine wp_region_held_drew (S := (fun w' => w'.cell? ⟨gsb, q, none⟩ = some (.slice (some ⟨g, 0, none⟩) (N q + 64) c) ∧ w'.cell? ⟨hd, q, none⟩ = some (.slice (some ⟨gq, 0, none⟩) (N q) (C q)) ∧ w'.cell? ⟨g, i, none⟩ = some (.int .u8 M) ∧ w'.cell? ⟨gq, i, none⟩ = some (.int .u8 M) ∧ Below wr.heap.size wr w')) (by kernel_rfl) (by exact HCS _ (ext_drew (Below.refl _ _))) (fun hHeld => ?_)
                          refine take_yes (i := 0) (oi := ?o76) (d := (some 167)) (v := ?v76) ?hi76 (by kernel_rfl) (by kernel_rfl) (by kernel_rfl) (fun _ _ _ h => h) ?hd76 ?hw76 ?hy76 (by assumption) ?_
                          case hi76 => (simp only [List.getElem?_toArray, List.getElem?_cons_zero]; exact rfl)
                          case hd76 => rfl
                          case hw76 => rfl
                          case hy76 => (intro w hSw; (try dsimp only at hSw); go_simp; try with_reducible rfl)
                          try simp only [Act.put, List.setIfInBounds_toArray, List.set_cons_zero, List.set_cons_succ]
                          refine take_yes (i := 1) (oi := ?o77) (d := (some 168)) (v := ?v77) ?hi77 (by kernel_rfl) (by kernel_rfl) (by kernel_rfl) (fun _ _ _ h => h) ?hd77 ?hw77 ?hy77 (by assumption) ?_
                          case hi77 => (simp only [List.getElem?_toArray, List.getElem?_cons_zero, List.getElem?_cons_succ]; exact rfl)
                          case hd77 => rfl
                          case hw77 => rfl
                          case hy77 => (intro w hSw; (try dsimp only at hSw); go_simp; try with_reducible rfl)
                          try simp only [Act.put, List.setIfInBounds_toArray, List.set_cons_zero, List.set_cons_succ]
                          refine take_yes (i := 2) (oi := ?o78) (d := (some 169)) (v := ?v78) ?hi78 (by kernel_rfl) (by kernel_rfl) (by kernel_rfl) (fun _ _ _ h => h) ?hd78 ?hw78 ?hy78 (by assumption) ?_
                          case hi78 => (simp only [List.getElem?_toArray, List.getElem?_cons_zero, List.getElem?_cons_succ]; exact rfl)
                          case hd78 => rfl
                          case hw78 => rfl
                          case hy78 => (intro w hSw; (try dsimp only at hSw); go_simp; try with_reducible rfl)
                          try simp only [Act.put, List.setIfInBounds_toArray, List.set_cons_zero, List.set_cons_succ]
                          refine take_yes (i := 3) (oi := ?o79) (d := (some 170)) (v := ?v79) ?hi79 (by kernel_rfl) (by kernel_rfl) (by kernel_rfl) (fun _ _ _ h => h) ?hd79 ?hw79 ?hy79 (by assumption) ?_
                          case hi79 => (simp only [List.getElem?_toArray, List.getElem?_cons_zero, List.getElem?_cons_succ]; exact rfl)
                          case hd79 => rfl
                          case hw79 => rfl
                          case hy79 => (intro w hSw; (try dsimp only at hSw); go_simp; try with_reducible rfl)
                          try simp only [Act.put, List.setIfInBounds_toArray, List.set_cons_zero, List.set_cons_succ]
                          refine take_yes (i := 4) (oi := ?o80) (d := (some 171)) (v := ?v80) ?hi80 (by kernel_rfl) (by kernel_rfl) (by kernel_rfl) (fun _ _ _ h => h) ?hd80 ?hw80 ?hy80 (by assumption) ?_
                          case hi80 => (simp only [List.getElem?_toArray, List.getElem?_cons_zero, List.getElem?_cons_succ]; exact rfl)
                          case hd80 => rfl
                          case hw80 => rfl
                          case hy80 => (intro w hSw; (try dsimp only at hSw); go_simp; try with_reducible rfl)
                          try simp only [Act.put, List.setIfInBounds_toArray, List.set_cons_zero, List.set_cons_succ]
                          refine take_yes (i := 5) (oi := ?o81) (d := (some 172)) (v := ?v81) ?hi81 (by kernel_rfl) (by kernel_rfl) (by kernel_rfl) (fun _ _ _ h => h) ?hd81 ?hw81 ?hy81 (by assumption) ?_
                          case hi81 => (simp only [List.getElem?_toArray, List.getElem?_cons_zero, List.getElem?_cons_succ]; exact rfl)
                          case hd81 => rfl
                          case hw81 => rfl
                          case hy81 => (intro w hSw; (try dsimp only at hSw); go_simp; try with_reducible rfl)
                          try simp only [Act.put, List.setIfInBounds_toArray, List.set_cons_zero, List.set_cons_succ]
                          refine take_yes (i := 6) (oi := ?o82) (d := (some 173)) (v := ?v82) ?hi82 (by kernel_rfl) (by kernel_rfl) (by kernel_rfl) (fun _ _ _ h => h) ?hd82 ?hw82 ?hy82 (by assumption) ?_
                          case hi82 => (simp only [List.getElem?_toArray, List.getElem?_cons_zero, List.getElem?_cons_succ]; exact rfl)
                          case hd82 => rfl
                          case hw82 => rfl
                          case hy82 => (intro w hSw; (try dsimp only at hSw); go_simp; try with_reducible rfl)
                          try simp only [Act.put, List.setIfInBounds_toArray, List.set_cons_zero, List.set_cons_succ]
                          refine take_yes (i := 7) (oi := ?o83) (d := (some 174)) (v := ?v83) ?hi83 (by kernel_rfl) (by kernel_rfl) (by kernel_rfl) (fun _ _ _ h => h) ?hd83 ?hw83 ?hy83 (by assumption) ?_
                          case hi83 => (simp only [List.getElem?_toArray, List.getElem?_cons_zero, List.getElem?_cons_succ]; exact rfl)
                          case hd83 => rfl
                          case hw83 => rfl
                          case hy83 => (intro w hSw; (try dsimp only at hSw); go_simp; try with_reducible rfl)
                          try simp only [Act.put, List.setIfInBounds_toArray, List.set_cons_zero, List.set_cons_succ]
                          refine take_yes (i := 8) (oi := ?o84) (d := (some 175)) (v := ?v84) ?hi84 (by kernel_rfl) (by kernel_rfl) (by kernel_rfl) (fun _ _ _ h => h) ?hd84 ?hw84 ?hy84 (by assumption) ?_
                          case hi84 => (simp only [List.getElem?_toArray, List.getElem?_cons_zero, List.getElem?_cons_succ]; exact rfl)
                          case hd84 => rfl
                          case hw84 => rfl
                          case hy84 => (intro w hSw; (try dsimp only at hSw); go_simp; try with_reducible rfl)
                          try simp only [Act.put, List.setIfInBounds_toArray, List.set_cons_zero, List.set_cons_succ]
                          refine wpAnyH_ready (rs := [9]) (by kernel_rfl) (by simp) ?_
                          refine AllReadyH.cons rfl (fun K hK => ?_) AllReadyH.nil
                          go_simp
                          (go_at_call 11; refine (HMS.out _).mono ?_; rintro e w9 ⟨rfl, hb9⟩; have hbz9 := ext_trans hHeld.2.2.2.2 hb9)
                          go_wp2_with fail
                          refine hK.out _ _ (by exact HCS _ (by assumption)) (fun hHeld9 => ?_)
                          clear hK K
                          try simp only [Act.put, List.setIfInBounds_toArray, List.set_cons_zero, List.set_cons_succ]
                          refine take_yes (i := 10) (oi := ?o85) (d := (some 177)) (v := ?v85) ?hi85 (by kernel_rfl) (by kernel_rfl) (by kernel_rfl) (fun _ _ _ h => h) ?hd85 ?hw85 ?hy85 (by assumption) ?_
                          case hi85 => (simp only [List.getElem?_toArray, List.getElem?_cons_zero, List.getElem?_cons_succ]; exact rfl)
                          case hd85 => rfl
                          case hw85 => rfl
                          case hy85 => (intro w hSw; (try dsimp only at hSw); go_simp; try with_reducible rfl)
                          try simp only [Act.put, List.setIfInBounds_toArray, List.set_cons_zero, List.set_cons_succ]
                          refine take_yes (i := 11) (oi := ?o86) (d := (some 178)) (v := ?v86) ?hi86 (by kernel_rfl) (by kernel_rfl) (by kernel_rfl) (fun _ _ _ h => h) ?hd86 ?hw86 ?hy86 (by assumption) ?_
                          case hi86 => (simp only [List.getElem?_toArray, List.getElem?_cons_zero, List.getElem?_cons_succ]; exact rfl)
                          case hd86 => rfl
                          case hw86 => rfl
                          case hy86 => (intro w hSw; (try dsimp only at hSw); go_simp; try with_reducible rfl)
                          try simp only [Act.put, List.setIfInBounds_toArray, List.set_cons_zero, List.set_cons_succ]
                          refine take_yes (i := 12) (oi := ?o87) (d := (some 179)) (v := ?v87) ?hi87 (by kernel_rfl) (by kernel_rfl) (by kernel_rfl) (fun _ _ _ h => h) ?hd87 ?hw87 ?hy87 (by assumption) ?_
                          case hi87 => (simp only [List.getElem?_toArray, List.getElem?_cons_zero, List.getElem?_cons_succ]; exact rfl)
                          case hd87 => rfl
                          case hw87 => rfl
                          case hy87 => (intro w hSw; (try dsimp only at hSw); go_simp; try with_reducible rfl)
                          try simp only [Act.put, List.setIfInBounds_toArray, List.set_cons_zero, List.set_cons_succ]
                          refine take_yes (i := 13) (oi := ?o88) (d := (some 180)) (v := ?v88) ?hi88 (by kernel_rfl) (by kernel_rfl) (by kernel_rfl) (fun _ _ _ h => h) ?hd88 ?hw88 ?hy88 (by assumption) ?_
                          case hi88 => (simp only [List.getElem?_toArray, List.getElem?_cons_zero, List.getElem?_cons_succ]; exact rfl)
                          case hd88 => rfl
                          case hw88 => rfl
                          case hy88 => (intro w hSw; (try dsimp only at hSw); go_simp; try with_reducible rfl)
                          try simp only [Act.put, List.setIfInBounds_toArray, List.set_cons_zero, List.set_cons_succ]
                          refine take_yes (i := 14) (oi := ?o89) (d := (some 181)) (v := ?v89) ?hi89 (by kernel_rfl) (by kernel_rfl) (by kernel_rfl) (fun _ _ _ h => h) ?hd89 ?hw89 ?hy89 (by assumption) ?_
                          case hi89 => (simp only [List.getElem?_toArray, List.getElem?_cons_zero, List.getElem?_cons_succ]; exact rfl)
                          case hd89 => rfl
                          case hw89 => rfl
                          case hy89 => (intro w hSw; (try dsimp only at hSw); go_simp; try with_reducible rfl)
                          try simp only [Act.put, List.setIfInBounds_toArray, List.set_cons_zero, List.set_cons_succ]
                          refine take_yes (i := 15) (oi := ?o90) (d := (some 182)) (v := ?v90) ?hi90 (by kernel_rfl) (by kernel_rfl) (by kernel_rfl) (fun _ _ _ h => h) ?hd90 ?hw90 ?hy90 (by assumption) ?_
                          case hi90 => (simp only [List.getElem?_toArray, List.getElem?_cons_zero, List.getElem?_cons_succ]; exact rfl)
                          case hd90 => rfl
                          case hw90 => rfl
                          case hy90 => (intro w hSw; (try dsimp only at hSw); go_simp; try with_reducible rfl)
                          try simp only [Act.put, List.setIfInBounds_toArray, List.set_cons_zero, List.set_cons_succ]
                          refine take_yes (i := 16) (oi := ?o91) (d := (some 183)) (v := ?v91) ?hi91 (by kernel_rfl) (by kernel_rfl) (by kernel_rfl) (fun _ _ _ h => h) ?hd91 ?hw91 ?hy91 (by assumption) ?_
                          case hi91 => (simp only [List.getElem?_toArray, List.getElem?_cons_zero, List.getElem?_cons_succ]; exact rfl)
                          case hd91 => rfl
                          case hw91 => rfl
                          case hy91 => (intro w hSw; (try dsimp only at hSw); go_simp; try with_reducible rfl)
                          try simp only [Act.put, List.setIfInBounds_toArray, List.set_cons_zero, List.set_cons_succ]
                          refine take_yes (i := 17) (oi := ?o92) (d := (some 184)) (v := ?v92) ?hi92 (by kernel_rfl) (by kernel_rfl) (by kernel_rfl) (fun _ _ _ h => h) ?hd92 ?hw92 ?hy92 (by assumption) ?_
                          case hi92 => (simp only [List.getElem?_toArray, List.getElem?_cons_zero, List.getElem?_cons_succ]; exact rfl)
                          case hd92 => rfl
                          case hw92 => rfl
                          case hy92 => (intro w hSw; (try dsimp only at hSw); go_simp; try with_reducible rfl)
                          try simp only [Act.put, List.setIfInBounds_toArray, List.set_cons_zero, List.set_cons_succ]
                          refine take_yes (i := 18) (oi := ?o93) (d := (some 185)) (v := ?v93) ?hi93 (by kernel_rfl) (by kernel_rfl) (by kernel_rfl) (fun _ _ _ h => h) ?hd93 ?hw93 ?hy93 (by assumption) ?_
                          case hi93 => (simp only [List.getElem?_toArray, List.getElem?_cons_zero, List.getElem?_cons_succ]; exact rfl)
                          case hd93 => rfl
                          case hw93 => rfl
                          case hy93 => (intro w hSw; (try dsimp only at hSw); go_simp; try with_reducible rfl)
                          try simp only [Act.put, List.setIfInBounds_toArray, List.set_cons_zero, List.set_cons_succ]
                          refine take_yes (i := 19) (oi := ?o94) (d := (some 186)) (v := ?v94) ?hi94 (by kernel_rfl) (by kernel_rfl) (by kernel_rfl) (fun _ _ _ h => h) ?hd94 ?hw94 ?hy94 (by assumption) ?_
                          case hi94 => (simp only [List.getElem?_toArray, List.getElem?_cons_zero, List.getElem?_cons_succ]; exact rfl)
                          case hd94 => rfl
                          case hw94 => rfl
                          case hy94 => (intro w hSw; (try dsimp only at hSw); go_simp; try with_reducible rfl)
                          try simp only [Act.put, List.setIfInBounds_toArray, List.set_cons_zero, List.set_cons_succ]
                          refine take_yes (i := 20) (oi := ?o95) (d := (some 187)) (v := ?v95) ?hi95 (by kernel_rfl) (by kernel_rfl) (by kernel_rfl) (fun _ _ _ h => h) ?hd95 ?hw95 ?hy95 (by assumption) ?_
                          case hi95 => (simp only [List.getElem?_toArray, List.getElem?_cons_zero, List.getElem?_cons_succ]; exact rfl)
                          case hd95 => rfl
                          case hw95 => rfl
                          case hy95 => (intro w hSw; (try dsimp only at hSw); go_simp; try with_reducible rfl)
                          try simp only [Act.put, List.setIfInBounds_toArray, List.set_cons_zero, List.set_cons_succ]
                          refine take_yes (i := 21) (oi := ?o96) (d := (some 188)) (v := ?v96) ?hi96 (by kernel_rfl) (by kernel_rfl) (by kernel_rfl) (fun _ _ _ h => h) ?hd96 ?hw96 ?hy96 (by assumption) ?_
                          case hi96 => (simp only [List.getElem?_toArray, List.getElem?_cons_zero, List.getElem?_cons_succ]; exact rfl)
                          case hd96 => rfl
                          case hw96 => rfl
                          case hy96 => (intro w hSw; (try dsimp only at hSw); go_simp; try with_reducible rfl)
                          try simp only [Act.put, List.setIfInBounds_toArray, List.set_cons_zero, List.set_cons_succ]
                          refine wpAnyH_ready (rs := [22]) (by kernel_rfl) (by simp) ?_
                          refine AllReadyH.cons rfl (fun K hK => ?_) AllReadyH.nil
                          go_simp
                          (go_at_call 11; refine (HMS.out _).mono ?_; rintro e w22 ⟨rfl, hb22⟩; have hbz22 := ext_trans hHeld9.2.2.2.2 hb22)
                          go_wp2_with fail
                          refine hK.out _ _ (by exact HCS _ (by assumption)) (fun hHeld22 => ?_)
                          clear hK K
                          try simp only [Act.put, List.setIfInBounds_toArray, List.set_cons_zero, List.set_cons_succ]
                          refine take_yes (i := 23) (oi := ?o97) (d := (some 190)) (v := ?v97) ?hi97 (by kernel_rfl) (by kernel_rfl) (by kernel_rfl) (fun _ _ _ h => h) ?hd97 ?hw97 ?hy97 (by assumption) ?_
                          case hi97 => (simp only [List.getElem?_toArray, List.getElem?_cons_zero, List.getElem?_cons_succ]; exact rfl)
                          case hd97 => rfl
                          case hw97 => rfl
                          case hy97 => (intro w hSw; (try dsimp only at hSw); go_simp; try with_reducible rfl)
                          try simp only [Act.put, List.setIfInBounds_toArray, List.set_cons_zero, List.set_cons_succ]
                          refine take_yes (i := 24) (oi := ?o98) (d := (some 191)) (v := ?v98) ?hi98 (by kernel_rfl) (by kernel_rfl) (by kernel_rfl) (fun _ _ _ h => h) ?hd98 ?hw98 ?hy98 (by assumption) ?_
                          case hi98 => (simp only [List.getElem?_toArray, List.getElem?_cons_zero, List.getElem?_cons_succ]; exact rfl)
                          case hd98 => rfl
                          case hw98 => rfl
                          case hy98 => (intro w hSw; (try dsimp only at hSw); go_simp; try with_reducible rfl)
                          try simp only [Act.put, List.setIfInBounds_toArray, List.set_cons_zero, List.set_cons_succ]
                          refine take_yes (i := 25) (oi := ?o99) (d := (some 192)) (v := ?v99) ?hi99 (by kernel_rfl) (by kernel_rfl) (by kernel_rfl) (fun _ _ _ h => h) ?hd99 ?hw99 ?hy99 (by assumption) ?_
                          case hi99 => (simp only [List.getElem?_toArray, List.getElem?_cons_zero, List.getElem?_cons_succ]; exact rfl)
                          case hd99 => rfl
                          case hw99 => rfl
                          case hy99 => (intro w hSw; (try dsimp only at hSw); go_simp; try with_reducible rfl)
                          try simp only [Act.put, List.setIfInBounds_toArray, List.set_cons_zero, List.set_cons_succ]
                          refine wpAnyH_done (by kernel_rfl) ?_ _
                          go_wp2_with fail
                          go_roundw
                          case rel => exact ⟨i + 1, by omega, by go_num, HI10.out.below HE.out hHeld22.2.2.2.2⟩
                          case measure => simp [intOf]; omega
                        · obtain rfl : i = N q := by omega
                          have HI10 := Lib.hid hinv
                          clear hinv
                          go_wp2_with fail
                          go_roundw
                          case rel => exact ⟨q + 1, by omega, by go_num, HI10.out⟩
                          case measure => simp [intOf]; omega
                    · obtain rfl : q = p := by omega
                      have HI10 := Lib.hid hinv
                      clear hinv
                      go_wp2_with fail
                      go_ret
                      exact ⟨rfl, HI10.out.2.2.2.1⟩

end Go.Proofs.YtkmpchffflemcaaGreatDoor.Fl
end

/- The bag's other lists: there are none. -/
section
set_option linter.unusedVariables false
set_option linter.unusedSimpArgs false
namespace Go.Proofs.YtkmpchffflemcaaGreatDoor.Fl
open Go.RowKit

theorem info_Limbs : (Tryz.prog.info? 231).map (fun i => (i.zero, i.size, i.bytes)) = some (some (.slice none 0 0), 1, 24) := by kernel_rfl
set_option maxRecDepth 100000 in
set_option maxHeartbeats 1000000 in
theorem FlatNil_Limbs (w : World) : Calls Tryz.prog 52 #[.slice none 0 0] w fun e w' => e = .returned (.bool true) ∧ Below w.heap.size w w' := by
  obtain ⟨i1, hi1, hz01, hz11, hz21⟩ := info_parts info_Limbs
  go_enter Tryz.func52, Tryz.ntmps52
  go_wp2_with fail
  go_loopw [3] (fun k wr => k = .int .i64 0 ∧ Below w.heap.size w wr) (fun _ _ => 0)
  case atStart => exact ⟨rfl, Below.refl _ _⟩
  case round =>
    obtain ⟨rfl, hb0⟩ := hrel
    go_wp2_with (refine wpList_make_full _ rfl _ _ 67 rfl wr.heap.size 231 i1 (.slice none 0 0) 1 Tryz.underlying67 hi1 hz01 hz11 .i64 .i64 _ _ 0 rfl rfl rfl rfl (by omega) (by decide) (Nat.le_refl _) ?_; intro w5 hown5 hg5; have HG5 := Lib.hid hg5; clear hown5 hg5)
    have hbm : Below w.heap.size w w5 := Below.grown hb0 HG5.out hb0.size (by simp)
    go_loopw [6] (fun k wr => k = .int .i64 0 ∧ Below w.heap.size w wr) (fun _ _ => 0)
    case atStart => exact ⟨rfl, hbm⟩
    case round =>
      obtain ⟨rfl, hb1⟩ := hrel
      go_wp2_with fail
      go_loopw [9] (fun k wr => k = .int .i64 0 ∧ Below w.heap.size w wr) (fun _ _ => 0)
      case atStart => exact ⟨rfl, hb1⟩
      case round =>
        obtain ⟨rfl, hb2⟩ := hrel
        go_wp2_with fail
        go_loopw [11] (fun k wr => k = .int .i64 0 ∧ Below w.heap.size w wr) (fun _ _ => 0)
        case atStart => exact ⟨rfl, hb2⟩
        case round =>
          obtain ⟨rfl, hb3⟩ := hrel
          go_wp2_with fail
          go_loopw [14] (fun k wr => k = .int .i64 0 ∧ Below w.heap.size w wr) (fun _ _ => 0)
          case atStart => exact ⟨rfl, hb3⟩
          case round =>
            obtain ⟨rfl, hb4⟩ := hrel
            go_wp2_with fail
            go_ret
            exact ⟨rfl, hb4⟩

theorem info_Ints : (Tryz.prog.info? 128).map (fun i => (i.zero, i.size, i.bytes)) = some (some (.slice none 0 0), 1, 24) := by kernel_rfl
set_option maxRecDepth 100000 in
set_option maxHeartbeats 1000000 in
theorem FlatNil_Ints (w : World) : Calls Tryz.prog 53 #[.slice none 0 0] w fun e w' => e = .returned (.bool true) ∧ Below w.heap.size w w' := by
  obtain ⟨i1, hi1, hz01, hz11, hz21⟩ := info_parts info_Ints
  go_enter Tryz.func53, Tryz.ntmps53
  go_wp2_with fail
  go_loopw [3] (fun k wr => k = .int .i64 0 ∧ Below w.heap.size w wr) (fun _ _ => 0)
  case atStart => exact ⟨rfl, Below.refl _ _⟩
  case round =>
    obtain ⟨rfl, hb0⟩ := hrel
    go_wp2_with (refine wpList_make_full _ rfl _ _ 68 rfl wr.heap.size 128 i1 (.slice none 0 0) 1 Tryz.underlying68 hi1 hz01 hz11 .i64 .i64 _ _ 0 rfl rfl rfl rfl (by omega) (by decide) (Nat.le_refl _) ?_; intro w5 hown5 hg5; have HG5 := Lib.hid hg5; clear hown5 hg5)
    have hbm : Below w.heap.size w w5 := Below.grown hb0 HG5.out hb0.size (by simp)
    go_loopw [6] (fun k wr => k = .int .i64 0 ∧ Below w.heap.size w wr) (fun _ _ => 0)
    case atStart => exact ⟨rfl, hbm⟩
    case round =>
      obtain ⟨rfl, hb1⟩ := hrel
      go_wp2_with fail
      go_loopw [9] (fun k wr => k = .int .i64 0 ∧ Below w.heap.size w wr) (fun _ _ => 0)
      case atStart => exact ⟨rfl, hb1⟩
      case round =>
        obtain ⟨rfl, hb2⟩ := hrel
        go_wp2_with fail
        go_loopw [11] (fun k wr => k = .int .i64 0 ∧ Below w.heap.size w wr) (fun _ _ => 0)
        case atStart => exact ⟨rfl, hb2⟩
        case round =>
          obtain ⟨rfl, hb3⟩ := hrel
          go_wp2_with fail
          go_loopw [14] (fun k wr => k = .int .i64 0 ∧ Below w.heap.size w wr) (fun _ _ => 0)
          case atStart => exact ⟨rfl, hb3⟩
          case round =>
            obtain ⟨rfl, hb4⟩ := hrel
            go_wp2_with fail
            go_ret
            exact ⟨rfl, hb4⟩

theorem info_Longs : (Tryz.prog.info? 232).map (fun i => (i.zero, i.size, i.bytes)) = some (some (.slice none 0 0), 1, 24) := by kernel_rfl
set_option maxRecDepth 100000 in
set_option maxHeartbeats 1000000 in
theorem FlatNil_Longs (w : World) : Calls Tryz.prog 54 #[.slice none 0 0] w fun e w' => e = .returned (.bool true) ∧ Below w.heap.size w w' := by
  obtain ⟨i1, hi1, hz01, hz11, hz21⟩ := info_parts info_Longs
  go_enter Tryz.func54, Tryz.ntmps54
  go_wp2_with fail
  go_loopw [3] (fun k wr => k = .int .i64 0 ∧ Below w.heap.size w wr) (fun _ _ => 0)
  case atStart => exact ⟨rfl, Below.refl _ _⟩
  case round =>
    obtain ⟨rfl, hb0⟩ := hrel
    go_wp2_with (refine wpList_make_full _ rfl _ _ 69 rfl wr.heap.size 232 i1 (.slice none 0 0) 1 Tryz.underlying69 hi1 hz01 hz11 .i64 .i64 _ _ 0 rfl rfl rfl rfl (by omega) (by decide) (Nat.le_refl _) ?_; intro w5 hown5 hg5; have HG5 := Lib.hid hg5; clear hown5 hg5)
    have hbm : Below w.heap.size w w5 := Below.grown hb0 HG5.out hb0.size (by simp)
    go_loopw [6] (fun k wr => k = .int .i64 0 ∧ Below w.heap.size w wr) (fun _ _ => 0)
    case atStart => exact ⟨rfl, hbm⟩
    case round =>
      obtain ⟨rfl, hb1⟩ := hrel
      go_wp2_with fail
      go_loopw [9] (fun k wr => k = .int .i64 0 ∧ Below w.heap.size w wr) (fun _ _ => 0)
      case atStart => exact ⟨rfl, hb1⟩
      case round =>
        obtain ⟨rfl, hb2⟩ := hrel
        go_wp2_with fail
        go_loopw [11] (fun k wr => k = .int .i64 0 ∧ Below w.heap.size w wr) (fun _ _ => 0)
        case atStart => exact ⟨rfl, hb2⟩
        case round =>
          obtain ⟨rfl, hb3⟩ := hrel
          go_wp2_with fail
          go_loopw [14] (fun k wr => k = .int .i64 0 ∧ Below w.heap.size w wr) (fun _ _ => 0)
          case atStart => exact ⟨rfl, hb3⟩
          case round =>
            obtain ⟨rfl, hb4⟩ := hrel
            go_wp2_with fail
            go_ret
            exact ⟨rfl, hb4⟩

theorem info_Texts : (Tryz.prog.info? 233).map (fun i => (i.zero, i.size, i.bytes)) = some (some (.slice none 0 0), 1, 24) := by kernel_rfl
set_option maxRecDepth 100000 in
set_option maxHeartbeats 1000000 in
theorem FlatNil_Texts (w : World) : Calls Tryz.prog 55 #[.slice none 0 0] w fun e w' => e = .returned (.bool true) ∧ Below w.heap.size w w' := by
  obtain ⟨i1, hi1, hz01, hz11, hz21⟩ := info_parts info_Texts
  go_enter Tryz.func55, Tryz.ntmps55
  go_wp2_with fail
  go_loopw [3] (fun k wr => k = .int .i64 0 ∧ Below w.heap.size w wr) (fun _ _ => 0)
  case atStart => exact ⟨rfl, Below.refl _ _⟩
  case round =>
    obtain ⟨rfl, hb0⟩ := hrel
    go_wp2_with (refine wpList_make_full _ rfl _ _ 70 rfl wr.heap.size 233 i1 (.slice none 0 0) 1 Tryz.underlying70 hi1 hz01 hz11 .i64 .i64 _ _ 0 rfl rfl rfl rfl (by omega) (by decide) (Nat.le_refl _) ?_; intro w5 hown5 hg5; have HG5 := Lib.hid hg5; clear hown5 hg5)
    have hbm : Below w.heap.size w w5 := Below.grown hb0 HG5.out hb0.size (by simp)
    go_loopw [6] (fun k wr => k = .int .i64 0 ∧ Below w.heap.size w wr) (fun _ _ => 0)
    case atStart => exact ⟨rfl, hbm⟩
    case round =>
      obtain ⟨rfl, hb1⟩ := hrel
      go_wp2_with fail
      go_loopw [9] (fun k wr => k = .int .i64 0 ∧ Below w.heap.size w wr) (fun _ _ => 0)
      case atStart => exact ⟨rfl, hb1⟩
      case round =>
        obtain ⟨rfl, hb2⟩ := hrel
        go_wp2_with fail
        go_loopw [11] (fun k wr => k = .int .i64 0 ∧ Below w.heap.size w wr) (fun _ _ => 0)
        case atStart => exact ⟨rfl, hb2⟩
        case round =>
          obtain ⟨rfl, hb3⟩ := hrel
          go_wp2_with fail
          go_loopw [14] (fun k wr => k = .int .i64 0 ∧ Below w.heap.size w wr) (fun _ _ => 0)
          case atStart => exact ⟨rfl, hb3⟩
          case round =>
            obtain ⟨rfl, hb4⟩ := hrel
            go_wp2_with fail
            go_ret
            exact ⟨rfl, hb4⟩

theorem info_Bytes : (Tryz.prog.info? 22).map (fun i => (i.zero, i.size, i.bytes)) = some (some (.slice none 0 0), 1, 24) := by kernel_rfl
set_option maxRecDepth 100000 in
set_option maxHeartbeats 1000000 in
theorem FlatNil_Bytes (w : World) : Calls Tryz.prog 56 #[.slice none 0 0] w fun e w' => e = .returned (.bool true) ∧ Below w.heap.size w w' := by
  obtain ⟨i1, hi1, hz01, hz11, hz21⟩ := info_parts info_Bytes
  go_enter Tryz.func56, Tryz.ntmps56
  go_wp2_with fail
  go_loopw [3] (fun k wr => k = .int .i64 0 ∧ Below w.heap.size w wr) (fun _ _ => 0)
  case atStart => exact ⟨rfl, Below.refl _ _⟩
  case round =>
    obtain ⟨rfl, hb0⟩ := hrel
    go_wp2_with (refine wpList_make_full _ rfl _ _ 24 rfl wr.heap.size 22 i1 (.slice none 0 0) 1 Tryz.underlying24 hi1 hz01 hz11 .i64 .i64 _ _ 0 rfl rfl rfl rfl (by omega) (by decide) (Nat.le_refl _) ?_; intro w5 hown5 hg5; have HG5 := Lib.hid hg5; clear hown5 hg5)
    have hbm : Below w.heap.size w w5 := Below.grown hb0 HG5.out hb0.size (by simp)
    go_loopw [6] (fun k wr => k = .int .i64 0 ∧ Below w.heap.size w wr) (fun _ _ => 0)
    case atStart => exact ⟨rfl, hbm⟩
    case round =>
      obtain ⟨rfl, hb1⟩ := hrel
      go_wp2_with fail
      go_loopw [9] (fun k wr => k = .int .i64 0 ∧ Below w.heap.size w wr) (fun _ _ => 0)
      case atStart => exact ⟨rfl, hb1⟩
      case round =>
        obtain ⟨rfl, hb2⟩ := hrel
        go_wp2_with fail
        go_loopw [11] (fun k wr => k = .int .i64 0 ∧ Below w.heap.size w wr) (fun _ _ => 0)
        case atStart => exact ⟨rfl, hb2⟩
        case round =>
          obtain ⟨rfl, hb3⟩ := hrel
          go_wp2_with fail
          go_loopw [14] (fun k wr => k = .int .i64 0 ∧ Below w.heap.size w wr) (fun _ _ => 0)
          case atStart => exact ⟨rfl, hb3⟩
          case round =>
            obtain ⟨rfl, hb4⟩ := hrel
            go_wp2_with fail
            go_ret
            exact ⟨rfl, hb4⟩

theorem info_Reals : (Tryz.prog.info? 234).map (fun i => (i.zero, i.size, i.bytes)) = some (some (.slice none 0 0), 1, 24) := by kernel_rfl
set_option maxRecDepth 100000 in
set_option maxHeartbeats 1000000 in
theorem FlatNil_Reals (w : World) : Calls Tryz.prog 57 #[.slice none 0 0] w fun e w' => e = .returned (.bool true) ∧ Below w.heap.size w w' := by
  obtain ⟨i1, hi1, hz01, hz11, hz21⟩ := info_parts info_Reals
  go_enter Tryz.func57, Tryz.ntmps57
  go_wp2_with fail
  go_loopw [3] (fun k wr => k = .int .i64 0 ∧ Below w.heap.size w wr) (fun _ _ => 0)
  case atStart => exact ⟨rfl, Below.refl _ _⟩
  case round =>
    obtain ⟨rfl, hb0⟩ := hrel
    go_wp2_with (refine wpList_make_full _ rfl _ _ 71 rfl wr.heap.size 234 i1 (.slice none 0 0) 1 Tryz.underlying71 hi1 hz01 hz11 .i64 .i64 _ _ 0 rfl rfl rfl rfl (by omega) (by decide) (Nat.le_refl _) ?_; intro w5 hown5 hg5; have HG5 := Lib.hid hg5; clear hown5 hg5)
    have hbm : Below w.heap.size w w5 := Below.grown hb0 HG5.out hb0.size (by simp)
    go_loopw [6] (fun k wr => k = .int .i64 0 ∧ Below w.heap.size w wr) (fun _ _ => 0)
    case atStart => exact ⟨rfl, hbm⟩
    case round =>
      obtain ⟨rfl, hb1⟩ := hrel
      go_wp2_with fail
      go_loopw [9] (fun k wr => k = .int .i64 0 ∧ Below w.heap.size w wr) (fun _ _ => 0)
      case atStart => exact ⟨rfl, hb1⟩
      case round =>
        obtain ⟨rfl, hb2⟩ := hrel
        go_wp2_with fail
        go_loopw [11] (fun k wr => k = .int .i64 0 ∧ Below w.heap.size w wr) (fun _ _ => 0)
        case atStart => exact ⟨rfl, hb2⟩
        case round =>
          obtain ⟨rfl, hb3⟩ := hrel
          go_wp2_with fail
          go_loopw [14] (fun k wr => k = .int .i64 0 ∧ Below w.heap.size w wr) (fun _ _ => 0)
          case atStart => exact ⟨rfl, hb3⟩
          case round =>
            obtain ⟨rfl, hb4⟩ := hrel
            go_wp2_with fail
            go_ret
            exact ⟨rfl, hb4⟩

theorem info_Fates : (Tryz.prog.info? 236).map (fun i => (i.zero, i.size, i.bytes)) = some (some (.slice none 0 0), 1, 24) := by kernel_rfl
set_option maxRecDepth 100000 in
set_option maxHeartbeats 1000000 in
theorem FlatNil_Fates (w : World) : Calls Tryz.prog 58 #[.slice none 0 0] w fun e w' => e = .returned (.bool true) ∧ Below w.heap.size w w' := by
  obtain ⟨i1, hi1, hz01, hz11, hz21⟩ := info_parts info_Fates
  go_enter Tryz.func58, Tryz.ntmps58
  go_wp2_with fail
  go_loopw [3] (fun k wr => k = .int .i64 0 ∧ Below w.heap.size w wr) (fun _ _ => 0)
  case atStart => exact ⟨rfl, Below.refl _ _⟩
  case round =>
    obtain ⟨rfl, hb0⟩ := hrel
    go_wp2_with (refine wpList_make_full _ rfl _ _ 72 rfl wr.heap.size 236 i1 (.slice none 0 0) 1 Tryz.underlying72 hi1 hz01 hz11 .i64 .i64 _ _ 0 rfl rfl rfl rfl (by omega) (by decide) (Nat.le_refl _) ?_; intro w5 hown5 hg5; have HG5 := Lib.hid hg5; clear hown5 hg5)
    have hbm : Below w.heap.size w w5 := Below.grown hb0 HG5.out hb0.size (by simp)
    go_loopw [6] (fun k wr => k = .int .i64 0 ∧ Below w.heap.size w wr) (fun _ _ => 0)
    case atStart => exact ⟨rfl, hbm⟩
    case round =>
      obtain ⟨rfl, hb1⟩ := hrel
      go_wp2_with fail
      go_loopw [9] (fun k wr => k = .int .i64 0 ∧ Below w.heap.size w wr) (fun _ _ => 0)
      case atStart => exact ⟨rfl, hb1⟩
      case round =>
        obtain ⟨rfl, hb2⟩ := hrel
        go_wp2_with fail
        go_loopw [11] (fun k wr => k = .int .i64 0 ∧ Below w.heap.size w wr) (fun _ _ => 0)
        case atStart => exact ⟨rfl, hb2⟩
        case round =>
          obtain ⟨rfl, hb3⟩ := hrel
          go_wp2_with fail
          go_loopw [14] (fun k wr => k = .int .i64 0 ∧ Below w.heap.size w wr) (fun _ _ => 0)
          case atStart => exact ⟨rfl, hb3⟩
          case round =>
            obtain ⟨rfl, hb4⟩ := hrel
            go_wp2_with fail
            go_ret
            exact ⟨rfl, hb4⟩

theorem info_Spans : (Tryz.prog.info? 241).map (fun i => (i.zero, i.size, i.bytes)) = some (some (.slice none 0 0), 1, 24) := by kernel_rfl
set_option maxRecDepth 100000 in
set_option maxHeartbeats 1000000 in
theorem FlatNil_Spans (w : World) : Calls Tryz.prog 59 #[.slice none 0 0] w fun e w' => e = .returned (.bool true) ∧ Below w.heap.size w w' := by
  obtain ⟨i1, hi1, hz01, hz11, hz21⟩ := info_parts info_Spans
  go_enter Tryz.func59, Tryz.ntmps59
  go_wp2_with fail
  go_loopw [3] (fun k wr => k = .int .i64 0 ∧ Below w.heap.size w wr) (fun _ _ => 0)
  case atStart => exact ⟨rfl, Below.refl _ _⟩
  case round =>
    obtain ⟨rfl, hb0⟩ := hrel
    go_wp2_with (refine wpList_make_full _ rfl _ _ 73 rfl wr.heap.size 241 i1 (.slice none 0 0) 1 Tryz.underlying73 hi1 hz01 hz11 .i64 .i64 _ _ 0 rfl rfl rfl rfl (by omega) (by decide) (Nat.le_refl _) ?_; intro w5 hown5 hg5; have HG5 := Lib.hid hg5; clear hown5 hg5)
    have hbm : Below w.heap.size w w5 := Below.grown hb0 HG5.out hb0.size (by simp)
    go_loopw [6] (fun k wr => k = .int .i64 0 ∧ Below w.heap.size w wr) (fun _ _ => 0)
    case atStart => exact ⟨rfl, hbm⟩
    case round =>
      obtain ⟨rfl, hb1⟩ := hrel
      go_wp2_with fail
      go_loopw [9] (fun k wr => k = .int .i64 0 ∧ Below w.heap.size w wr) (fun _ _ => 0)
      case atStart => exact ⟨rfl, hb1⟩
      case round =>
        obtain ⟨rfl, hb2⟩ := hrel
        go_wp2_with fail
        go_loopw [11] (fun k wr => k = .int .i64 0 ∧ Below w.heap.size w wr) (fun _ _ => 0)
        case atStart => exact ⟨rfl, hb2⟩
        case round =>
          obtain ⟨rfl, hb3⟩ := hrel
          go_wp2_with fail
          go_loopw [14] (fun k wr => k = .int .i64 0 ∧ Below w.heap.size w wr) (fun _ _ => 0)
          case atStart => exact ⟨rfl, hb3⟩
          case round =>
            obtain ⟨rfl, hb4⟩ := hrel
            go_wp2_with fail
            go_ret
            exact ⟨rfl, hb4⟩

theorem info_Frames : (Tryz.prog.info? 219).map (fun i => (i.zero, i.size, i.bytes)) = some (some (.slice none 0 0), 1, 24) := by kernel_rfl
set_option maxRecDepth 100000 in
set_option maxHeartbeats 1000000 in
theorem FlatNil_Frames (w : World) : Calls Tryz.prog 60 #[.slice none 0 0] w fun e w' => e = .returned (.bool true) ∧ Below w.heap.size w w' := by
  obtain ⟨i1, hi1, hz01, hz11, hz21⟩ := info_parts info_Frames
  go_enter Tryz.func60, Tryz.ntmps60
  go_wp2_with fail
  go_loopw [3] (fun k wr => k = .int .i64 0 ∧ Below w.heap.size w wr) (fun _ _ => 0)
  case atStart => exact ⟨rfl, Below.refl _ _⟩
  case round =>
    obtain ⟨rfl, hb0⟩ := hrel
    go_wp2_with (refine wpList_make_full _ rfl _ _ 74 rfl wr.heap.size 219 i1 (.slice none 0 0) 1 Tryz.underlying74 hi1 hz01 hz11 .i64 .i64 _ _ 0 rfl rfl rfl rfl (by omega) (by decide) (Nat.le_refl _) ?_; intro w5 hown5 hg5; have HG5 := Lib.hid hg5; clear hown5 hg5)
    have hbm : Below w.heap.size w w5 := Below.grown hb0 HG5.out hb0.size (by simp)
    go_loopw [6] (fun k wr => k = .int .i64 0 ∧ Below w.heap.size w wr) (fun _ _ => 0)
    case atStart => exact ⟨rfl, hbm⟩
    case round =>
      obtain ⟨rfl, hb1⟩ := hrel
      go_wp2_with fail
      go_loopw [9] (fun k wr => k = .int .i64 0 ∧ Below w.heap.size w wr) (fun _ _ => 0)
      case atStart => exact ⟨rfl, hb1⟩
      case round =>
        obtain ⟨rfl, hb2⟩ := hrel
        go_wp2_with fail
        go_loopw [11] (fun k wr => k = .int .i64 0 ∧ Below w.heap.size w wr) (fun _ _ => 0)
        case atStart => exact ⟨rfl, hb2⟩
        case round =>
          obtain ⟨rfl, hb3⟩ := hrel
          go_wp2_with fail
          go_loopw [14] (fun k wr => k = .int .i64 0 ∧ Below w.heap.size w wr) (fun _ _ => 0)
          case atStart => exact ⟨rfl, hb3⟩
          case round =>
            obtain ⟨rfl, hb4⟩ := hrel
            go_wp2_with fail
            go_ret
            exact ⟨rfl, hb4⟩

theorem info_Cabins : (Tryz.prog.info? 247).map (fun i => (i.zero, i.size, i.bytes)) = some (some (.slice none 0 0), 1, 24) := by kernel_rfl
set_option maxRecDepth 100000 in
set_option maxHeartbeats 1000000 in
theorem FlatNil_Cabins (w : World) : Calls Tryz.prog 61 #[.slice none 0 0] w fun e w' => e = .returned (.bool true) ∧ Below w.heap.size w w' := by
  obtain ⟨i1, hi1, hz01, hz11, hz21⟩ := info_parts info_Cabins
  go_enter Tryz.func61, Tryz.ntmps61
  go_wp2_with fail
  go_loopw [3] (fun k wr => k = .int .i64 0 ∧ Below w.heap.size w wr) (fun _ _ => 0)
  case atStart => exact ⟨rfl, Below.refl _ _⟩
  case round =>
    obtain ⟨rfl, hb0⟩ := hrel
    go_wp2_with (refine wpList_make_full _ rfl _ _ 75 rfl wr.heap.size 247 i1 (.slice none 0 0) 1 Tryz.underlying75 hi1 hz01 hz11 .i64 .i64 _ _ 0 rfl rfl rfl rfl (by omega) (by decide) (Nat.le_refl _) ?_; intro w5 hown5 hg5; have HG5 := Lib.hid hg5; clear hown5 hg5)
    have hbm : Below w.heap.size w w5 := Below.grown hb0 HG5.out hb0.size (by simp)
    go_loopw [6] (fun k wr => k = .int .i64 0 ∧ Below w.heap.size w wr) (fun _ _ => 0)
    case atStart => exact ⟨rfl, hbm⟩
    case round =>
      obtain ⟨rfl, hb1⟩ := hrel
      go_wp2_with fail
      go_loopw [9] (fun k wr => k = .int .i64 0 ∧ Below w.heap.size w wr) (fun _ _ => 0)
      case atStart => exact ⟨rfl, hb1⟩
      case round =>
        obtain ⟨rfl, hb2⟩ := hrel
        go_wp2_with fail
        go_loopw [11] (fun k wr => k = .int .i64 0 ∧ Below w.heap.size w wr) (fun _ _ => 0)
        case atStart => exact ⟨rfl, hb2⟩
        case round =>
          obtain ⟨rfl, hb3⟩ := hrel
          go_wp2_with fail
          go_loopw [14] (fun k wr => k = .int .i64 0 ∧ Below w.heap.size w wr) (fun _ _ => 0)
          case atStart => exact ⟨rfl, hb3⟩
          case round =>
            obtain ⟨rfl, hb4⟩ := hrel
            go_wp2_with fail
            go_ret
            exact ⟨rfl, hb4⟩

theorem info_Records : (Tryz.prog.info? 252).map (fun i => (i.zero, i.size, i.bytes)) = some (some (.slice none 0 0), 1, 24) := by kernel_rfl
set_option maxRecDepth 100000 in
set_option maxHeartbeats 1000000 in
theorem FlatNil_Records (w : World) : Calls Tryz.prog 62 #[.slice none 0 0] w fun e w' => e = .returned (.bool true) ∧ Below w.heap.size w w' := by
  obtain ⟨i1, hi1, hz01, hz11, hz21⟩ := info_parts info_Records
  go_enter Tryz.func62, Tryz.ntmps62
  go_wp2_with fail
  go_loopw [3] (fun k wr => k = .int .i64 0 ∧ Below w.heap.size w wr) (fun _ _ => 0)
  case atStart => exact ⟨rfl, Below.refl _ _⟩
  case round =>
    obtain ⟨rfl, hb0⟩ := hrel
    go_wp2_with (refine wpList_make_full _ rfl _ _ 76 rfl wr.heap.size 252 i1 (.slice none 0 0) 1 Tryz.underlying76 hi1 hz01 hz11 .i64 .i64 _ _ 0 rfl rfl rfl rfl (by omega) (by decide) (Nat.le_refl _) ?_; intro w5 hown5 hg5; have HG5 := Lib.hid hg5; clear hown5 hg5)
    have hbm : Below w.heap.size w w5 := Below.grown hb0 HG5.out hb0.size (by simp)
    go_loopw [6] (fun k wr => k = .int .i64 0 ∧ Below w.heap.size w wr) (fun _ _ => 0)
    case atStart => exact ⟨rfl, hbm⟩
    case round =>
      obtain ⟨rfl, hb1⟩ := hrel
      go_wp2_with fail
      go_loopw [9] (fun k wr => k = .int .i64 0 ∧ Below w.heap.size w wr) (fun _ _ => 0)
      case atStart => exact ⟨rfl, hb1⟩
      case round =>
        obtain ⟨rfl, hb2⟩ := hrel
        go_wp2_with fail
        go_loopw [11] (fun k wr => k = .int .i64 0 ∧ Below w.heap.size w wr) (fun _ _ => 0)
        case atStart => exact ⟨rfl, hb2⟩
        case round =>
          obtain ⟨rfl, hb3⟩ := hrel
          go_wp2_with fail
          go_loopw [14] (fun k wr => k = .int .i64 0 ∧ Below w.heap.size w wr) (fun _ _ => 0)
          case atStart => exact ⟨rfl, hb3⟩
          case round =>
            obtain ⟨rfl, hb4⟩ := hrel
            go_wp2_with fail
            go_ret
            exact ⟨rfl, hb4⟩

theorem info_Bookings : (Tryz.prog.info? 189).map (fun i => (i.zero, i.size, i.bytes)) = some (some (.slice none 0 0), 1, 24) := by kernel_rfl
set_option maxRecDepth 100000 in
set_option maxHeartbeats 1000000 in
theorem FlatNil_Bookings (w : World) : Calls Tryz.prog 63 #[.slice none 0 0] w fun e w' => e = .returned (.bool true) ∧ Below w.heap.size w w' := by
  obtain ⟨i1, hi1, hz01, hz11, hz21⟩ := info_parts info_Bookings
  go_enter Tryz.func63, Tryz.ntmps63
  go_wp2_with fail
  go_loopw [3] (fun k wr => k = .int .i64 0 ∧ Below w.heap.size w wr) (fun _ _ => 0)
  case atStart => exact ⟨rfl, Below.refl _ _⟩
  case round =>
    obtain ⟨rfl, hb0⟩ := hrel
    go_wp2_with (refine wpList_make_full _ rfl _ _ 77 rfl wr.heap.size 189 i1 (.slice none 0 0) 1 Tryz.underlying77 hi1 hz01 hz11 .i64 .i64 _ _ 0 rfl rfl rfl rfl (by omega) (by decide) (Nat.le_refl _) ?_; intro w5 hown5 hg5; have HG5 := Lib.hid hg5; clear hown5 hg5)
    have hbm : Below w.heap.size w w5 := Below.grown hb0 HG5.out hb0.size (by simp)
    go_loopw [6] (fun k wr => k = .int .i64 0 ∧ Below w.heap.size w wr) (fun _ _ => 0)
    case atStart => exact ⟨rfl, hbm⟩
    case round =>
      obtain ⟨rfl, hb1⟩ := hrel
      go_wp2_with fail
      go_loopw [9] (fun k wr => k = .int .i64 0 ∧ Below w.heap.size w wr) (fun _ _ => 0)
      case atStart => exact ⟨rfl, hb1⟩
      case round =>
        obtain ⟨rfl, hb2⟩ := hrel
        go_wp2_with fail
        go_loopw [11] (fun k wr => k = .int .i64 0 ∧ Below w.heap.size w wr) (fun _ _ => 0)
        case atStart => exact ⟨rfl, hb2⟩
        case round =>
          obtain ⟨rfl, hb3⟩ := hrel
          go_wp2_with fail
          go_loopw [14] (fun k wr => k = .int .i64 0 ∧ Below w.heap.size w wr) (fun _ _ => 0)
          case atStart => exact ⟨rfl, hb3⟩
          case round =>
            obtain ⟨rfl, hb4⟩ := hrel
            go_wp2_with fail
            go_ret
            exact ⟨rfl, hb4⟩

theorem info_Requests : (Tryz.prog.info? 260).map (fun i => (i.zero, i.size, i.bytes)) = some (some (.slice none 0 0), 1, 24) := by kernel_rfl
set_option maxRecDepth 100000 in
set_option maxHeartbeats 1000000 in
theorem FlatNil_Requests (w : World) : Calls Tryz.prog 64 #[.slice none 0 0] w fun e w' => e = .returned (.bool true) ∧ Below w.heap.size w w' := by
  obtain ⟨i1, hi1, hz01, hz11, hz21⟩ := info_parts info_Requests
  go_enter Tryz.func64, Tryz.ntmps64
  go_wp2_with fail
  go_loopw [3] (fun k wr => k = .int .i64 0 ∧ Below w.heap.size w wr) (fun _ _ => 0)
  case atStart => exact ⟨rfl, Below.refl _ _⟩
  case round =>
    obtain ⟨rfl, hb0⟩ := hrel
    go_wp2_with (refine wpList_make_full _ rfl _ _ 78 rfl wr.heap.size 260 i1 (.slice none 0 0) 1 Tryz.underlying78 hi1 hz01 hz11 .i64 .i64 _ _ 0 rfl rfl rfl rfl (by omega) (by decide) (Nat.le_refl _) ?_; intro w5 hown5 hg5; have HG5 := Lib.hid hg5; clear hown5 hg5)
    have hbm : Below w.heap.size w w5 := Below.grown hb0 HG5.out hb0.size (by simp)
    go_loopw [6] (fun k wr => k = .int .i64 0 ∧ Below w.heap.size w wr) (fun _ _ => 0)
    case atStart => exact ⟨rfl, hbm⟩
    case round =>
      obtain ⟨rfl, hb1⟩ := hrel
      go_wp2_with fail
      go_loopw [9] (fun k wr => k = .int .i64 0 ∧ Below w.heap.size w wr) (fun _ _ => 0)
      case atStart => exact ⟨rfl, hb1⟩
      case round =>
        obtain ⟨rfl, hb2⟩ := hrel
        go_wp2_with fail
        go_loopw [11] (fun k wr => k = .int .i64 0 ∧ Below w.heap.size w wr) (fun _ _ => 0)
        case atStart => exact ⟨rfl, hb2⟩
        case round =>
          obtain ⟨rfl, hb3⟩ := hrel
          go_wp2_with fail
          go_loopw [14] (fun k wr => k = .int .i64 0 ∧ Below w.heap.size w wr) (fun _ _ => 0)
          case atStart => exact ⟨rfl, hb3⟩
          case round =>
            obtain ⟨rfl, hb4⟩ := hrel
            go_wp2_with fail
            go_ret
            exact ⟨rfl, hb4⟩

theorem info_Replies : (Tryz.prog.info? 205).map (fun i => (i.zero, i.size, i.bytes)) = some (some (.slice none 0 0), 1, 24) := by kernel_rfl
set_option maxRecDepth 100000 in
set_option maxHeartbeats 1000000 in
theorem FlatNil_Replies (w : World) : Calls Tryz.prog 65 #[.slice none 0 0] w fun e w' => e = .returned (.bool true) ∧ Below w.heap.size w w' := by
  obtain ⟨i1, hi1, hz01, hz11, hz21⟩ := info_parts info_Replies
  go_enter Tryz.func65, Tryz.ntmps65
  go_wp2_with fail
  go_loopw [3] (fun k wr => k = .int .i64 0 ∧ Below w.heap.size w wr) (fun _ _ => 0)
  case atStart => exact ⟨rfl, Below.refl _ _⟩
  case round =>
    obtain ⟨rfl, hb0⟩ := hrel
    go_wp2_with (refine wpList_make_full _ rfl _ _ 79 rfl wr.heap.size 205 i1 (.slice none 0 0) 1 Tryz.underlying79 hi1 hz01 hz11 .i64 .i64 _ _ 0 rfl rfl rfl rfl (by omega) (by decide) (Nat.le_refl _) ?_; intro w5 hown5 hg5; have HG5 := Lib.hid hg5; clear hown5 hg5)
    have hbm : Below w.heap.size w w5 := Below.grown hb0 HG5.out hb0.size (by simp)
    go_loopw [6] (fun k wr => k = .int .i64 0 ∧ Below w.heap.size w wr) (fun _ _ => 0)
    case atStart => exact ⟨rfl, hbm⟩
    case round =>
      obtain ⟨rfl, hb1⟩ := hrel
      go_wp2_with fail
      go_loopw [9] (fun k wr => k = .int .i64 0 ∧ Below w.heap.size w wr) (fun _ _ => 0)
      case atStart => exact ⟨rfl, hb1⟩
      case round =>
        obtain ⟨rfl, hb2⟩ := hrel
        go_wp2_with fail
        go_loopw [11] (fun k wr => k = .int .i64 0 ∧ Below w.heap.size w wr) (fun _ _ => 0)
        case atStart => exact ⟨rfl, hb2⟩
        case round =>
          obtain ⟨rfl, hb3⟩ := hrel
          go_wp2_with fail
          go_loopw [14] (fun k wr => k = .int .i64 0 ∧ Below w.heap.size w wr) (fun _ _ => 0)
          case atStart => exact ⟨rfl, hb3⟩
          case round =>
            obtain ⟨rfl, hb4⟩ := hrel
            go_wp2_with fail
            go_ret
            exact ⟨rfl, hb4⟩

theorem info_Fares : (Tryz.prog.info? 263).map (fun i => (i.zero, i.size, i.bytes)) = some (some (.slice none 0 0), 1, 24) := by kernel_rfl
set_option maxRecDepth 100000 in
set_option maxHeartbeats 1000000 in
theorem FlatNil_Fares (w : World) : Calls Tryz.prog 66 #[.slice none 0 0] w fun e w' => e = .returned (.bool true) ∧ Below w.heap.size w w' := by
  obtain ⟨i1, hi1, hz01, hz11, hz21⟩ := info_parts info_Fares
  go_enter Tryz.func66, Tryz.ntmps66
  go_wp2_with fail
  go_loopw [3] (fun k wr => k = .int .i64 0 ∧ Below w.heap.size w wr) (fun _ _ => 0)
  case atStart => exact ⟨rfl, Below.refl _ _⟩
  case round =>
    obtain ⟨rfl, hb0⟩ := hrel
    go_wp2_with (refine wpList_make_full _ rfl _ _ 80 rfl wr.heap.size 263 i1 (.slice none 0 0) 1 Tryz.underlying80 hi1 hz01 hz11 .i64 .i64 _ _ 0 rfl rfl rfl rfl (by omega) (by decide) (Nat.le_refl _) ?_; intro w5 hown5 hg5; have HG5 := Lib.hid hg5; clear hown5 hg5)
    have hbm : Below w.heap.size w w5 := Below.grown hb0 HG5.out hb0.size (by simp)
    go_loopw [6] (fun k wr => k = .int .i64 0 ∧ Below w.heap.size w wr) (fun _ _ => 0)
    case atStart => exact ⟨rfl, hbm⟩
    case round =>
      obtain ⟨rfl, hb1⟩ := hrel
      go_wp2_with fail
      go_loopw [9] (fun k wr => k = .int .i64 0 ∧ Below w.heap.size w wr) (fun _ _ => 0)
      case atStart => exact ⟨rfl, hb1⟩
      case round =>
        obtain ⟨rfl, hb2⟩ := hrel
        go_wp2_with fail
        go_loopw [11] (fun k wr => k = .int .i64 0 ∧ Below w.heap.size w wr) (fun _ _ => 0)
        case atStart => exact ⟨rfl, hb2⟩
        case round =>
          obtain ⟨rfl, hb3⟩ := hrel
          go_wp2_with fail
          go_loopw [14] (fun k wr => k = .int .i64 0 ∧ Below w.heap.size w wr) (fun _ _ => 0)
          case atStart => exact ⟨rfl, hb3⟩
          case round =>
            obtain ⟨rfl, hb4⟩ := hrel
            go_wp2_with fail
            go_ret
            exact ⟨rfl, hb4⟩

theorem info_Waits : (Tryz.prog.info? 268).map (fun i => (i.zero, i.size, i.bytes)) = some (some (.slice none 0 0), 1, 24) := by kernel_rfl
set_option maxRecDepth 100000 in
set_option maxHeartbeats 1000000 in
theorem FlatNil_Waits (w : World) : Calls Tryz.prog 67 #[.slice none 0 0] w fun e w' => e = .returned (.bool true) ∧ Below w.heap.size w w' := by
  obtain ⟨i1, hi1, hz01, hz11, hz21⟩ := info_parts info_Waits
  go_enter Tryz.func67, Tryz.ntmps67
  go_wp2_with fail
  go_loopw [3] (fun k wr => k = .int .i64 0 ∧ Below w.heap.size w wr) (fun _ _ => 0)
  case atStart => exact ⟨rfl, Below.refl _ _⟩
  case round =>
    obtain ⟨rfl, hb0⟩ := hrel
    go_wp2_with (refine wpList_make_full _ rfl _ _ 81 rfl wr.heap.size 268 i1 (.slice none 0 0) 1 Tryz.underlying81 hi1 hz01 hz11 .i64 .i64 _ _ 0 rfl rfl rfl rfl (by omega) (by decide) (Nat.le_refl _) ?_; intro w5 hown5 hg5; have HG5 := Lib.hid hg5; clear hown5 hg5)
    have hbm : Below w.heap.size w w5 := Below.grown hb0 HG5.out hb0.size (by simp)
    go_loopw [6] (fun k wr => k = .int .i64 0 ∧ Below w.heap.size w wr) (fun _ _ => 0)
    case atStart => exact ⟨rfl, hbm⟩
    case round =>
      obtain ⟨rfl, hb1⟩ := hrel
      go_wp2_with fail
      go_loopw [9] (fun k wr => k = .int .i64 0 ∧ Below w.heap.size w wr) (fun _ _ => 0)
      case atStart => exact ⟨rfl, hb1⟩
      case round =>
        obtain ⟨rfl, hb2⟩ := hrel
        go_wp2_with fail
        go_loopw [11] (fun k wr => k = .int .i64 0 ∧ Below w.heap.size w wr) (fun _ _ => 0)
        case atStart => exact ⟨rfl, hb2⟩
        case round =>
          obtain ⟨rfl, hb3⟩ := hrel
          go_wp2_with fail
          go_loopw [14] (fun k wr => k = .int .i64 0 ∧ Below w.heap.size w wr) (fun _ _ => 0)
          case atStart => exact ⟨rfl, hb3⟩
          case round =>
            obtain ⟨rfl, hb4⟩ := hrel
            go_wp2_with fail
            go_ret
            exact ⟨rfl, hb4⟩

theorem info_Lines : (Tryz.prog.info? 272).map (fun i => (i.zero, i.size, i.bytes)) = some (some (.slice none 0 0), 1, 24) := by kernel_rfl
set_option maxRecDepth 100000 in
set_option maxHeartbeats 1000000 in
theorem FlatNil_Lines (w : World) : Calls Tryz.prog 68 #[.slice none 0 0] w fun e w' => e = .returned (.bool true) ∧ Below w.heap.size w w' := by
  obtain ⟨i1, hi1, hz01, hz11, hz21⟩ := info_parts info_Lines
  go_enter Tryz.func68, Tryz.ntmps68
  go_wp2_with fail
  go_loopw [3] (fun k wr => k = .int .i64 0 ∧ Below w.heap.size w wr) (fun _ _ => 0)
  case atStart => exact ⟨rfl, Below.refl _ _⟩
  case round =>
    obtain ⟨rfl, hb0⟩ := hrel
    go_wp2_with (refine wpList_make_full _ rfl _ _ 82 rfl wr.heap.size 272 i1 (.slice none 0 0) 1 Tryz.underlying82 hi1 hz01 hz11 .i64 .i64 _ _ 0 rfl rfl rfl rfl (by omega) (by decide) (Nat.le_refl _) ?_; intro w5 hown5 hg5; have HG5 := Lib.hid hg5; clear hown5 hg5)
    have hbm : Below w.heap.size w w5 := Below.grown hb0 HG5.out hb0.size (by simp)
    go_loopw [6] (fun k wr => k = .int .i64 0 ∧ Below w.heap.size w wr) (fun _ _ => 0)
    case atStart => exact ⟨rfl, hbm⟩
    case round =>
      obtain ⟨rfl, hb1⟩ := hrel
      go_wp2_with fail
      go_loopw [9] (fun k wr => k = .int .i64 0 ∧ Below w.heap.size w wr) (fun _ _ => 0)
      case atStart => exact ⟨rfl, hb1⟩
      case round =>
        obtain ⟨rfl, hb2⟩ := hrel
        go_wp2_with fail
        go_loopw [11] (fun k wr => k = .int .i64 0 ∧ Below w.heap.size w wr) (fun _ _ => 0)
        case atStart => exact ⟨rfl, hb2⟩
        case round =>
          obtain ⟨rfl, hb3⟩ := hrel
          go_wp2_with fail
          go_loopw [14] (fun k wr => k = .int .i64 0 ∧ Below w.heap.size w wr) (fun _ _ => 0)
          case atStart => exact ⟨rfl, hb3⟩
          case round =>
            obtain ⟨rfl, hb4⟩ := hrel
            go_wp2_with fail
            go_ret
            exact ⟨rfl, hb4⟩

theorem info_Turns : (Tryz.prog.info? 276).map (fun i => (i.zero, i.size, i.bytes)) = some (some (.slice none 0 0), 1, 24) := by kernel_rfl
set_option maxRecDepth 100000 in
set_option maxHeartbeats 1000000 in
theorem FlatNil_Turns (w : World) : Calls Tryz.prog 69 #[.slice none 0 0] w fun e w' => e = .returned (.bool true) ∧ Below w.heap.size w w' := by
  obtain ⟨i1, hi1, hz01, hz11, hz21⟩ := info_parts info_Turns
  go_enter Tryz.func69, Tryz.ntmps69
  go_wp2_with fail
  go_loopw [3] (fun k wr => k = .int .i64 0 ∧ Below w.heap.size w wr) (fun _ _ => 0)
  case atStart => exact ⟨rfl, Below.refl _ _⟩
  case round =>
    obtain ⟨rfl, hb0⟩ := hrel
    go_wp2_with (refine wpList_make_full _ rfl _ _ 83 rfl wr.heap.size 276 i1 (.slice none 0 0) 1 Tryz.underlying83 hi1 hz01 hz11 .i64 .i64 _ _ 0 rfl rfl rfl rfl (by omega) (by decide) (Nat.le_refl _) ?_; intro w5 hown5 hg5; have HG5 := Lib.hid hg5; clear hown5 hg5)
    have hbm : Below w.heap.size w w5 := Below.grown hb0 HG5.out hb0.size (by simp)
    go_loopw [6] (fun k wr => k = .int .i64 0 ∧ Below w.heap.size w wr) (fun _ _ => 0)
    case atStart => exact ⟨rfl, hbm⟩
    case round =>
      obtain ⟨rfl, hb1⟩ := hrel
      go_wp2_with fail
      go_loopw [9] (fun k wr => k = .int .i64 0 ∧ Below w.heap.size w wr) (fun _ _ => 0)
      case atStart => exact ⟨rfl, hb1⟩
      case round =>
        obtain ⟨rfl, hb2⟩ := hrel
        go_wp2_with fail
        go_loopw [11] (fun k wr => k = .int .i64 0 ∧ Below w.heap.size w wr) (fun _ _ => 0)
        case atStart => exact ⟨rfl, hb2⟩
        case round =>
          obtain ⟨rfl, hb3⟩ := hrel
          go_wp2_with fail
          go_loopw [14] (fun k wr => k = .int .i64 0 ∧ Below w.heap.size w wr) (fun _ _ => 0)
          case atStart => exact ⟨rfl, hb3⟩
          case round =>
            obtain ⟨rfl, hb4⟩ := hrel
            go_wp2_with fail
            go_ret
            exact ⟨rfl, hb4⟩

theorem info_Commands : (Tryz.prog.info? 280).map (fun i => (i.zero, i.size, i.bytes)) = some (some (.slice none 0 0), 1, 24) := by kernel_rfl
set_option maxRecDepth 100000 in
set_option maxHeartbeats 1000000 in
theorem FlatNil_Commands (w : World) : Calls Tryz.prog 70 #[.slice none 0 0] w fun e w' => e = .returned (.bool true) ∧ Below w.heap.size w w' := by
  obtain ⟨i1, hi1, hz01, hz11, hz21⟩ := info_parts info_Commands
  go_enter Tryz.func70, Tryz.ntmps70
  go_wp2_with fail
  go_loopw [3] (fun k wr => k = .int .i64 0 ∧ Below w.heap.size w wr) (fun _ _ => 0)
  case atStart => exact ⟨rfl, Below.refl _ _⟩
  case round =>
    obtain ⟨rfl, hb0⟩ := hrel
    go_wp2_with (refine wpList_make_full _ rfl _ _ 84 rfl wr.heap.size 280 i1 (.slice none 0 0) 1 Tryz.underlying84 hi1 hz01 hz11 .i64 .i64 _ _ 0 rfl rfl rfl rfl (by omega) (by decide) (Nat.le_refl _) ?_; intro w5 hown5 hg5; have HG5 := Lib.hid hg5; clear hown5 hg5)
    have hbm : Below w.heap.size w w5 := Below.grown hb0 HG5.out hb0.size (by simp)
    go_loopw [6] (fun k wr => k = .int .i64 0 ∧ Below w.heap.size w wr) (fun _ _ => 0)
    case atStart => exact ⟨rfl, hbm⟩
    case round =>
      obtain ⟨rfl, hb1⟩ := hrel
      go_wp2_with fail
      go_loopw [9] (fun k wr => k = .int .i64 0 ∧ Below w.heap.size w wr) (fun _ _ => 0)
      case atStart => exact ⟨rfl, hb1⟩
      case round =>
        obtain ⟨rfl, hb2⟩ := hrel
        go_wp2_with fail
        go_loopw [11] (fun k wr => k = .int .i64 0 ∧ Below w.heap.size w wr) (fun _ _ => 0)
        case atStart => exact ⟨rfl, hb2⟩
        case round =>
          obtain ⟨rfl, hb3⟩ := hrel
          go_wp2_with fail
          go_loopw [14] (fun k wr => k = .int .i64 0 ∧ Below w.heap.size w wr) (fun _ _ => 0)
          case atStart => exact ⟨rfl, hb3⟩
          case round =>
            obtain ⟨rfl, hb4⟩ := hrel
            go_wp2_with fail
            go_ret
            exact ⟨rfl, hb4⟩

end Go.Proofs.YtkmpchffflemcaaGreatDoor.Fl
end

/- ApartBytes: the bag of lists, and whether they lie apart. -/
section
set_option linter.unusedVariables false
set_option linter.unusedSimpArgs false
namespace Go.Proofs.YtkmpchffflemcaaGreatDoor.Fl
open Go.RowKit

def bagC (v : Value) : Array Value := #[.slice none 0 0, .slice none 0 0, .slice none 0 0, .slice none 0 0, v, .slice none 0 0, .slice none 0 0, .slice none 0 0, .slice none 0 0, .slice none 0 0, .slice none 0 0, .slice none 0 0, .slice none 0 0, .slice none 0 0, .slice none 0 0, .slice none 0 0, .slice none 0 0, .slice none 0 0, .slice none 0 0]
-- (*gangwaykit.bag).putBytes
set_option maxRecDepth 100000 in
set_option maxHeartbeats 4000000 in
theorem PutBytes (gb n : Nat) (v : Value) (base : Nat) (xs : List Value) (ao : Option Addr) (N C : Nat) (w : World) (hA : Arr w gb 86 (bagC v)) (hown : w.ownsRow base 22 1 v n xs) (hb : gb < base) (hbw : base ≤ w.heap.size) (hn : n ≤ 600000) :
    Calls Tryz.prog 28 #[.pointer (some ⟨gb, 0, none⟩), .slice ao N C] w fun e w' => (∃ u, e = .returned u) ∧ ∃ v', Arr w' gb 86 (bagC v') ∧ w'.ownsRow base 22 1 v' (n + 1) (xs ++ [.slice ao N C]) ∧ (∀ k, k < w.heap.size → k ≠ gb → k < base → w'.heap[k]? = w.heap[k]?) ∧ w'.os = w.os ∧ w'.tape = w.tape ∧ w'.output = w.output ∧ w.heap.size ≤ w'.heap.size := by
  obtain ⟨i1, hi1, hz01, hz11, hz21⟩ := info_parts rows_info
  obtain ⟨A, c, rfl⟩ := own_slice hown
  have x7 : w.cell? ⟨gb, 4, none⟩ = some (.slice A n c) := hA.cell 4
  have HA := Lib.hid hA
  have HO := Lib.hid hown
  have hgl := hA.lt
  clear hA hown
  have hnews : ∀ i u, [Value.slice ao N C][i]? = some u → (w.alloc (.cells #[.slice ao N C] 22)).cell? ((⟨w.heap.size, 0, none⟩ : Addr).add i) = some u := fun i u hu => by
    rw [add_zero_off, (Arr.fresh w 22 #[.slice ao N C]).cell i]
    simpa using hu
  have HNW := Lib.hid hnews
  clear hnews
  go_enter Tryz.func28, Tryz.ntmps28
  go_wp2_with (at_builtin; refine wpList_append_own _ rfl (.tmp 8) (.tmp 10) 24 rfl base 22 i1 (.slice none 0 0) 1 24 Tryz.underlying24 hi1 hz01 hz11 hz21 rfl (by decide) (.slice A n c) _ _ rfl (own_alloc HO.out _) ⟨w.heap.size, 0, none⟩ 1 1 [.slice ao N C] rfl rfl HNW.out (by intro u hu; rw [List.mem_singleton.1 hu]; rfl) (by unfold maxLen; omega) (by omega) (by simp; omega) ?_; intro v1 w1 hown1 hg hnil; obtain ⟨g1, c1, rfl⟩ := own_succ hown1; have hA1 := (HA.out.alloc _).app (own_alloc HO.out _) hg hb; have y7 : w1.cell? ⟨gb, 4, none⟩ = some (.slice A n c) := hA1.cell 4; have m7 := hA1.mark 4; have HA1 := Lib.hid hA1; have HO1 := Lib.hid hown1; have HG := Lib.hid hg; clear hown1 hg hnil hA1)
  have hgz := HG.out.size
  refine bodyPost_end (results_none Tryz.results28 _ _ _) rfl ⟨⟨_, rfl⟩, _, HA1.out.put 4 (.slice (some ⟨g1, 0, none⟩) (n + 1) c1), own_put HO1.out hb _, fun k h1 h2 h3 => ?_, HG.out.os, HG.out.tape, HG.out.output, by simp at hgz ⊢; omega⟩
  have e1 := Below.heap_setCell w1 ⟨gb, 4, none⟩ (.slice (some ⟨g1, 0, none⟩) (n + 1) c1) k h2
  have e2 := HG.out.block k (by simp; omega) (fun e => by have := own_lt HO.out e.symm; omega)
  exact (e1.trans e2).trans (heap_alloc_old w _ h1)

-- (*gangwaykit.bag).apart
set_option maxRecDepth 100000 in
set_option maxHeartbeats 4000000 in
theorem BagApart (gb : Nat) (v : Value) (T : Nat → Prop) (w : World) (hA : Arr w gb 86 (bagC v)) (hgb : ¬ T gb) (hF : ∀ W, Below w.heap.size w W → Calls Tryz.prog 56 #[v] W fun e w' => e = .returned (.bool true) ∧ Tch T W w') :
    Calls Tryz.prog 29 #[.pointer (some ⟨gb, 0, none⟩)] w fun e w' => e = .returned (.bool true) ∧ Tch T w w' := by
  have HL := Lib.hid hF; have HGB := Lib.hid hgb
  clear hF hgb
  have hb0 := Below.refl w.heap.size w
  have hA0 := hA
  have x0 : w.cell? ⟨gb, 0, none⟩ = some (.slice none 0 0) := hA.cell 0
  clear hA
  go_enter Tryz.func29, Tryz.ntmps29
  go_wp2_with fail
  refine (FlatNil_Limbs _).mono ?_
  rintro e w1 ⟨rfl, hb⟩
  have hA1 := hA0.keep hb
  have hb1 := ext_trans hb0 hb
  clear hb0 hA0 x0 hb
  have x1 : w1.cell? ⟨gb, 1, none⟩ = some (.slice none 0 0) := hA1.cell 1
  go_wp2_with fail
  refine (FlatNil_Ints _).mono ?_
  rintro e w2 ⟨rfl, hb⟩
  have hA2 := hA1.keep hb
  have hb2 := ext_trans hb1 hb
  clear hb1 hA1 x1 hb
  have x2 : w2.cell? ⟨gb, 2, none⟩ = some (.slice none 0 0) := hA2.cell 2
  go_wp2_with fail
  refine (FlatNil_Longs _).mono ?_
  rintro e w3 ⟨rfl, hb⟩
  have hA3 := hA2.keep hb
  have hb3 := ext_trans hb2 hb
  clear hb2 hA2 x2 hb
  have x3 : w3.cell? ⟨gb, 3, none⟩ = some (.slice none 0 0) := hA3.cell 3
  go_wp2_with fail
  refine (FlatNil_Texts _).mono ?_
  rintro e w4 ⟨rfl, hb⟩
  have hA4 := hA3.keep hb
  have hb4 := ext_trans hb3 hb
  clear hb3 hA3 x3 hb
  have x4 : w4.cell? ⟨gb, 4, none⟩ = some (v) := hA4.cell 4
  go_wp2_with fail
  refine (HL.out _ hb4).mono ?_
  rintro e w5 ⟨rfl, ht⟩
  have hA5 := ht.arr hA4 HGB.out
  have ht5 : Tch T w w5 := ((Tch.refl _ w).below hb4).trans ht
  clear ht hb4 hA4 x4
  have x5 : w5.cell? ⟨gb, 5, none⟩ = some (.slice none 0 0) := hA5.cell 5
  go_wp2_with fail
  refine (FlatNil_Reals _).mono ?_
  rintro e w6 ⟨rfl, hb⟩
  have hA6 := hA5.keep hb
  have ht6 := ht5.below hb
  clear ht5 hA5 x5 hb
  have x6 : w6.cell? ⟨gb, 6, none⟩ = some (.slice none 0 0) := hA6.cell 6
  go_wp2_with fail
  refine (FlatNil_Fates _).mono ?_
  rintro e w7 ⟨rfl, hb⟩
  have hA7 := hA6.keep hb
  have ht7 := ht6.below hb
  clear ht6 hA6 x6 hb
  have x7 : w7.cell? ⟨gb, 7, none⟩ = some (.slice none 0 0) := hA7.cell 7
  go_wp2_with fail
  refine (FlatNil_Spans _).mono ?_
  rintro e w8 ⟨rfl, hb⟩
  have hA8 := hA7.keep hb
  have ht8 := ht7.below hb
  clear ht7 hA7 x7 hb
  have x8 : w8.cell? ⟨gb, 8, none⟩ = some (.slice none 0 0) := hA8.cell 8
  go_wp2_with fail
  refine (FlatNil_Frames _).mono ?_
  rintro e w9 ⟨rfl, hb⟩
  have hA9 := hA8.keep hb
  have ht9 := ht8.below hb
  clear ht8 hA8 x8 hb
  have x9 : w9.cell? ⟨gb, 9, none⟩ = some (.slice none 0 0) := hA9.cell 9
  go_wp2_with fail
  refine (FlatNil_Cabins _).mono ?_
  rintro e w10 ⟨rfl, hb⟩
  have hA10 := hA9.keep hb
  have ht10 := ht9.below hb
  clear ht9 hA9 x9 hb
  have x10 : w10.cell? ⟨gb, 10, none⟩ = some (.slice none 0 0) := hA10.cell 10
  go_wp2_with fail
  refine (FlatNil_Records _).mono ?_
  rintro e w11 ⟨rfl, hb⟩
  have hA11 := hA10.keep hb
  have ht11 := ht10.below hb
  clear ht10 hA10 x10 hb
  have x11 : w11.cell? ⟨gb, 11, none⟩ = some (.slice none 0 0) := hA11.cell 11
  go_wp2_with fail
  refine (FlatNil_Bookings _).mono ?_
  rintro e w12 ⟨rfl, hb⟩
  have hA12 := hA11.keep hb
  have ht12 := ht11.below hb
  clear ht11 hA11 x11 hb
  have x12 : w12.cell? ⟨gb, 12, none⟩ = some (.slice none 0 0) := hA12.cell 12
  go_wp2_with fail
  refine (FlatNil_Requests _).mono ?_
  rintro e w13 ⟨rfl, hb⟩
  have hA13 := hA12.keep hb
  have ht13 := ht12.below hb
  clear ht12 hA12 x12 hb
  have x13 : w13.cell? ⟨gb, 13, none⟩ = some (.slice none 0 0) := hA13.cell 13
  go_wp2_with fail
  refine (FlatNil_Replies _).mono ?_
  rintro e w14 ⟨rfl, hb⟩
  have hA14 := hA13.keep hb
  have ht14 := ht13.below hb
  clear ht13 hA13 x13 hb
  have x14 : w14.cell? ⟨gb, 14, none⟩ = some (.slice none 0 0) := hA14.cell 14
  go_wp2_with fail
  refine (FlatNil_Fares _).mono ?_
  rintro e w15 ⟨rfl, hb⟩
  have hA15 := hA14.keep hb
  have ht15 := ht14.below hb
  clear ht14 hA14 x14 hb
  have x15 : w15.cell? ⟨gb, 15, none⟩ = some (.slice none 0 0) := hA15.cell 15
  go_wp2_with fail
  refine (FlatNil_Waits _).mono ?_
  rintro e w16 ⟨rfl, hb⟩
  have hA16 := hA15.keep hb
  have ht16 := ht15.below hb
  clear ht15 hA15 x15 hb
  have x16 : w16.cell? ⟨gb, 16, none⟩ = some (.slice none 0 0) := hA16.cell 16
  go_wp2_with fail
  refine (FlatNil_Lines _).mono ?_
  rintro e w17 ⟨rfl, hb⟩
  have hA17 := hA16.keep hb
  have ht17 := ht16.below hb
  clear ht16 hA16 x16 hb
  have x17 : w17.cell? ⟨gb, 17, none⟩ = some (.slice none 0 0) := hA17.cell 17
  go_wp2_with fail
  refine (FlatNil_Turns _).mono ?_
  rintro e w18 ⟨rfl, hb⟩
  have hA18 := hA17.keep hb
  have ht18 := ht17.below hb
  clear ht17 hA17 x17 hb
  have x18 : w18.cell? ⟨gb, 18, none⟩ = some (.slice none 0 0) := hA18.cell 18
  go_wp2_with fail
  refine (FlatNil_Commands _).mono ?_
  rintro e w19 ⟨rfl, hb⟩
  have hA19 := hA18.keep hb
  have ht19 := ht18.below hb
  clear ht18 hA18 x18 hb
  go_wp2_with fail
  go_ret
  exact ⟨rfl, ht19⟩

def hdrs (AH : Nat → Option Addr) (N C : Nat → Nat) (j : Nat) : List Value := (List.range j).map fun q => .slice (AH q) (N q) (C q)
theorem hdrs_next (AH : Nat → Option Addr) (N C : Nat → Nat) (j : Nat) : hdrs AH N C (j + 1) = hdrs AH N C j ++ [.slice (AH j) (N j) (C j)] := by simp [hdrs, List.range_succ]
theorem hdrs_at {AH : Nat → Option Addr} {N C : Nat → Nat} {j q : Nat} (h : q < j) : (hdrs AH N C j)[q]? = some (.slice (AH q) (N q) (C q)) := by simp [hdrs, List.getElem?_map, List.getElem?_range h]
-- gangwaykit.ApartBytes
set_option maxRecDepth 100000 in
set_option maxHeartbeats 4000000 in
theorem ApartBytes (hd m hc : Nat) (AD AH : Nat → Option Addr) (N C : Nat → Nat) (w : World) (hLS : Lists 5 ElB w hd m AD AH N C) (hm0 : 0 < m) :
    Calls Tryz.prog 17 #[.slice (some ⟨hd, 0, none⟩) m hc] w fun e w' => e = .returned (.bool true) ∧ Tch (inG AD m) w w' := by
  have hm := hLS.few
  have hdl := hLS.lt
  have HL := Lib.hid hLS
  clear hLS
  go_enter Tryz.func17, Tryz.ntmps17
  go_wp2_with fail
  obtain ⟨gb, hgb⟩ : ∃ gb, gb = w.heap.size := ⟨_, rfl⟩
  have HGB := Lib.hid hgb
  have hAg := Arr.new (w := w) (t := 86) (cs := bagC (.slice none 0 0)) hgb
  rw [← hgb]
  clear hgb
  go_loopw [4] (fun i wr => ∃ (j : Nat) (v : Value), j ≤ m ∧ i = .int .i64 j ∧ Arr wr gb 86 (bagC v) ∧ wr.ownsRow (gb + 1) 22 1 v j (hdrs AH N C j) ∧ Below w.heap.size w wr) (fun i _ => (m - intOf i).toNat)
  case atStart => exact ⟨0, .slice none 0 0, by omega, rfl, hAg, own_nil _ _ _ _, ext_alloc (Below.refl _ _) _⟩
  case round =>
    obtain ⟨j, v, hj, rfl, hA, hown, hb⟩ := hrel
    by_cases h : j < m
    · have x0 : wr.cell? ⟨hd, j, none⟩ = some (.slice (AH j) (N j) (C j)) := (hb.cell (p := ⟨hd, j, none⟩) hdl).trans (HL.out.hdr j h)
      have hj1 : (j : Int) < (m : Int) := by omega
      have hgl := hA.lt
      have HA := Lib.hid hA; have HO := Lib.hid hown; have HBB := Lib.hid hb
      clear hA hown hb
      go_wp2_with fail
      refine (PutBytes gb j v (gb + 1) _ (AH j) (N j) (C j) _ HA.out HO.out (by omega) (by omega) (by omega)).mono ?_
      rintro e w4 ⟨⟨u, rfl⟩, v', hA', hown', hk, ho, htp, hop, hsz⟩
      have hA4 := Lib.hid hA'; have hO4 := Lib.hid hown'
      have hb4 : Below w.heap.size w w4 := ⟨ho.trans HBB.out.os, htp.trans HBB.out.tape, hop.trans HBB.out.output, Nat.le_trans HBB.out.size hsz, fun k hk1 => (hk k (by have := HBB.out.size; omega) (by have := HGB.out; omega) (by have := HGB.out; omega)).trans (HBB.out.block k hk1)⟩
      clear hA' hown' hk ho htp hop hsz
      go_wp2_with fail
      go_roundw
      case rel => exact ⟨j + 1, v', by omega, by go_num, hA4.out, by rw [hdrs_next]; exact hO4.out, hb4⟩
      case measure => simp [intOf]; omega
    · obtain rfl : j = m := by omega
      obtain ⟨k, rfl⟩ : ∃ k, j = k + 1 := ⟨j - 1, by omega⟩
      obtain ⟨g2, c2, rfl⟩ := own_succ hown
      have hl2 := own_lt (g := g2) hown rfl
      have hin : ∀ x, inG AD (k + 1) x → x < w.heap.size := fun x ⟨q, hq, hx⟩ => by
        rcases HL.out.form q hq with ⟨h1, _⟩ | ⟨g, h1, _, h2⟩
        · unfold At at hx; rw [h1] at hx; cases hx
        · rw [hx.eq h1]; exact h2.lt
      have hL0 := HL.out.keep elB_ok hb
      have hL2 : Lists 5 ElB wr g2 (k + 1) AD AH N C := ⟨fun q hq => by rw [hown.cellAt q (by omega)]; exact hdrs_at hq, hL0.form, hL0.ne, fun hx => by have h1 := hin g2 hx; have h2 := HGB.out; omega, hl2.1, hm, hL0.small⟩
      have HG2 := Lib.hid (show ¬ inG AD (k + 1) gb from fun hx => by have h1 := hin gb hx; have h2 := HGB.out; omega)
      have HFB := Lib.hid (show ∀ W, Below wr.heap.size wr W → Calls Tryz.prog 56 #[.slice (some ⟨g2, 0, none⟩) (k + 1) c2] W fun e w' => e = .returned (.bool true) ∧ Tch (inG AD (k + 1)) W w' from fun W hW => FlatBytes g2 (k + 1) c2 AD AH N C W (hL2.keep elB_ok hW))
      have HA := Lib.hid hA; have HBB := Lib.hid hb
      clear hin hL0 hL2 hA hb hown
      go_wp2_with fail
      refine (BagApart gb _ (inG AD (k + 1)) _ HA.out HG2.out HFB.out).mono ?_
      rintro e w5 ⟨rfl, ht⟩
      have ht5 := ((Tch.refl (inG AD (k + 1)) w).below HBB.out).trans ht
      go_wp2_with fail
      go_ret
      exact ⟨rfl, ht5⟩
set_option maxRecDepth 100000 in
set_option maxHeartbeats 4000000 in
theorem ApartBytes_nil (A : Option Addr) (hc : Nat) (w : World) :
    Calls Tryz.prog 17 #[.slice A 0 hc] w fun e w' => e = .returned (.bool true) ∧ Below w.heap.size w w' := by
  go_enter Tryz.func17, Tryz.ntmps17
  go_wp2_with fail
  obtain ⟨gb, hgb⟩ : ∃ gb, gb = w.heap.size := ⟨_, rfl⟩
  have hAg := Arr.new (w := w) (t := 86) (cs := bagC (.slice none 0 0)) hgb
  rw [← hgb]
  clear hgb
  have hbg := ext_alloc (Below.refl _ w) (.cells (bagC (.slice none 0 0)) 86)
  go_loopw [4] (fun i wr => i = .int .i64 0 ∧ Arr wr gb 86 (bagC (.slice none 0 0)) ∧ Below w.heap.size w wr) (fun _ _ => 0)
  case atStart => exact ⟨rfl, hAg, hbg⟩
  case round =>
    obtain ⟨rfl, hA, hb⟩ := hrel
    have HA := Lib.hid hA; have HBB := Lib.hid hb
    clear hA hb hAg hbg
    go_wp2_with fail
    refine (BagApart gb _ (fun _ => False) _ HA.out id (fun W _ => (FlatNil_Bytes W).mono fun e w' h => ⟨h.1, (Tch.refl _ W).below h.2⟩)).mono ?_
    rintro e w5 ⟨rfl, ht⟩
    have ht5 := Tch.fresh ht HBB.out (fun j hj => hj.elim)
    go_wp2_with fail
    go_ret
    exact ⟨rfl, ht5⟩

end Go.Proofs.YtkmpchffflemcaaGreatDoor.Fl
end
