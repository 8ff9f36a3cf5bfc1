/- ManifestAgain: what is read of a text is told as that text; what is refused at a line is refused there whatever stands behind. -/
import Derived.Test.YtpoijhjjbmaedaaGreatDoorMan11
set_option linter.unusedVariables false
set_option linter.unusedSimpArgs false
namespace Go.Proofs.YtpoijhjjbmaedaaGreatDoor.Man
open Go.RowKit

theorem byte_ne {b : UInt8} (h : b ≠ 10) : (((b.toNat : Nat) : Int) != 10) = true ∧ ¬ ((b.toNat : Nat) : Int) = 10 := by
  have : ¬ ((b.toNat : Nat) : Int) = 10 := fun e => h (by
    have : b.toNat = 10 := by omega
    exact UInt8.toNat_inj.1 this)
  exact ⟨by simpa using this, this⟩
set_option maxRecDepth 100000 in
set_option maxHeartbeats 4000000 in
theorem Again_in (s tl : ByteArray) (w : World) (hw : Wd w) (hs : s.size ≤ 140737488355328) (htl : tl.size ≤ 140737488355328) :
    Calls Tryz.prog 7 #[.string s, .string tl] w fun e w' => e = .returned (.bool true) ∧ Below w.heap.size w w' := by
  have HW := Lib.hid hw
  have HS := Lib.hid hs; have HTL := Lib.hid htl
  have hsum0 : ((s.size : Int) + (tl.size : Int)) ≤ 281474976710656 := by omega
  clear hw hs htl
  go_enter Tryz.func7, Tryz.ntmps7
  go_wp2_with fail
  refine (awake_in w HW.out).mono ?_
  rintro e w1 ⟨rfl, hb1⟩
  have HB1 := Lib.hid hb1
  clear hb1
  by_cases hbig : (20000 : Int) < (s.size : Int) + (tl.size : Int)
  · go_wp2_with fail
    go_ret
    exact ⟨rfl, HB1.out⟩
  · have hle : (s.size : Int) + (tl.size : Int) ≤ 20000 := by omega
    go_wp2_with fail
    refine (Parse_at s w1 (HW.out.keep HB1.out) (by omega)).mono ?_
    rintro e w2 ⟨hp, hb2⟩
    have HB2 := Lib.hid (ext_trans HB1.out hb2)
    clear hb2
    rcases hp with ⟨ls, v, h1, rfl, h3⟩ | ⟨p, x, r, ls, h1, h2, h3, rfl⟩
    · obtain ⟨VA, vc, rfl⟩ := RowIn.any h3
      have hL := RowIn.lines h3
      have htx := good_text h1
      have hbk := bulk_le ls
      have hts : (⟨(txtL ls).toArray⟩ : ByteArray) = s := by rw [htx]
      have htl2 : (txtL ls).length ≤ 20000 := by rw [htx, ← Lib.size_eq]; omega
      have HLN := Lib.hid hL; have HTS := Lib.hid hts; have HBK := Lib.hid hbk; have HT2 := Lib.hid htl2
      clear h1 h3 hL htx hbk hts htl2
      go_wp2_with fail
      refine (Text_in ls VA vc w2 HLN.out (by have h4 := HBK.out; have h5 := HT2.out; omega) (by have h4 := HBK.out; have h5 := HT2.out; omega)).mono ?_
      rintro e w3 ⟨rfl, hb3⟩
      rw [HTS.out]
      have HB3 := Lib.hid (ext_trans HB2.out hb3)
      clear hb3
      go_wp2_with fail
      go_ret
      exact ⟨by simp, HB3.out⟩
    · have hpl : p.length ≤ 20000 := by
        have h4 := lineList_len s.size s
        have h5 : (linesB s).length ≤ s.size := h4
        rw [h1, List.length_append] at h5
        omega
      have hLB := linesB_L s.size s (Nat.le_refl _)
      rw [h1, List.map_append, List.map_cons] at hLB
      obtain ⟨e0, e1, e2, e3⟩ := end_byte hLB.symm
      rw [List.length_map] at e0 e1 e3
      have hpre := map_readL h2
      have hxn : readL x.data.toList = none := by rw [← readV_readL, h3]; rfl
      have hah := linesL_ahead hLB.symm
      have hlen : (linesL s.data.toList).length = p.length + 1 + r.length := by rw [← hLB]; simp; omega
      have hll : ls.length = p.length := by have := congrArg List.length h2; simpa using this.symm
      obtain ⟨O, hO⟩ : ∃ O : Nat → Nat, off (linesL s.data.toList) = O := ⟨_, rfl⟩
      have hk0 := fun k (hk : k < p.length + 1) => line_lies s.data.toList k (by rw [hlen]; omega)
      have hz := off_zero (linesL s.data.toList)
      rw [hO] at e0 e1 e3 hz
      simp only [hO] at hk0
      have HK := Lib.hid hk0
      have HE := Lib.hid (⟨e0, e1, e2, e3⟩ : O p.length = _ ∧ O (p.length + 1) = _ ∧ s.data.toList = _ ∧ _)
      have HZ := Lib.hid hz
      have HP := Lib.hid hpre; have HX := Lib.hid hxn; have HAH := Lib.hid hah; have HLL := Lib.hid hll
      clear h1 h2 h3 hLB e0 e1 e2 e3 hpre hxn hah hlen hll hO hk0 hz
      have hn1 : ¬ (p.length : Int) + 1 < 1 := by omega
      have hplI : (p.length : Int) ≤ 20000 := by omega
      go_wp2_with fail
      go_loopw [8, 9, 10] (fun a e l wr => ∃ k : Nat, k ≤ p.length + 1 ∧ a = .int .i64 (O (k - 1) : Nat) ∧ e = .int .i64 (O k : Nat) ∧ l = .int .i64 ((k : Int) + 1) ∧ w2 = wr) (fun _ _ l _ => (p.length + 2 - intOf l).toNat)
      case atStart => exact ⟨0, by omega, by rw [Nat.zero_sub, HZ.out]; rfl, by rw [HZ.out]; rfl, rfl, rfl⟩
      case round =>
        obtain ⟨k, hk, rfl, rfl, rfl, rfl⟩ := hrel
        by_cases hkn : k < p.length + 1
        · have hk1 : (k : Int) + 1 ≤ (p.length : Int) + 1 := by omega
          obtain ⟨m, m1, m2, m3, m4, m5⟩ := HK.out k hkn
          have hsz : O (k + 1) ≤ s.size := by rw [Lib.size_eq]; exact m3
          obtain ⟨E, hE⟩ : ∃ E, O k = E := ⟨_, rfl⟩
          rw [hE] at m2 m4 ⊢
          have HM4 := Lib.hid m4; have HM5 := Lib.hid m5; have HE' := Lib.hid hE; have HM2 := Lib.hid m2; have HM3 := Lib.hid hsz
          clear m4 m5 hE m2 m3 hsz
          have hEn : (0 : Int) ≤ (E : Int) := by omega
          have hEs : (E : Int) + (m : Int) ≤ (s.size : Int) := by have h1 := HM2.out; have h2 := HM3.out; omega
          go_wp2_with fail
          go_loopw [9] (fun e wr => ∃ j : Nat, j ≤ m ∧ e = .int .i64 ((E : Int) + (j : Int)) ∧ w2 = wr) (fun e _ => (E + m - intOf e).toNat)
          case atStart => exact ⟨0, by omega, by simp, rfl⟩
          case round =>
            obtain ⟨j, hj, rfl, rfl⟩ := hrel
            by_cases hjm : j < m
            · have hlt : (E : Int) + (j : Int) < (s.size : Int) := by omega
              by_cases hj0 : j = 0
              · subst hj0
                go_wp2_with fail
                go_roundw
                case rel => exact ⟨1, by omega, by go_num, trivial⟩
                case measure => simp [intOf]; omega
              · obtain ⟨b, hb, hget⟩ := HM4.out j (by omega) hjm
                obtain ⟨hn, hn'⟩ := byte_ne hb
                have hidx : ∀ W : World, (Instr.index 9 (.string s) (.int .i64 ((E : Int) + (j : Int) - 1))).run Tryz.prog W = .ok (.int .u8 (b.toNat : Nat)) W := fun W => by
                  have h1 := idx_str s (E + j - 1) b hget W
                  rw [show ((E + j - 1 : Nat) : Int) = (E : Int) + (j : Int) - 1 by omega] at h1
                  exact h1
                have hne : ¬ (E : Int) + (j : Int) = (E : Int) := by omega
                go_wp2_with fail
                go_roundw
                case rel => exact ⟨j + 1, by omega, by go_num, trivial⟩
                case measure => simp [intOf]; omega
            · obtain rfl : j = m := by omega
              have hrel : ∃ k' : Nat, k' ≤ p.length + 1 ∧ Value.int .i64 (E : Int) = .int .i64 (O (k' - 1) : Nat) ∧ Value.int .i64 ((E : Int) + (j : Int)) = .int .i64 (O k' : Nat) ∧ Value.int .i64 ((k : Int) + 1 + 1) = .int .i64 ((k' : Int) + 1) ∧ True :=
                ⟨k + 1, by omega, by rw [Nat.add_sub_cancel, HE'.out], by rw [HM2.out]; congr 1, by congr 1, trivial⟩
              have HREL := Lib.hid hrel
              clear hrel
              by_cases hend : (E : Int) + (j : Int) < (s.size : Int)
              · have hget : s.data.toList[O (k + 1) - 1]? = some 10 := by
                  rcases HM5.out with h1 | ⟨h1, _⟩
                  · exact h1
                  · have h2 := HM2.out
                    rw [← Lib.size_eq] at h1
                    omega
                have hidx : ∀ W : World, (Instr.index 9 (.string s) (.int .i64 ((E : Int) + (j : Int) - 1))).run Tryz.prog W = .ok (.int .u8 10) W := fun W => by
                  have h1 := idx_str s (O (k + 1) - 1) 10 hget W
                  have h2 := HM2.out
                  rw [show ((O (k + 1) - 1 : Nat) : Int) = (E : Int) + (j : Int) - 1 by omega] at h1
                  exact h1
                have hne : ¬ (E : Int) + (j : Int) = (E : Int) := by omega
                clear hget
                go_wp2_with fail
                go_roundw
                case rel => exact HREL.out
                case measure => simp [intOf]; omega
              · go_wp2_with fail
                go_roundw
                case rel => exact HREL.out
                case measure => simp [intOf]; omega
        · obtain rfl : k = p.length + 1 := by omega
          have hk1 : ¬ ((p.length + 1 : Nat) : Int) + 1 ≤ (p.length : Int) + 1 := by omega
          obtain ⟨e0, e1, e2, e3⟩ := HE.out
          obtain ⟨m, m1, m2, m3, _, _⟩ := HK.out p.length (by omega)
          obtain ⟨P, hP⟩ : ∃ P, p.map (·.data.toList) = P := ⟨_, rfl⟩
          have hPl : P.length = p.length := by rw [← hP]; simp
          rw [hP] at e0 e1 e2
          have hpre := HP.out
          rw [hP] at hpre
          have hah := HAH.out
          rw [hP] at hah
          obtain ⟨A, hA⟩ : ∃ A, O p.length = A := ⟨_, rfl⟩
          obtain ⟨E, hE⟩ : ∃ E, O (p.length + 1) = E := ⟨_, rfl⟩
          rw [show p.length + 1 - 1 = p.length from rfl]
          rw [hA] at e0 m2 ⊢
          rw [hE] at e1 e3 m2 m3 ⊢
          rw [← Lib.size_eq] at m3
          obtain ⟨AH, hAH⟩ : ∃ AH : ByteArray, (⟨(s.data.toList.take A).toArray⟩ : ByteArray) = AH := ⟨_, rfl⟩
          have hcut : ∀ W : World, (Instr.slice 9 (.string s) none (some (.int .i64 (A : Int))) none).run Tryz.prog W = .ok (.string AH) W := fun W => by
            have := cut_str s A (by omega) W
            rw [hAH] at this; exact this
          have hAHd : AH.data.toList = P.flatten := by
            rw [← hAH]
            show (s.data.toList.take A) = _
            rw [e2, e0, List.take_left]
          have hAHs : AH.size ≤ 20000 := by
            rw [Lib.size_eq, hAHd, ← e0]; omega
          have hsumA : sumL 0 (linesL AH.data.toList) = (ls.map trip, 0) := by
            rw [hAHd]
            have h1 := linesL_term (b := []) hah
            rw [List.append_nil] at h1
            rw [h1, show linesL [] = [] from rfl, List.append_nil]
            exact sumL_good 0 _ _ hpre
          have HA := Lib.hid hsumA
          have hAs : (A : Int) < (s.size : Int) := by omega
          have HC := Lib.hid (⟨hAHd, e0, e1, e2⟩ : _ ∧ A = P.flatten.length ∧ E = P.flatten.length + x.data.toList.length ∧ _)
          have HPR := Lib.hid hpre; have HPA := Lib.hid hah
          have HM3 := Lib.hid (show 1 ≤ E ∧ E ≤ s.size from ⟨by omega, by omega⟩)
          have HE3 := Lib.hid e3
          have hlsp : (ls.length : Int) = (p.length : Int) := by rw [HLL.out]
          have HAHS := Lib.hid hAHs
          clear hsumA hAHd hAH e0 e1 e2 e3 hpre hah m1 m2 m3 hA hE hAHs
          go_wp2_with fail
          refine (Parse_at AH w2 (HW.out.keep HB2.out) HAHS.out).mono ?_
          rintro e w3 hp
          obtain ⟨⟨v3, rfl, hR3⟩, hb3⟩ := ParseOut.good hp HA.out
          obtain ⟨V3, vc3, rfl⟩ := RowIn.any hR3
          have HB3 := Lib.hid (ext_trans HB2.out hb3)
          rw [HLL.out]
          clear hp hR3 hb3
          have hE1 : (1 : Int) ≤ (E : Int) ∧ (E : Int) ≤ (s.size : Int) := by have h1 := HM3.out; omega
          obtain ⟨hE1, hE2⟩ := hE1
          rcases HE3.out with ⟨hT, hget⟩ | ⟨b, hb, hget⟩
          · have hidx : ∀ W : World, (Instr.index 9 (.string s) (.int .i64 ((E : Int) - 1))).run Tryz.prog W = .ok (.int .u8 10) W := fun W => by
              have h1 := idx_str s (E - 1) 10 hget W
              rw [show ((E - 1 : Nat) : Int) = (E : Int) - 1 by omega] at h1
              exact h1
            obtain ⟨BH, hBH⟩ : ∃ BH : ByteArray, (⟨(s.data.toList.take E).toArray⟩ : ByteArray) = BH := ⟨_, rfl⟩
            have hcutE : ∀ W : World, (Instr.slice 9 (.string s) none (some (.int .i64 (E : Int))) none).run Tryz.prog W = .ok (.string BH) W := fun W => by
              have := cut_str s E HM3.out.2 W
              rw [hBH] at this; exact this
            have hBd : BH.data.toList = P.flatten ++ x.data.toList := by
              obtain ⟨q1, q2, q3, q4⟩ := HC.out
              rw [← hBH]
              show (s.data.toList.take E) = _
              rw [q4, q3, ← List.append_assoc, show P.flatten.length + x.data.toList.length = (P.flatten ++ x.data.toList).length by simp, List.take_left]
            have hBs : BH.size ≤ s.size := by
              rw [Lib.size_eq, hBd, List.length_append, ← HC.out.2.2.1]
              exact HM3.out.2
            have hsz : ¬ 9223372036854775807 < BH.size + tl.size := by omega
            obtain ⟨TX, hTX⟩ : ∃ TX : ByteArray, BH ++ tl = TX := ⟨_, rfl⟩
            have hTXd : TX.data.toList = P.flatten ++ x.data.toList ++ tl.data.toList := by rw [← hTX, ByteArray.data_append]; simp [hBd]
            have hTXs : TX.size ≤ 20000 := by
              have h1 : TX.size = BH.size + tl.size := by rw [← hTX]; simp
              omega
            have hsumB : sumL 0 (linesL TX.data.toList) = ([], p.length + 1) := by
              have h1 := linesL_term (P := P ++ [x.data.toList]) (b := tl.data.toList) (fun y hy => by
                rcases List.mem_append.1 hy with hy | hy
                · exact HPA.out y hy
                · rw [List.mem_singleton.1 hy]; exact hT)
              rw [hTXd]
              have h2 : (P ++ [x.data.toList]).flatten = P.flatten ++ x.data.toList := by simp
              rw [h2] at h1
              rw [h1, List.append_assoc]
              have h3 := sumL_bad 0 P x.data.toList (linesL tl.data.toList) _ HPR.out HX.out
              rw [Nat.zero_add, hPl] at h3
              exact h3
            have HSB := Lib.hid hsumB; have HTXS := Lib.hid hTXs; have HTX := Lib.hid hTX
            clear hsumB hTXs hTX hTXd hBd hBH hget hT
            go_wp2_with fail
            rw [HTX.out]
            refine (Parse_at TX w3 (HW.out.keep HB3.out) HTXS.out).mono ?_
            rintro e w4 hp
            obtain ⟨rfl, hb4⟩ := ParseOut.bad hp HSB.out
            have HB4 := Lib.hid (ext_trans HB3.out hb4)
            clear hp hb4
            go_wp2_with fail
            go_ret
            exact ⟨by simp, HB4.out⟩
          · obtain ⟨hn, hn'⟩ := byte_ne hb
            have hidx : ∀ W : World, (Instr.index 9 (.string s) (.int .i64 ((E : Int) - 1))).run Tryz.prog W = .ok (.int .u8 (b.toNat : Nat)) W := fun W => by
              have h1 := idx_str s (E - 1) b hget W
              rw [show ((E - 1 : Nat) : Int) = (E : Int) - 1 by omega] at h1
              exact h1
            clear hget
            go_wp2_with fail
            go_ret
            exact ⟨rfl, HB3.out⟩

end Go.Proofs.YtpoijhjjbmaedaaGreatDoor.Man
