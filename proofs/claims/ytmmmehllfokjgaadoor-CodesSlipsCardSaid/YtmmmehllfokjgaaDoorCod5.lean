/- The contract of the reference's Parse. -/
import Derived.Test.YtmmmehllfokjgaaDoorCod4
namespace Go.Proofs.YtmmmehllfokjgaaDoor.Cod
open Go.RowKit

def wrL (s : ByteArray) (k : Nat) : List Value := (List.range k).map fun i => .int .i64 (wr s i : Nat)
theorem wrL_next (s : ByteArray) (k : Nat) : wrL s (k + 1) = wrL s k ++ [.int .i64 (wr s k : Nat)] := by
  unfold wrL; rw [List.range_succ, List.map_append]; rfl
theorem wrL_at {s : ByteArray} {k j : Nat} (h : j < k) : (wrL s k)[j]? = some (.int .i64 (wr s j : Nat)) := by
  unfold wrL; simp [h]
theorem xor_zero_iff {a b : Nat} (ha : a < 32) (hb : b < 32) : (a ^^^ b = 0) ↔ a = b := by
  have h : ∀ a b : Fin 32, (a.val ^^^ b.val = 0) ↔ a.val = b.val := by decide +kernel
  exact h ⟨a, ha⟩ ⟨b, hb⟩

-- gangwayref15.Parse
set_option maxRecDepth 100000 in
set_option maxHeartbeats 1000000 in
theorem rParse (s : ByteArray) (K : Nat) (hK : K ≤ 8) (hg : ∀ j, j < K → Good s j) (hb : K < 8 → ¬ Good s K) (w : World) :
    Calls Tryd.prog 14 #[.string s] w fun e w' => e = .returned (.tuple #[.int .u32 ((ans s K).1 : Nat), .int .i64 ((ans s K).2.1 : Nat), .int .i64 ((ans s K).2.2 : Nat)]) ∧ Below w.heap.size w w' := by
  obtain ⟨i0, hi, hz0, hz1, hz2⟩ := info_parts int_info
  have HG := Lib.hid hg; clear hg
  have HB := Lib.hid hb; clear hb
  go_enter Tryd.func14, Tryd.ntmps14
  go_wp2_with fail
  go_loopw [5, 6] (fun v i wr => ∃ (k c : Nat) (A : Option Addr), k ≤ K ∧ i = .int .i64 k ∧ v = .slice A k c ∧ wr.ownsRow w.heap.size 3 1 (.slice A k c) k (wrL s k) ∧ Below w.heap.size w wr) (fun _ i _ => (8 - intOf i).toNat)
  case atStart => exact ⟨0, 0, none, by omega, rfl, rfl, ⟨by simp [wrL], .inl ⟨rfl, rfl⟩⟩, Below.refl _ _⟩
  case round =>
    obtain ⟨k, c, A, hk, rfl, rfl, hown, hb⟩ := hrel
    have hz := hb.size
    by_cases h : k < K
    · obtain ⟨g1, g2⟩ := HG.out k h
      have g4 := byt_lt s k
      have hwl := wr_lt s k
      have hwI : wI (byt s k) = ((Cod.wr s k : Nat) : Int) := by unfold Cod.wr; omega
      have g3 : ((s[k].toNat : Nat) : Int) = ((byt s k : Nat) : Int) := by rw [byt_eq s k g1]
      clear g2
      have HO := Lib.hid hown; clear hown
      go_wp2_with fail
      refine (rWorth (byt s k) g4 _).mono ?_
      rintro e w1 ⟨rfl, rfl⟩
      go_wp2_with fail
      refine (rWorth (byt s k) g4 _).mono ?_
      rintro e w1 ⟨rfl, rfl⟩
      go_wp2_with (at_builtin; go_must (refine wpList_append_lies _ rfl (.tmp 25) (.tmp 30) 33 rfl w.heap.size 3 i0 (.int .i64 0) 1 8 Tryd.underlying33 hi hz0 hz1 hz2 rfl (by decide) (.slice A k c) k (wrL s k) (by rfl) (HO.out.alloc _) ⟨wr.heap.size, 0, none⟩ 1 1 [.int .i64 (Cod.wr s k : Nat)] (by rfl) rfl (cell_one_new _ _ _) (by simp [Value.oneCell']) (by omega) (by unfold maxLen; omega) (by omega) (by simp; omega) (wr.heap.size + 1) (by simp) ?_); intro g cap w2 hown2 hgrow hat hlt)
      go_roundw
      case rel =>
        refine ⟨k + 1, cap, some ⟨g, 0, none⟩, by omega, by go_num, rfl, ?_, ext_append (ext_alloc hb _) (HO.out.alloc _) hgrow⟩
        rw [wrL_next]; exact hown2
      case measure => simp [intOf]; omega
    · obtain rfl : k = K := by omega
      clear h
      by_cases h8 : k < 8
      · have HA := Lib.hid (@ans_bad s k h8)
        by_cases g1 : k < s.size
        · have g2 : wI (byt s k) < 0 := by
            rcases Int.lt_or_le (wI (byt s k)) 0 with h9 | h9
            · exact h9
            · exact absurd ⟨g1, h9⟩ (HB.out h8)
          have g3 : ((s[k].toNat : Nat) : Int) = ((byt s k : Nat) : Int) := by rw [byt_eq s k g1]
          have g4 := byt_lt s k
          go_wp2_with fail
          refine (rWorth (byt s k) g4 _).mono ?_
          rintro e w1 ⟨rfl, rfl⟩
          go_wp2_with fail
          go_ret3
          exact ⟨by rw [HA.out]; rfl, hb⟩
        · go_wp2_with fail
          go_ret3
          exact ⟨by rw [HA.out]; rfl, hb⟩
      · obtain rfl : k = 8 := by omega
        obtain ⟨g, cap, hv, hbg, hlt⟩ := hown.form (by omega)
        obtain ⟨rfl, rfl⟩ : A = some ⟨g, 0, none⟩ ∧ c = cap := by simpa using hv
        clear hv
        have hcells : ∀ j, j < 8 → wr.cell? ⟨g, j, none⟩ = some (.int .i64 (Cod.wr s j : Nat)) := fun j hj => by
          rw [hown.cellAt j (by omega), wrL_at hj]
        have HC := Lib.hid hcells; clear hcells
        have HO := Lib.hid hown; clear hown
        have hA : ans s 8 = fin s := rfl
        unfold fin at hA
        by_cases c1 : 8 < s.size
        · rw [if_pos c1] at hA
          have HA := Lib.hid hA; clear hA
          go_wp2_with fail
          go_ret3
          exact ⟨by rw [HA.out]; rfl, hb⟩
        · rw [if_neg c1] at hA
          have HA := Lib.hid hA; clear hA
          go_wp2_with fail
          go_loop [7, 8] (fun n i => ∃ k : Nat, k ≤ 7 ∧ i = .int .i64 k ∧ n = .int .i64 (num (Cod.wr s) k : Nat)) (fun _ i => (7 - intOf i).toNat)
          case atStart => exact ⟨0, by omega, rfl, rfl⟩
          case round =>
            obtain ⟨k, hk7, rfl, rfl⟩ := hrel
            have hnl := num7 (wr_lt s) hk7
            by_cases h : k < 7
            · have hcell := HC.out k (by omega)
              have hwl := wr_lt s k
              have h0 : (0 : Int) ≤ (k : Int) := by omega
              have h7 : (k : Int) < 7 := by omega
              have h8' : (k : Int) < 8 := by omega
              go_wp2_with fail
              go_round
              case rel => exact ⟨k + 1, by omega, by go_num, by rw [num]; go_num⟩
              case measure => simp [intOf]; omega
            · obtain rfl : k = 7 := by omega
              have HNL := Lib.hid hnl; clear hnl
              generalize hN : num (Cod.wr s) 7 = N at *
              have HN := Lib.hid hN; clear hN
              by_cases c2 : 4294967296 ≤ N
              · have c2b : decide ((4294967295 : Int) < (N : Int)) = true := by rw [decide_eq_true_iff]; omega
                have C2 := Lib.hid c2; clear c2
                go_wp2_with fail
                go_ret3
                exact ⟨by rw [HA.out, if_pos C2.out]; rfl, hb⟩
              · have c2b : decide ((4294967295 : Int) < (N : Int)) = false := by rw [decide_eq_false_iff_not]; omega
                have c2m : (N : Int) % 4294967296 = (N : Int) := by omega
                have C2 := Lib.hid c2; clear c2
                have hcell := HC.out 7 (by omega)
                have hcl := chk_lt (wr_lt s) 7
                have hwl := wr_lt s 7
                have hcap : 8 ≤ c := by
                  rcases HO.out.2 with ⟨h', _⟩ | ⟨g', cap', cur, h', _, _, h'', _⟩
                  · simp at h'
                  · simp at h'; omega
                have hm : ∀ n, Calls Tryd.prog 19 #[.slice (some ⟨g, 0, none⟩) 7 c] (wr.drewN n) fun e w' => e = .returned (.int .i64 (chk (Cod.wr s) 7 : Nat)) ∧ w' = wr.drewN n := fun n =>
                  (rCheck g 7 c (Cod.wr s) (wr_lt s) (by omega) (wr.drewN n) (fun j hj => (by simpa using HC.out j (by omega)))).mono fun _ _ ⟨h, h'⟩ => ⟨h, h'.symm⟩
                have HM := Lib.hid hm; clear hm
                by_cases c3 : chk (Cod.wr s) 7 = Cod.wr s 7
                · have X0 : Hid (¬ (chk (Cod.wr s) 7 ^^^ Cod.wr s 7 ≠ 0)) := Lib.hid (by simp [c3])
                  have c3b : ((chk (Cod.wr s) 7 : Int) != (Cod.wr s 7 : Int)) = false := by simp [c3]
                  have C3 := Lib.hid c3; clear c3
                  go_wp2_with fail
                  go_quiet ((go_at_call 19; exact Calls.quiet_of_same (HM.out _)))
                  go_wp2_with fail
                  go_ret3
                  exact ⟨by rw [HA.out, if_neg C2.out, if_neg X0.out]; rfl, ext_drewN hb _⟩
                · have X0 : Hid (chk (Cod.wr s) 7 ^^^ Cod.wr s 7 ≠ 0) := Lib.hid (fun e => c3 ((xor_zero_iff hcl hwl).1 e))
                  have c3b : ((chk (Cod.wr s) 7 : Int) != (Cod.wr s 7 : Int)) = true := by simp; omega
                  have C3 := Lib.hid c3; clear c3
                  go_wp2_with fail
                  go_quiet ((go_at_call 19; exact Calls.quiet_of_same (HM.out _)))
                  go_wp2_with fail
                  go_ret3
                  exact ⟨by rw [HA.out, if_neg C2.out, if_pos X0.out]; rfl, ext_drewN hb _⟩

end Go.Proofs.YtmmmehllfokjgaaDoor.Cod
