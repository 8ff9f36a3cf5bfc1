/- The contracts of the codes' functions, third part: Parse. -/
import Derived.Test.YtmmmehllfokjgaaDoorCod2
import Derived.Test.YtmmmehllfokjgaaDoorCodAns
namespace Go.Proofs.YtmmmehllfokjgaaDoor.Cod
open Go.RowKit

/-- the check's sum behind k letters -/
def sm (s : ByteArray) (k : Nat) : Nat := if k ≤ 7 then chk (wr s) k else chk (wr s) 7 ^^^ wr s 7
theorem sm_lt (s : ByteArray) (k : Nat) : sm s k < 32 := by
  unfold sm; split
  · exact chk_lt (wr_lt s) k
  · exact xor_lt (chk_lt (wr_lt s) 7) (wr_lt s 7)

theorem sm_next {s : ByteArray} {k : Nat} (h : k < 7) : sm s (k + 1) = dbl (sm s k ^^^ wr s k) := by
  unfold sm; rw [if_pos (by omega), if_pos (by omega)]; rfl
theorem sm_last {s : ByteArray} : sm s 8 = sm s 7 ^^^ wr s 7 := rfl
def numTo (s : ByteArray) (k : Nat) : Nat := if k ≤ 7 then num (wr s) k else num (wr s) 7
theorem numTo_lt (s : ByteArray) (k : Nat) : numTo s k < 34359738368 := by
  unfold numTo; split
  · exact num7 (wr_lt s) ‹_›
  · exact num7 (wr_lt s) (Nat.le_refl _)
theorem numTo_next {s : ByteArray} {k : Nat} (h : k < 7) : numTo s (k + 1) = numTo s k * 32 + wr s k := by
  unfold numTo; rw [if_pos (by omega), if_pos (by omega)]; rfl

-- codes.Parse
set_option maxRecDepth 100000 in
set_option maxHeartbeats 1000000 in
theorem Parse (s : ByteArray) (K : Nat) (hK : K ≤ 8) (hg : ∀ j, j < K → Good s j) (hb : K < 8 → ¬ Good s K) (w : World) (ht : Tab w) :
    Calls Tryd.prog 13 #[.string s] w fun e w' => e = .returned (.tuple #[.int .u32 ((ans s K).1 : Nat), .int .i64 ((ans s K).2.1 : Nat), .int .i64 ((ans s K).2.2 : Nat)]) ∧ w = w' := by
  have HT := Lib.hid ht; clear ht
  have HG := Lib.hid hg; clear hg
  have HB := Lib.hid hb; clear hb
  go_enter Tryd.func13, Tryd.ntmps13
  go_wp2_with fail
  go_loop [5, 6, 9] (fun n c i => ∃ k : Nat, k ≤ K ∧ i = .int .i64 k ∧ n = .int .u64 (numTo s k : Nat) ∧ c = .int .u8 (sm s k : Nat)) (fun _ _ i => (8 - intOf i).toNat)
  case atStart => exact ⟨0, by omega, rfl, rfl, rfl⟩
  case round =>
    obtain ⟨k, hk, rfl, rfl, rfl⟩ := hrel
    by_cases h : k < K
    · obtain ⟨g1, g2⟩ := HG.out k h
      have g4 := byt_lt s k
      have hnl := numTo_lt s k
      have hsl := sm_lt s k
      have hwl := wr_lt s k
      have hwI : wI (byt s k) = ((wr s k : Nat) : Int) := by unfold wr; omega
      have hor := or64 (numTo s k) (wr s k) hnl hwl
      have hx := xor8 (sm s k) (wr s k) hsl hwl
      have hxl := xor_lt hsl hwl
      have g3 : ((s[k].toNat : Nat) : Int) = ((byt s k : Nat) : Int) := by rw [byt_eq s k g1]
      clear g2
      generalize hN : numTo s k = N at *
      generalize hS : sm s k = S at *
      generalize hW : wr s k = W at *
      have HN := Lib.hid hN; have HS := Lib.hid hS; have HW := Lib.hid hW
      clear hN hS hW
      by_cases h7 : k < 7
      · go_wp2_with fail
        refine (worth (byt s k) _).mono ?_
        rintro e w1 ⟨rfl, rfl⟩
        go_wp2_with fail
        refine (worth (byt s k) _).mono ?_
        rintro e w1 ⟨rfl, rfl⟩
        go_wp2_with fail
        refine (doubled (S ^^^ W) hxl _ HT.out).mono ?_
        rintro e w1 ⟨rfl, rfl⟩
        go_wp2_with fail
        go_round
        case rel =>
          refine ⟨k + 1, by omega, by go_num, ?_, ?_⟩
          · rw [numTo_next h7, HN.out, HW.out]; rfl
          · rw [sm_next h7, HS.out, HW.out]
        case measure => simp [intOf]; omega
      · obtain rfl : k = 7 := by omega
        go_wp2_with fail
        refine (worth (byt s 7) _).mono ?_
        rintro e w1 ⟨rfl, rfl⟩
        go_wp2_with fail
        refine (worth (byt s 7) _).mono ?_
        rintro e w1 ⟨rfl, rfl⟩
        go_wp2_with fail
        go_round
        case rel =>
          refine ⟨8, by omega, rfl, ?_, ?_⟩
          · rw [← HN.out]; rfl
          · rw [sm_last, HS.out, HW.out]
        case measure => simp [intOf]
    · obtain rfl : k = K := by omega
      clear h
      by_cases h8 : k < 8
      · have HA := Lib.hid (@ans_bad s k h8)
        by_cases g1 : k < s.size
        · have g2 : wI (byt s k) < 0 := by
            rcases Int.lt_or_le (wI (byt s k)) 0 with h9 | h9
            · exact h9
            · exact absurd ⟨g1, h9⟩ (HB.out h8)
          have g3 : ((s[k].toNat : Nat) : Int) = ((byt s k : Nat) : Int) := by rw [byt_eq s k g1]
          go_wp2_with fail
          refine (worth (byt s k) _).mono ?_
          rintro e w1 ⟨rfl, rfl⟩
          go_wp2_with fail
          go_ret3
          exact ⟨by rw [HA.out]; rfl, rfl⟩
        · go_wp2_with fail
          go_ret3
          exact ⟨by rw [HA.out]; rfl, rfl⟩
      · obtain rfl : k = 8 := by omega
        have hN : numTo s 8 = num (wr s) 7 := rfl
        have hS : sm s 8 = chk (wr s) 7 ^^^ wr s 7 := rfl
        have hnl := numTo_lt s 8
        have hsl := sm_lt s 8
        rw [hN] at *
        rw [hS] at *
        have hA : ans s 8 = fin s := rfl
        unfold fin at hA
        generalize num (wr s) 7 = N at *
        generalize chk (wr s) 7 ^^^ wr s 7 = S at *
        by_cases c1 : 8 < s.size
        · rw [if_pos c1] at hA
          have HA := Lib.hid hA; clear hA
          go_wp2_with fail
          go_ret3
          exact ⟨by rw [HA.out]; rfl, rfl⟩
        · rw [if_neg c1] at hA
          by_cases c2 : 4294967296 ≤ N
          · rw [if_pos c2] at hA
            have c2i : (4294967296 : Int) ≤ (N : Int) := by omega
            clear c2
            have HA := Lib.hid hA; clear hA
            go_wp2_with fail
            go_ret3
            exact ⟨by rw [HA.out]; rfl, rfl⟩
          · rw [if_neg c2] at hA
            have c2b : decide ((4294967296 : Int) ≤ (N : Int)) = false := by rw [decide_eq_false_iff_not]; omega
            have c2m : (N : Int) % 4294967296 = (N : Int) := by omega
            clear c2
            by_cases c3 : S = 0
            · rw [if_neg (by omega)] at hA
              subst c3
              have HA := Lib.hid hA; clear hA
              go_wp2_with fail
              go_ret3
              exact ⟨by rw [HA.out]; rfl, rfl⟩
            · rw [if_pos c3] at hA
              have hS0 : ((S : Int) != 0) = true := by simp; omega
              have HA := Lib.hid hA; clear hA c3
              go_wp2_with fail
              go_ret3
              exact ⟨by rw [HA.out]; rfl, rfl⟩

end Go.Proofs.YtmmmehllfokjgaaDoor.Cod
