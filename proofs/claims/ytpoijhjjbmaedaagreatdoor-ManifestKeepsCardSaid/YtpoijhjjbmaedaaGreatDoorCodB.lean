/- Packed: Cod2 Cod3 Cod4 Cod5 -/
import Derived.Test.YtpoijhjjbmaedaaGreatDoorCabA
import Derived.Test.YtpoijhjjbmaedaaGreatDoorShelf
import Derived.Test.YtpoijhjjbmaedaaGreatDoorPlainA
set_option linter.unusedVariables false
set_option linter.unusedSimpArgs false
/- Cod2: The contracts of the codes' functions, second part: letters' worths, Parse, Near. -/
section
namespace Go.Proofs.YtpoijhjjbmaedaaGreatDoor.Cod
open Go.RowKit

-- codes.worth
set_option maxHeartbeats 400000 in
theorem worth (c : Nat) (w : World) :
    Calls Tryz.prog 72 #[.int .u8 (c : Int)] w fun e w' => e = .returned (.int .i64 (wI c)) ∧ w = w' := by
  go_enter Tryz.func72, Tryz.ntmps72
  go_wp2_with fail
  refine (Tryz.strings_IndexByte _ (c : Int) _).mono ?_
  rintro e w' ⟨rfl, rfl⟩
  go_wp2_with fail
  go_ret
  exact ⟨rfl, rfl⟩

-- gangwayref15.Worth
set_option maxHeartbeats 400000 in
theorem rWorth (c : Nat) (hc : c < 256) (w : World) :
    Calls Tryz.prog 141 #[.int .u8 (c : Int)] w fun e w' => e = .returned (.int .i64 (wI c)) ∧ w = w' := by
  go_enter Tryz.func141, Tryz.ntmps141
  go_wp2
  go_loop [3] (fun i => ∃ k : Nat, i = .int .i64 k ∧ k ≤ 32 ∧ ∀ j, j < k → lt j ≠ c) (fun i => (32 - intOf i).toNat)
  case atStart => exact ⟨0, rfl, by omega, fun j hj => absurd hj (by omega)⟩
  case round =>
    obtain ⟨k, rfl, hk, hn⟩ := hrel
    have HN := Lib.hid hn; clear hn
    by_cases h : k < 32
    · have hl : (k : Int) < 32 := by omega
      by_cases he : lt k = c
      · have HE := Lib.hid he
        have h5 : ∀ hh, (((ByteArray.mk #[50, 51, 52, 53, 54, 55, 56, 57, 65, 66, 67, 68, 69, 70, 71, 72, 74, 75, 76, 77, 78, 80, 81, 82, 83, 84, 85, 86, 87, 88, 89, 90])[k]'hh).toNat : Int) = c := fun hh => by rw [lt_get k hh, he]
        clear he
        go_wp2
        go_ret
        exact ⟨ret_int (by rw [← HE.out, wI_lt h]), rfl⟩
      · have HE := Lib.hid he
        have h5 : ∀ hh, ((((ByteArray.mk #[50, 51, 52, 53, 54, 55, 56, 57, 65, 66, 67, 68, 69, 70, 71, 72, 74, 75, 76, 77, 78, 80, 81, 82, 83, 84, 85, 86, 87, 88, 89, 90])[k]'hh).toNat : Int) == (c : Int)) = false := fun hh => by
          rw [lt_get k hh]; simp; omega
        clear he
        go_wp2
        go_round
        case rel =>
          refine ⟨k + 1, by go_num, by omega, fun j hj => ?_⟩
          rcases Nat.lt_or_ge j k with h6 | h6
          · exact HN.out j h6
          · obtain rfl : j = k := by omega
            exact HE.out
        case measure => simp [intOf]; omega
    · obtain rfl : k = 32 := by omega
      go_wp2
      go_ret
      exact ⟨ret_int (wI_none hc HN.out).symm, rfl⟩

def codeA (n : Nat) : Array Value := #[.int .u8 (lt (dig n 0) : Nat), .int .u8 (lt (dig n 1) : Nat), .int .u8 (lt (dig n 2) : Nat), .int .u8 (lt (dig n 3) : Nat), .int .u8 (lt (dig n 4) : Nat), .int .u8 (lt (dig n 5) : Nat), .int .u8 (lt (dig n 6) : Nat), .int .u8 (lt (chk (dig n) 7) : Nat)]
theorem codeA_at (n k : Nat) (h : k < 8) : (codeA n)[k]? = some (.int .u8 (lt (wor n k) : Nat)) := by
  obtain rfl | rfl | rfl | rfl | rfl | rfl | rfl | rfl : k = 0 ∨ k = 1 ∨ k = 2 ∨ k = 3 ∨ k = 4 ∨ k = 5 ∨ k = 6 ∨ k = 7 := by omega
  all_goals rfl

end Go.Proofs.YtpoijhjjbmaedaaGreatDoor.Cod
end

/- Cod3: The contracts of the codes' functions, third part: Parse. -/
section
namespace Go.Proofs.YtpoijhjjbmaedaaGreatDoor.Cod
open Go.RowKit

/-- the check's sum behind k letters -/
def sm (s : ByteArray) (k : Nat) : Nat := if k ≤ 7 then chk (wr s) k else chk (wr s) 7 ^^^ wr s 7
theorem sm_lt (s : ByteArray) (k : Nat) : sm s k < 32 := by
  unfold sm; split
  · exact chk_lt (wr_lt s) k
  · exact xor_lt (chk_lt (wr_lt s) 7) (wr_lt s 7)

theorem sm_next {s : ByteArray} {k : Nat} (h : k < 7) : sm s (k + 1) = dbl (sm s k ^^^ wr s k) := by
  unfold sm; rw [if_pos (by omega), if_pos (by omega)]; rfl
theorem sm_last {s : ByteArray} : sm s 8 = sm s 7 ^^^ wr s 7 := rfl
def numTo (s : ByteArray) (k : Nat) : Nat := if k ≤ 7 then num (wr s) k else num (wr s) 7
theorem numTo_lt (s : ByteArray) (k : Nat) : numTo s k < 34359738368 := by
  unfold numTo; split
  · exact num7 (wr_lt s) ‹_›
  · exact num7 (wr_lt s) (Nat.le_refl _)
theorem numTo_next {s : ByteArray} {k : Nat} (h : k < 7) : numTo s (k + 1) = numTo s k * 32 + wr s k := by
  unfold numTo; rw [if_pos (by omega), if_pos (by omega)]; rfl

-- codes.Parse
set_option maxRecDepth 100000 in
set_option maxHeartbeats 1000000 in
theorem Parse (s : ByteArray) (K : Nat) (hK : K ≤ 8) (hg : ∀ j, j < K → Good s j) (hb : K < 8 → ¬ Good s K) (w : World) (ht : Tab w) :
    Calls Tryz.prog 36 #[.string s] w fun e w' => e = .returned (.tuple #[.int .u32 ((ans s K).1 : Nat), .int .i64 ((ans s K).2.1 : Nat), .int .i64 ((ans s K).2.2 : Nat)]) ∧ w = w' := by
  have HT := Lib.hid ht; clear ht
  have HG := Lib.hid hg; clear hg
  have HB := Lib.hid hb; clear hb
  go_enter Tryz.func36, Tryz.ntmps36
  go_wp2_with fail
  go_loop [5, 6, 9] (fun n c i => ∃ k : Nat, k ≤ K ∧ i = .int .i64 k ∧ n = .int .u64 (numTo s k : Nat) ∧ c = .int .u8 (sm s k : Nat)) (fun _ _ i => (8 - intOf i).toNat)
  case atStart => exact ⟨0, by omega, rfl, rfl, rfl⟩
  case round =>
    obtain ⟨k, hk, rfl, rfl, rfl⟩ := hrel
    by_cases h : k < K
    · obtain ⟨g1, g2⟩ := HG.out k h
      have g4 := byt_lt s k
      have hnl := numTo_lt s k
      have hsl := sm_lt s k
      have hwl := wr_lt s k
      have hwI : wI (byt s k) = ((wr s k : Nat) : Int) := by unfold wr; omega
      have hor := or64 (numTo s k) (wr s k) hnl hwl
      have hx := xor8 (sm s k) (wr s k) hsl hwl
      have hxl := xor_lt hsl hwl
      have g3 : ((s[k].toNat : Nat) : Int) = ((byt s k : Nat) : Int) := by rw [byt_eq s k g1]
      clear g2
      generalize hN : numTo s k = N at *
      generalize hS : sm s k = S at *
      generalize hW : wr s k = W at *
      have HN := Lib.hid hN; have HS := Lib.hid hS; have HW := Lib.hid hW
      clear hN hS hW
      by_cases h7 : k < 7
      · go_wp2_with fail
        refine (worth (byt s k) _).mono ?_
        rintro e w1 ⟨rfl, rfl⟩
        go_wp2_with fail
        refine (worth (byt s k) _).mono ?_
        rintro e w1 ⟨rfl, rfl⟩
        go_wp2_with fail
        refine (doubled (S ^^^ W) hxl _ HT.out).mono ?_
        rintro e w1 ⟨rfl, rfl⟩
        go_wp2_with fail
        go_round
        case rel =>
          refine ⟨k + 1, by omega, by go_num, ?_, ?_⟩
          · rw [numTo_next h7, HN.out, HW.out]; rfl
          · rw [sm_next h7, HS.out, HW.out]
        case measure => simp [intOf]; omega
      · obtain rfl : k = 7 := by omega
        go_wp2_with fail
        refine (worth (byt s 7) _).mono ?_
        rintro e w1 ⟨rfl, rfl⟩
        go_wp2_with fail
        refine (worth (byt s 7) _).mono ?_
        rintro e w1 ⟨rfl, rfl⟩
        go_wp2_with fail
        go_round
        case rel =>
          refine ⟨8, by omega, rfl, ?_, ?_⟩
          · rw [← HN.out]; rfl
          · rw [sm_last, HS.out, HW.out]
        case measure => simp [intOf]
    · obtain rfl : k = K := by omega
      clear h
      by_cases h8 : k < 8
      · have HA := Lib.hid (@ans_bad s k h8)
        by_cases g1 : k < s.size
        · have g2 : wI (byt s k) < 0 := by
            rcases Int.lt_or_le (wI (byt s k)) 0 with h9 | h9
            · exact h9
            · exact absurd ⟨g1, h9⟩ (HB.out h8)
          have g3 : ((s[k].toNat : Nat) : Int) = ((byt s k : Nat) : Int) := by rw [byt_eq s k g1]
          go_wp2_with fail
          refine (worth (byt s k) _).mono ?_
          rintro e w1 ⟨rfl, rfl⟩
          go_wp2_with fail
          go_ret3
          exact ⟨by rw [HA.out]; rfl, rfl⟩
        · go_wp2_with fail
          go_ret3
          exact ⟨by rw [HA.out]; rfl, rfl⟩
      · obtain rfl : k = 8 := by omega
        have hN : numTo s 8 = num (wr s) 7 := rfl
        have hS : sm s 8 = chk (wr s) 7 ^^^ wr s 7 := rfl
        have hnl := numTo_lt s 8
        have hsl := sm_lt s 8
        rw [hN] at *
        rw [hS] at *
        have hA : ans s 8 = fin s := rfl
        unfold fin at hA
        generalize num (wr s) 7 = N at *
        generalize chk (wr s) 7 ^^^ wr s 7 = S at *
        by_cases c1 : 8 < s.size
        · rw [if_pos c1] at hA
          have HA := Lib.hid hA; clear hA
          go_wp2_with fail
          go_ret3
          exact ⟨by rw [HA.out]; rfl, rfl⟩
        · rw [if_neg c1] at hA
          by_cases c2 : 4294967296 ≤ N
          · rw [if_pos c2] at hA
            have c2i : (4294967296 : Int) ≤ (N : Int) := by omega
            clear c2
            have HA := Lib.hid hA; clear hA
            go_wp2_with fail
            go_ret3
            exact ⟨by rw [HA.out]; rfl, rfl⟩
          · rw [if_neg c2] at hA
            have c2b : decide ((4294967296 : Int) ≤ (N : Int)) = false := by rw [decide_eq_false_iff_not]; omega
            have c2m : (N : Int) % 4294967296 = (N : Int) := by omega
            clear c2
            by_cases c3 : S = 0
            · rw [if_neg (by omega)] at hA
              subst c3
              have HA := Lib.hid hA; clear hA
              go_wp2_with fail
              go_ret3
              exact ⟨by rw [HA.out]; rfl, rfl⟩
            · rw [if_pos c3] at hA
              have hS0 : ((S : Int) != 0) = true := by simp; omega
              have HA := Lib.hid hA; clear hA c3
              go_wp2_with fail
              go_ret3
              exact ⟨by rw [HA.out]; rfl, rfl⟩

end Go.Proofs.YtpoijhjjbmaedaaGreatDoor.Cod
end

/- Cod4: The contracts of the codes' reference: doubled, Check, Text. -/
section
namespace Go.Proofs.YtpoijhjjbmaedaaGreatDoor.Cod
open Go.RowKit

theorem int_info : (Tryz.prog.info? 3).map (fun i => (i.zero, i.size, i.bytes)) = some (some (.int .i64 0), 1, 8) := by kernel_rfl

theorem xor64 (a b : Nat) (ha : a < 64) (hb : b < 64) : bits BinOp.xor IntKind.i64 (a : Int) (b : Int) = ((a ^^^ b : Nat) : Int) := by
  have hx : a ^^^ b < 64 := Nat.xor_lt_two_pow (n := 6) ha hb
  show IntKind.i64.wrap ((BitVec.ofInt 64 (a : Int) ^^^ BitVec.ofInt 64 (b : Int)).toNat : Int) = _
  have e : ∀ m : Nat, m < 64 → (BitVec.ofInt 64 (m : Int)).toNat = m := fun m hm => by
    rw [BitVec.ofInt_natCast, BitVec.toNat_ofNat]; exact Nat.mod_eq_of_lt (by omega)
  rw [BitVec.toNat_xor, e a ha, e b hb, IntKind.wrap_i64]
  omega

-- gangwayref15.doubled
set_option maxRecDepth 100000 in
set_option maxHeartbeats 400000 in
theorem rdoubled (d : Nat) (hd : d < 32) (w : World) :
    Calls Tryz.prog 135 #[.int .i64 (d : Int)] w fun e w' => e = .returned (.int .i64 (dbl d : Nat)) ∧ w = w' := by
  by_cases h : d < 16
  · have H := Lib.hid h
    have h1 : (d : Int) < 16 := by omega
    go_enter Tryz.func135, Tryz.ntmps135
    go_wp2
    go_ret
    exact ⟨ret_int (by unfold dbl; rw [if_pos H.out]; omega), rfl⟩
  · have H := Lib.hid h
    have h1 : (16 : Int) ≤ (d : Int) := by omega
    have h2 := xor64 (2 * d) 37 (by omega) (by omega)
    rw [show ((2 * d : Nat) : Int) = 2 * (d : Int) from by omega, show ((37 : Nat) : Int) = 37 from rfl] at h2
    go_enter Tryz.func135, Tryz.ntmps135
    go_wp2
    go_ret
    exact ⟨ret_int (by unfold dbl; rw [if_neg H.out]), rfl⟩

-- gangwayref15.Check
set_option maxRecDepth 100000 in
set_option maxHeartbeats 400000 in
theorem rCheck (g n cap : Nat) (f : Nat → Nat) (hf : ∀ j, f j < 32) (hn : n ≤ 8) (w : World) (hc : ∀ j, j < n → w.cell? ⟨g, j, none⟩ = some (.int .i64 (f j : Nat))) :
    Calls Tryz.prog 91 #[.slice (some ⟨g, 0, none⟩) n cap] w fun e w' => e = .returned (.int .i64 (chk f n : Nat)) ∧ w = w' := by
  have HC := Lib.hid hc; clear hc
  have HF := Lib.hid hf; clear hf
  go_enter Tryz.func91, Tryz.ntmps91
  go_wp2_with fail
  go_loop [3, 4] (fun c i => ∃ k : Nat, i = .int .i64 k ∧ k ≤ n ∧ c = .int .i64 (chk f k : Nat)) (fun _ i => (n - intOf i).toNat)
  case atStart => exact ⟨0, rfl, by omega, rfl⟩
  case round =>
    obtain ⟨k, rfl, hk, rfl⟩ := hrel
    by_cases h : k < n
    · have h1 : (k : Int) < (n : Int) := by omega
      have h2 : (0 : Int) ≤ (k : Int) := by omega
      have hcell := HC.out k h
      have hcl := chk_lt HF.out k
      have hfl := HF.out k
      have hx := xor64 (chk f k) (f k) (by omega) (by omega)
      have hxl := xor_lt hcl hfl
      go_wp2_with fail
      refine (rdoubled _ hxl _).mono ?_
      rintro e w1 ⟨rfl, rfl⟩
      go_wp2_with fail
      go_round
      case rel => exact ⟨k + 1, by go_num, by omega, rfl⟩
      case measure => simp [intOf]; omega
    · obtain rfl : k = n := by omega
      go_wp2_with fail
      go_ret
      exact ⟨rfl, rfl⟩

def pw (k : Nat) : Nat := 1073741824 / 32 ^ k
theorem pw_next (k : Nat) : pw (k + 1) = pw k / 32 := by unfold pw; rw [Nat.pow_succ, Nat.div_div_eq_div_mul]
theorem pw_dig (n k : Nat) (h : k < 7) : n / pw k % 32 = dig n k := by
  unfold dig
  obtain rfl | rfl | rfl | rfl | rfl | rfl | rfl : k = 0 ∨ k = 1 ∨ k = 2 ∨ k = 3 ∨ k = 4 ∨ k = 5 ∨ k = 6 := by omega
  all_goals rfl
theorem pw_pos {k : Nat} (h : k < 7) : 1 ≤ pw k := by
  obtain rfl | rfl | rfl | rfl | rfl | rfl | rfl : k = 0 ∨ k = 1 ∨ k = 2 ∨ k = 3 ∨ k = 4 ∨ k = 5 ∨ k = 6 := by omega
  all_goals decide
theorem pw_hi (k : Nat) : pw k ≤ 1073741824 := Nat.div_le_self _ _

def digL (n k : Nat) : List Value := (List.range k).map fun i => .int .i64 (wor n i : Nat)
theorem digL_next (n k : Nat) : digL n (k + 1) = digL n k ++ [.int .i64 (wor n k : Nat)] := by
  unfold digL; rw [List.range_succ, List.map_append]; rfl
theorem digL_at {n k j : Nat} (h : j < k) : (digL n k)[j]? = some (.int .i64 (wor n j : Nat)) := by
  unfold digL; simp [h]

-- gangwayref15.Text
set_option maxRecDepth 100000 in
set_option maxHeartbeats 1000000 in
theorem rText (n : Nat) (hn : n < 4294967296) (w : World) :
    Calls Tryz.prog 51 #[.int .u32 n] w fun e w' => e = .returned (.string ⟨(txt n).toArray⟩) ∧ Below w.heap.size w w' := by
  obtain ⟨i0, hi, hz0, hz1, hz2⟩ := info_parts int_info
  go_enter Tryz.func51, Tryz.ntmps51
  go_wp2_with fail
  go_loopw [3, 4, 5] (fun v p i wr => ∃ (k c : Nat) (A : Option Addr), k ≤ 7 ∧ i = .int .i64 k ∧ p = .int .i64 (pw k : Nat) ∧ v = .slice A k c ∧ wr.ownsRow w.heap.size 3 1 (.slice A k c) k (digL n k) ∧ Below w.heap.size w wr) (fun _ _ i _ => (7 - intOf i).toNat)
  case atStart => exact ⟨0, 0, none, by omega, rfl, rfl, rfl, ⟨by simp [digL], .inl ⟨rfl, rfl⟩⟩, Below.refl _ _⟩
  case round =>
    obtain ⟨k, c, A, hk, rfl, rfl, rfl, hown, hb⟩ := hrel
    have hp := pw_hi k
    by_cases h : k < 7
    · have hp1 := pw_pos h
      have hd : ((n : Int) / (pw k : Int)) % 32 = ((wor n k : Nat) : Int) := by
        unfold wor; rw [if_pos h, ← pw_dig n k h]; omega
      have hq0 : 0 ≤ (n : Int) / (pw k : Int) := Int.ediv_nonneg (by omega) (by omega)
      have hq1 : (n : Int) / (pw k : Int) ≤ (n : Int) := Int.ediv_le_self _ (by omega)
      have hn1 : (n : Int) ≤ 4294967295 := by omega
      have hz := hb.size
      go_wp2_with (at_builtin; go_must (refine wpList_append_lies _ rfl (.tmp 12) (.tmp 18) 22 rfl w.heap.size 3 i0 (.int .i64 0) 1 8 Tryz.underlying22 hi hz0 hz1 hz2 rfl (by decide) (.slice A k c) k (digL n k) (by rfl) (hown.alloc _) ⟨wr.heap.size, 0, none⟩ 1 1 [.int .i64 (wor n k : Nat)] (by rfl) rfl (cell_one_new _ _ _) (by simp [Value.oneCell']) (by omega) (by unfold maxLen; omega) (by omega) (by simp; omega) (wr.heap.size + 1) (by simp) ?_); intro g cap w2 hown2 hgrow hat hlt)
      go_roundw
      case rel =>
        refine ⟨k + 1, cap, some ⟨g, 0, none⟩, by omega, by go_num, ?_, rfl, ?_, ext_append (ext_alloc hb _) (hown.alloc _) hgrow⟩
        · rw [pw_next]; rfl
        · rw [digL_next]; exact hown2
      case measure => simp [intOf]; omega
    · obtain rfl : k = 7 := by omega
      obtain ⟨g, cap, hv, hbg, hlt⟩ := hown.form (by omega)
      obtain ⟨rfl, rfl⟩ : A = some ⟨g, 0, none⟩ ∧ c = cap := by simpa using hv
      clear hv
      have hcells : ∀ j, j < 7 → wr.cell? ⟨g, j, none⟩ = some (.int .i64 (dig n j : Nat)) := fun j hj => by
        rw [hown.cellAt j (by omega), digL_at hj]; unfold wor; rw [if_pos hj]
      have HC := Lib.hid hcells; clear hcells
      have HO := Lib.hid hown; clear hown
      have hz := hb.size
      go_wp2_with fail
      refine (rCheck g 7 _ (dig n) (dig_lt n) (by omega) _ HC.out).mono ?_
      rintro e w1 ⟨rfl, rfl⟩
      go_wp2_with (at_builtin; go_must (refine wpList_append_lies _ rfl (.tmp 22) (.tmp 25) 22 rfl w.heap.size 3 i0 (.int .i64 0) 1 8 Tryz.underlying22 hi hz0 hz1 hz2 rfl (by decide) (.slice (some ⟨g, 0, none⟩) 7 _) 7 (digL n 7) (by rfl) (HO.out.alloc _) ⟨wr.heap.size, 0, none⟩ 1 1 [.int .i64 (chk (dig n) 7 : Nat)] (by rfl) rfl (cell_one_new _ _ _) (by simp [Value.oneCell']) (by omega) (by unfold maxLen; omega) (by omega) (by simp; omega) (wr.heap.size + 1) (by simp) ?_); intro g2 cap2 w2 hown2 hgrow hat hlt2)
      have hbw : Below w.heap.size w w2 := ext_append (ext_alloc hb _) (HO.out.alloc _) hgrow
      have hc2 : ∀ j, j < 8 → w2.cell? ⟨g2, j, none⟩ = some (.int .i64 (wor n j : Nat)) := fun j hj => by
        rw [hown2.cellAt j (by omega)]
        exact (congrArg (·[j]?) (digL_next n 7).symm).trans (digL_at hj)
      have HC2 := Lib.hid hc2
      clear hc2 hgrow hat HC HO hown2 hp hk h hlt
      go_loopw [6, 7] (fun s i wr => ∃ k m : Nat, k ≤ 8 ∧ i = .int .i64 k ∧ s = .string ⟨((txt n).take k).toArray⟩ ∧ wr = w2.drewN m) (fun _ i _ => (8 - intOf i).toNat)
      case atStart => exact ⟨0, 0, by omega, rfl, rfl, rfl⟩
      case round =>
        obtain ⟨k, m, hk, rfl, rfl, rfl⟩ := hrel
        by_cases h : k < 8
        · have hcell := HC2.out k h
          have h0 : (0 : Int) ≤ (k : Int) := by omega
          have h8 : (k : Int) < 8 := by omega
          have hwl := wor_lt n k
          go_wp2_with fail
          go_quiet (fail)
          go_wp2_with fail
          go_roundw
          case rel =>
            refine ⟨k + 1, m + nq, by omega, by go_num, ?_, rfl⟩
            rw [cut_letter hwl, glue, txt_take n k h]
          case measure => simp [intOf]; omega
        · obtain rfl : k = 8 := by omega
          go_wp2_with fail
          go_ret
          exact ⟨rfl, ext_drewN hbw m⟩

end Go.Proofs.YtpoijhjjbmaedaaGreatDoor.Cod
end

/- Cod5: The contract of the reference's Parse. -/
section
namespace Go.Proofs.YtpoijhjjbmaedaaGreatDoor.Cod
open Go.RowKit

def wrL (s : ByteArray) (k : Nat) : List Value := (List.range k).map fun i => .int .i64 (wr s i : Nat)
theorem wrL_next (s : ByteArray) (k : Nat) : wrL s (k + 1) = wrL s k ++ [.int .i64 (wr s k : Nat)] := by
  unfold wrL; rw [List.range_succ, List.map_append]; rfl
theorem wrL_at {s : ByteArray} {k j : Nat} (h : j < k) : (wrL s k)[j]? = some (.int .i64 (wr s j : Nat)) := by
  unfold wrL; simp [h]
theorem xor_zero_iff {a b : Nat} (ha : a < 32) (hb : b < 32) : (a ^^^ b = 0) ↔ a = b := by
  have h : ∀ a b : Fin 32, (a.val ^^^ b.val = 0) ↔ a.val = b.val := by decide +kernel
  exact h ⟨a, ha⟩ ⟨b, hb⟩

-- gangwayref15.Parse
set_option maxRecDepth 100000 in
set_option maxHeartbeats 1000000 in
theorem rParse (s : ByteArray) (K : Nat) (hK : K ≤ 8) (hg : ∀ j, j < K → Good s j) (hb : K < 8 → ¬ Good s K) (w : World) :
    Calls Tryz.prog 102 #[.string s] w fun e w' => e = .returned (.tuple #[.int .u32 ((ans s K).1 : Nat), .int .i64 ((ans s K).2.1 : Nat), .int .i64 ((ans s K).2.2 : Nat)]) ∧ Below w.heap.size w w' := by
  obtain ⟨i0, hi, hz0, hz1, hz2⟩ := info_parts int_info
  have HG := Lib.hid hg; clear hg
  have HB := Lib.hid hb; clear hb
  go_enter Tryz.func102, Tryz.ntmps102
  go_wp2_with fail
  go_loopw [5, 6] (fun v i wr => ∃ (k c : Nat) (A : Option Addr), k ≤ K ∧ i = .int .i64 k ∧ v = .slice A k c ∧ wr.ownsRow w.heap.size 3 1 (.slice A k c) k (wrL s k) ∧ Below w.heap.size w wr) (fun _ i _ => (8 - intOf i).toNat)
  case atStart => exact ⟨0, 0, none, by omega, rfl, rfl, ⟨by simp [wrL], .inl ⟨rfl, rfl⟩⟩, Below.refl _ _⟩
  case round =>
    obtain ⟨k, c, A, hk, rfl, rfl, hown, hb⟩ := hrel
    have hz := hb.size
    by_cases h : k < K
    · obtain ⟨g1, g2⟩ := HG.out k h
      have g4 := byt_lt s k
      have hwl := wr_lt s k
      have hwI : wI (byt s k) = ((Cod.wr s k : Nat) : Int) := by unfold Cod.wr; omega
      have g3 : ((s[k].toNat : Nat) : Int) = ((byt s k : Nat) : Int) := by rw [byt_eq s k g1]
      clear g2
      have HO := Lib.hid hown; clear hown
      go_wp2_with fail
      refine (rWorth (byt s k) g4 _).mono ?_
      rintro e w1 ⟨rfl, rfl⟩
      go_wp2_with fail
      refine (rWorth (byt s k) g4 _).mono ?_
      rintro e w1 ⟨rfl, rfl⟩
      go_wp2_with (at_builtin; go_must (refine wpList_append_lies _ rfl (.tmp 25) (.tmp 30) 22 rfl w.heap.size 3 i0 (.int .i64 0) 1 8 Tryz.underlying22 hi hz0 hz1 hz2 rfl (by decide) (.slice A k c) k (wrL s k) (by rfl) (HO.out.alloc _) ⟨wr.heap.size, 0, none⟩ 1 1 [.int .i64 (Cod.wr s k : Nat)] (by rfl) rfl (cell_one_new _ _ _) (by simp [Value.oneCell']) (by omega) (by unfold maxLen; omega) (by omega) (by simp; omega) (wr.heap.size + 1) (by simp) ?_); intro g cap w2 hown2 hgrow hat hlt)
      go_roundw
      case rel =>
        refine ⟨k + 1, cap, some ⟨g, 0, none⟩, by omega, by go_num, rfl, ?_, ext_append (ext_alloc hb _) (HO.out.alloc _) hgrow⟩
        rw [wrL_next]; exact hown2
      case measure => simp [intOf]; omega
    · obtain rfl : k = K := by omega
      clear h
      by_cases h8 : k < 8
      · have HA := Lib.hid (@ans_bad s k h8)
        by_cases g1 : k < s.size
        · have g2 : wI (byt s k) < 0 := by
            rcases Int.lt_or_le (wI (byt s k)) 0 with h9 | h9
            · exact h9
            · exact absurd ⟨g1, h9⟩ (HB.out h8)
          have g3 : ((s[k].toNat : Nat) : Int) = ((byt s k : Nat) : Int) := by rw [byt_eq s k g1]
          have g4 := byt_lt s k
          go_wp2_with fail
          refine (rWorth (byt s k) g4 _).mono ?_
          rintro e w1 ⟨rfl, rfl⟩
          go_wp2_with fail
          go_ret3
          exact ⟨by rw [HA.out]; rfl, hb⟩
        · go_wp2_with fail
          go_ret3
          exact ⟨by rw [HA.out]; rfl, hb⟩
      · obtain rfl : k = 8 := by omega
        obtain ⟨g, cap, hv, hbg, hlt⟩ := hown.form (by omega)
        obtain ⟨rfl, rfl⟩ : A = some ⟨g, 0, none⟩ ∧ c = cap := by simpa using hv
        clear hv
        have hcells : ∀ j, j < 8 → wr.cell? ⟨g, j, none⟩ = some (.int .i64 (Cod.wr s j : Nat)) := fun j hj => by
          rw [hown.cellAt j (by omega), wrL_at hj]
        have HC := Lib.hid hcells; clear hcells
        have HO := Lib.hid hown; clear hown
        have hA : ans s 8 = fin s := rfl
        unfold fin at hA
        by_cases c1 : 8 < s.size
        · rw [if_pos c1] at hA
          have HA := Lib.hid hA; clear hA
          go_wp2_with fail
          go_ret3
          exact ⟨by rw [HA.out]; rfl, hb⟩
        · rw [if_neg c1] at hA
          have HA := Lib.hid hA; clear hA
          go_wp2_with fail
          go_loop [7, 8] (fun n i => ∃ k : Nat, k ≤ 7 ∧ i = .int .i64 k ∧ n = .int .i64 (num (Cod.wr s) k : Nat)) (fun _ i => (7 - intOf i).toNat)
          case atStart => exact ⟨0, by omega, rfl, rfl⟩
          case round =>
            obtain ⟨k, hk7, rfl, rfl⟩ := hrel
            have hnl := num7 (wr_lt s) hk7
            by_cases h : k < 7
            · have hcell := HC.out k (by omega)
              have hwl := wr_lt s k
              have h0 : (0 : Int) ≤ (k : Int) := by omega
              have h7 : (k : Int) < 7 := by omega
              have h8' : (k : Int) < 8 := by omega
              go_wp2_with fail
              go_round
              case rel => exact ⟨k + 1, by omega, by go_num, by rw [num]; go_num⟩
              case measure => simp [intOf]; omega
            · obtain rfl : k = 7 := by omega
              have HNL := Lib.hid hnl; clear hnl
              generalize hN : num (Cod.wr s) 7 = N at *
              have HN := Lib.hid hN; clear hN
              by_cases c2 : 4294967296 ≤ N
              · have c2b : decide ((4294967295 : Int) < (N : Int)) = true := by rw [decide_eq_true_iff]; omega
                have C2 := Lib.hid c2; clear c2
                go_wp2_with fail
                go_ret3
                exact ⟨by rw [HA.out, if_pos C2.out]; rfl, hb⟩
              · have c2b : decide ((4294967295 : Int) < (N : Int)) = false := by rw [decide_eq_false_iff_not]; omega
                have c2m : (N : Int) % 4294967296 = (N : Int) := by omega
                have C2 := Lib.hid c2; clear c2
                have hcell := HC.out 7 (by omega)
                have hcl := chk_lt (wr_lt s) 7
                have hwl := wr_lt s 7
                have hcap : 8 ≤ c := by
                  rcases HO.out.2 with ⟨h', _⟩ | ⟨g', cap', cur, h', _, _, h'', _⟩
                  · simp at h'
                  · simp at h'; omega
                have hm : ∀ n, Calls Tryz.prog 91 #[.slice (some ⟨g, 0, none⟩) 7 c] (wr.drewN n) fun e w' => e = .returned (.int .i64 (chk (Cod.wr s) 7 : Nat)) ∧ w' = wr.drewN n := fun n =>
                  (rCheck g 7 c (Cod.wr s) (wr_lt s) (by omega) (wr.drewN n) (fun j hj => (by simpa using HC.out j (by omega)))).mono fun _ _ ⟨h, h'⟩ => ⟨h, h'.symm⟩
                have HM := Lib.hid hm; clear hm
                by_cases c3 : chk (Cod.wr s) 7 = Cod.wr s 7
                · have X0 : Hid (¬ (chk (Cod.wr s) 7 ^^^ Cod.wr s 7 ≠ 0)) := Lib.hid (by simp [c3])
                  have c3b : ((chk (Cod.wr s) 7 : Int) != (Cod.wr s 7 : Int)) = false := by simp [c3]
                  have C3 := Lib.hid c3; clear c3
                  go_wp2_with fail
                  go_quiet ((go_at_call 91; exact Calls.quiet_of_same (HM.out _)))
                  go_wp2_with fail
                  go_ret3
                  exact ⟨by rw [HA.out, if_neg C2.out, if_neg X0.out]; rfl, ext_drewN hb _⟩
                · have X0 : Hid (chk (Cod.wr s) 7 ^^^ Cod.wr s 7 ≠ 0) := Lib.hid (fun e => c3 ((xor_zero_iff hcl hwl).1 e))
                  have c3b : ((chk (Cod.wr s) 7 : Int) != (Cod.wr s 7 : Int)) = true := by simp; omega
                  have C3 := Lib.hid c3; clear c3
                  go_wp2_with fail
                  go_quiet ((go_at_call 91; exact Calls.quiet_of_same (HM.out _)))
                  go_wp2_with fail
                  go_ret3
                  exact ⟨by rw [HA.out, if_neg C2.out, if_pos X0.out]; rfl, ext_drewN hb _⟩

end Go.Proofs.YtpoijhjjbmaedaaGreatDoor.Cod
end
