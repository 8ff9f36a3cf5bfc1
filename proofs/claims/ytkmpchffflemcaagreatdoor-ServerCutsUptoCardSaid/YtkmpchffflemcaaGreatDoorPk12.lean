/- Packed: Rf05, Rf07, Rf11, Made0, Made1, Made2, Awk31. -/
import Derived.Test.YtkmpchffflemcaaGreatDoorPk3
import Derived.BigQuiet
import Derived.Test.YtkmpchffflemcaaGreatDoorPk9
import Derived.OwnWalk
import Derived.Test.YtkmpchffflemcaaGreatDoorPk10
import Derived.Test.YtkmpchffflemcaaGreatDoorPk13
import Derived.Test.YtkmpchffflemcaaGreatDoorPk5
import Derived.Test.YtkmpchffflemcaaGreatDoorPk11
import Derived.Test.YtkmpchffflemcaaGreatDoorPk14
set_option linter.unusedVariables false
set_option linter.unusedSimpArgs false
/- The document's disk: May, New. -/
section
set_option linter.unusedVariables false
set_option linter.unusedSimpArgs false
namespace Go.Proofs.YtkmpchffflemcaaGreatDoor.Rf
open Go.RowKit
open Go.Proofs.YtkmpchffflemcaaGreatDoor.Oc (Bs bytesV byteV okA okA_some okA_none ClOut)
open Go.Proofs.YtkmpchffflemcaaGreatDoor.En (By bytes_rep flat_rep rows_info)

set_option maxRecDepth 100000 in
set_option maxHeartbeats 1000000 in
theorem May_yes (n s : Nat) (hn : 1 ≤ n ∧ n ≤ 65536) (hs : s = 64 ∨ s = 128) (w : World) : Calls Tryz.prog 125 #[.int .i64 n, .int .i64 s] w fun e w' => e = .returned (.bool true) ∧ Below w.heap.size w w' := by
  have h1 : (1 : Int) ≤ (n : Int) := by omega
  have h2 : (n : Int) ≤ 65536 := by omega
  have e1 : Go.bits BinOp.and IntKind.i64 64 63 = 0 := by decide
  have e2 : Go.bits BinOp.and IntKind.i64 128 127 = 0 := by decide
  rcases hs with rfl | rfl
  · go_enter Tryz.func125, Tryz.ntmps125
    go_wp2_with fail
    go_ret
    exact ⟨ret_bool (a := decide ((n : Int) * 64 ≤ 67108864)) (decide_eq_true (by omega)), Below.refl _ _⟩
  · go_enter Tryz.func125, Tryz.ntmps125
    go_wp2_with fail
    go_ret
    exact ⟨ret_bool (a := decide ((n : Int) * 128 ≤ 67108864)) (decide_eq_true (by omega)), Below.refl _ _⟩
/-- the document's disk of k sectors of noughts -/
structure DkSt (w wr : World) (p s k : Nat) (v : Value) (ad cp : Nat → Nat) : Prop where
  own : Arr wr p 295 #[v, .slice none 0 0]
  row : RowIn (fun g => w.heap.size ≤ g) wr 22 1 v k (fun i => [.slice (some ⟨ad i, 0, none⟩) s (cp i)])
  each : ∀ i, i < k → Blk wr 5 (ad i) (List.replicate s 0) ∧ s ≤ cp i ∧ w.heap.size ≤ ad i
  alone : ∀ i j, i < k → j < k → ad i = ad j → i = j
  below : Below w.heap.size w wr
  news : w.heap.size ≤ p
def DkOut (n s : Nat) (w : World) (e : Ending) (w' : World) : Prop := ∃ p v ad cp, e = .returned (.tuple #[.pointer (some ⟨p, 0, none⟩), .int .i64 0]) ∧ DkSt w w' p s n v ad cp
set_option maxRecDepth 100000 in
set_option maxHeartbeats 2000000 in
theorem New5_in (n s : Nat) (hn : 1 ≤ n ∧ n ≤ 65536) (hs : s = 64 ∨ s = 128) (w : World) : Calls Tryz.prog 75 #[.int .i64 n, .int .i64 s] w (DkOut n s w) := by
  obtain ⟨i0, hi0, hz0, hz1, hz2⟩ := info_parts Oc.u8_info
  obtain ⟨j0, hj0, hy0, hy1, hy2⟩ := info_parts rows_info
  have HM := Lib.hid (May_yes n s hn hs)
  have hn1 : (n : Int) ≤ 65536 := by omega
  have hs0 : (0 : Int) ≤ (s : Int) := by omega
  have hs1 : (s : Int) ≤ 128 := by rcases hs with rfl | rfl <;> simp
  have HN := Lib.hid hn; have HS := Lib.hid hs; have HS0 := Lib.hid (show 0 < s by rcases hs with rfl | rfl <;> decide)
  clear hs hn
  obtain ⟨p, hp⟩ : ∃ p, w.heap.size = p := ⟨_, rfl⟩
  obtain ⟨w1, hw1⟩ : ∃ w1, w.alloc (.cells #[.slice none 0 0, .slice none 0 0] 295) = w1 := ⟨_, rfl⟩
  have HA1 := Lib.hid (show Arr w1 p 295 #[.slice none 0 0, .slice none 0 0] by rw [← hw1, ← hp]; exact Arr.fresh w _ _)
  have HB0 := Lib.hid (show Below w.heap.size w w1 by rw [← hw1]; exact ext_alloc (Below.refl _ _) _)
  have HP := Lib.hid (show w.heap.size ≤ p by omega)
  go_enter Tryz.func75, Tryz.ntmps75
  go_wp2_with fail
  refine (HM.out w1).mono ?_
  rintro e w2 ⟨rfl, hb2⟩
  have hst : DkSt w w2 p s 0 (.slice none 0 0) (fun _ => 0) (fun _ => 0) :=
    ⟨HA1.out.keep hb2, RowIn.nil _ _ _ _ _, fun i hi => absurd hi (Nat.not_lt_zero i), fun i j hi => absurd hi (Nat.not_lt_zero i), ext_trans HB0.out hb2, HP.out⟩
  have HST := Lib.hid hst
  clear hb2 HM hst hw1 hp HA1 HB0 HP
  go_wp2_with fail
  go_loopw [7] (fun i wr => ∃ (k : Nat) (v : Value) (ad cp : Nat → Nat), k ≤ n ∧ i = .int .i64 k ∧ DkSt w wr p s k v ad cp) (fun i _ => (n - intOf i).toNat)
  case atStart => exact ⟨0, _, _, _, by omega, rfl, HST.out⟩
  case round =>
    obtain ⟨k, v, ad, cp, hk, rfl, hI⟩ := hrel
    have HI := Lib.hid hI
    clear hI HST
    by_cases h : k < n
    · have h' : (k : Int) < (n : Int) := by omega
      have x1 : wr.cell? ⟨p, 0, none⟩ = some v := HI.out.own.cell 0
      go_wp2_with fail
      refine region_any_drew (by kernel_rfl) ?_
      refine AnyTill.any (S := (fun w' => w'.cell? ⟨p, 0, none⟩ = some v)) (t := 11) _ _ _ _ ?_
      have hHeld := (show (fun w' => w'.cell? ⟨p, 0, none⟩ = some v) wr.drew from x1)
      refine till_take (i := 0) (oi := ?o1) (d := (some 20)) (v := ?v1) ?hi1 (by kernel_rfl) (by kernel_rfl) (by kernel_rfl) (by kernel_rfl) (by kernel_rfl) (fun _ _ _ h => h) ?hd1 ?hw1 ?hy1 hHeld ?_
      case hi1 => (simp only [List.getElem?_toArray, List.getElem?_cons_zero]; exact rfl)
      case hd1 => rfl
      case hw1 => rfl
      case hy1 => (intro w hSw; (try dsimp only at hSw); go_simp; try with_reducible rfl)
      try simp only [Act.put, List.setIfInBounds_toArray, List.set_cons_zero, List.set_cons_succ]
      refine till_take (i := 1) (oi := ?o2) (d := (some 21)) (v := ?v2) ?hi2 (by kernel_rfl) (by kernel_rfl) (by kernel_rfl) (by kernel_rfl) (by kernel_rfl) (fun _ _ _ h => h) ?hd2 ?hw2 ?hy2 hHeld ?_
      case hi2 => (simp only [List.getElem?_toArray, List.getElem?_cons_zero, List.getElem?_cons_succ]; exact rfl)
      case hd2 => rfl
      case hw2 => rfl
      case hy2 => (intro w hSw; (try dsimp only at hSw); go_simp; try with_reducible rfl)
      try simp only [Act.put, List.setIfInBounds_toArray, List.set_cons_zero, List.set_cons_succ]
      refine till_take (i := 2) (oi := ?o3) (d := (some 22)) (v := ?v3) ?hi3 (by kernel_rfl) (by kernel_rfl) (by kernel_rfl) (by kernel_rfl) (by kernel_rfl) (fun _ _ _ h => h) ?hd3 ?hw3 ?hy3 hHeld ?_
      case hi3 => (simp only [List.getElem?_toArray, List.getElem?_cons_zero, List.getElem?_cons_succ]; exact rfl)
      case hd3 => rfl
      case hw3 => rfl
      case hy3 => (intro w hSw; (try dsimp only at hSw); go_simp; try with_reducible rfl)
      try simp only [Act.put, List.setIfInBounds_toArray, List.set_cons_zero, List.set_cons_succ]
      refine till_take (i := 3) (oi := ?o4) (d := (some 23)) (v := ?v4) ?hi4 (by kernel_rfl) (by kernel_rfl) (by kernel_rfl) (by kernel_rfl) (by kernel_rfl) (fun _ _ _ h => h) ?hd4 ?hw4 ?hy4 hHeld ?_
      case hi4 => (simp only [List.getElem?_toArray, List.getElem?_cons_zero, List.getElem?_cons_succ]; exact rfl)
      case hd4 => rfl
      case hw4 => rfl
      case hy4 => (intro w hSw; (try dsimp only at hSw); go_simp; try with_reducible rfl)
      try simp only [Act.put, List.setIfInBounds_toArray, List.set_cons_zero, List.set_cons_succ]
      refine till_take (i := 4) (oi := ?o5) (d := (some 24)) (v := ?v5) ?hi5 (by kernel_rfl) (by kernel_rfl) (by kernel_rfl) (by kernel_rfl) (by kernel_rfl) (fun _ _ _ h => h) ?hd5 ?hw5 ?hy5 hHeld ?_
      case hi5 => (simp only [List.getElem?_toArray, List.getElem?_cons_zero, List.getElem?_cons_succ]; exact rfl)
      case hd5 => rfl
      case hw5 => rfl
      case hy5 => (intro w hSw; (try dsimp only at hSw); go_simp; try with_reducible rfl)
      try simp only [Act.put, List.setIfInBounds_toArray, List.set_cons_zero, List.set_cons_succ]
      refine till_take (i := 5) (oi := ?o6) (d := (some 25)) (v := ?v6) ?hi6 (by kernel_rfl) (by kernel_rfl) (by kernel_rfl) (by kernel_rfl) (by kernel_rfl) (fun _ _ _ h => h) ?hd6 ?hw6 ?hy6 hHeld ?_
      case hi6 => (simp only [List.getElem?_toArray, List.getElem?_cons_zero, List.getElem?_cons_succ]; exact rfl)
      case hd6 => rfl
      case hw6 => rfl
      case hy6 => (intro w hSw; (try dsimp only at hSw); go_simp; try with_reducible rfl)
      try simp only [Act.put, List.setIfInBounds_toArray, List.set_cons_zero, List.set_cons_succ]
      refine AnyTill.step (i := 6) (by kernel_rfl) (by kernel_rfl) rfl (fun K hK => ?_)
      rw [if_pos (by rfl)]
      refine wp_make_rows _ (.tmp 25) (.tmp 25) 22 rfl 5 i0 (.int .u8 0) 1 Tryz.underlying22 hi0 hz0 hz1 rfl (by decide) s rfl rfl (by rw [hz2]; omega) (by unfold maxLen; omega) ?_
      intro w4 hr4 hg4
      have hbw4 : Below wr.heap.size wr w4 := Below.grown (ext_drew (Below.refl _ _)) hg4 (Nat.le_refl _) (by simp)
      have x4 : w4.cell? ⟨p, 0, none⟩ = some v := (hbw4.cell (p := ⟨p, 0, none⟩) HI.out.own.lt).trans x1
      have hz4 : wr.heap.size < w4.heap.size := by obtain ⟨g, cap, e, he, _, _, hlt⟩ := hr4.form HS0.out; injection e with e; injection e with e; have e2 : g = wr.heap.size := he; omega
      have HR4 := Lib.hid hr4; have HB4 := Lib.hid hbw4; have HZ4 := Lib.hid hz4
      clear hr4 hg4 hbw4 hz4
      refine hK.out _ _ (by first | exact x4 | exact x5 | exact z6) (fun hHeld6 => ?_)
      clear hK K
      try simp only [Act.put, List.setIfInBounds_toArray, List.set_cons_zero, List.set_cons_succ]
      refine AnyTill.step (i := 7) (by kernel_rfl) (by kernel_rfl) rfl (fun K hK => ?_)
      have hb5 : Below wr.heap.size wr (w4.alloc (.cells #[.slice (some ⟨wr.heap.size, 0, none⟩) s s] 22)) := ext_alloc HB4.out _
      have x5 : (w4.alloc (.cells #[.slice (some ⟨wr.heap.size, 0, none⟩) s s] 22)).cell? ⟨p, 0, none⟩ = some v := (hb5.cell (p := ⟨p, 0, none⟩) HI.out.own.lt).trans x1
      have HB5 := Lib.hid hb5
      clear hb5
      go_simp
      go_wp2_with fail
      refine hK.out _ _ (by first | exact x4 | exact x5 | exact z6) (fun hHeld7 => ?_)
      clear hK K
      try simp only [Act.put, List.setIfInBounds_toArray, List.set_cons_zero, List.set_cons_succ]
      refine AnyTill.step (i := 8) (by kernel_rfl) (by kernel_rfl) rfl (fun K hK => ?_)
      rw [if_pos (by rfl)]
      refine wp_append_elem _ (.tmp 24) (.tmp 27) 24 rfl 22 j0 (.slice none 0 0) 1 24 Tryz.underlying24 hj0 hy0 hy1 hy2 rfl (by decide) v k (fun i => [.slice (some ⟨ad i, 0, none⟩) s (cp i)]) rfl (HI.out.row.keep HB5.out) ⟨w4.heap.size, 0, none⟩ 1 [.slice (some ⟨wr.heap.size, 0, none⟩) s s] rfl rfl (news_any w4 _ _) (by intro u hu; simp at hu; subst hu; rfl) (by unfold maxLen; omega) (by omega) ?_
      intro ga ca w6 hr6 hg6
      have hz5 := HB5.out.size
      have hob : ∀ {g : Nat} {o : Obj}, wr.heap[g]? = some o → (∀ c, o ≠ .cells c 22 (0, 0)) → w6.heap[g]? = wr.heap[g]? := fun {g o} ho hne => by
        have hgl := (Array.getElem?_eq_some_iff.1 ho).1
        exact (hg6.block g (by omega) (fun e => HI.out.row.ne_obj e.symm ho hne rfl)).trans (HB5.out.block g hgl)
      have hp6 : Arr w6 p 295 #[v, .slice none 0 0] := (hob HI.out.own (fun c e => by injection e with _ e2; revert e2; decide)).trans HI.out.own
      have he6 : ∀ i, i < k → Blk w6 5 (ad i) (List.replicate s 0) := fun i hi => (HI.out.each i hi).1.same (by obtain ⟨cur, hc, _⟩ := (HI.out.each i hi).1; exact hob hc (fun c e => by injection e with _ e2; revert e2; decide))
      have hn6 : Blk w6 5 wr.heap.size (List.replicate s 0) := by
        have ho4 := HR4.out.own
        have hb4 : Blk w4 5 wr.heap.size (List.replicate s 0) := (Oc.own_blk (bs := List.replicate s 0) (by rw [bytes_rep]; have := ho4; rw [flat_rep] at this; exact this) (List.length_replicate)).1
        obtain ⟨cur, hc, hin⟩ := hb4
        refine ⟨cur, (hg6.block _ (by have := HZ4.out; simp; omega) (fun e => ?_)).trans ((Below.heap_alloc w4 _ _ HZ4.out).trans hc), hin⟩
        have hlt := (own_lt HI.out.row.own e.symm).1
        omega
      have hbw6 : Below w.heap.size w w6 := (ext_trans HI.out.below HB5.out).grown hg6 (by have := (ext_trans HI.out.below HB5.out).size; exact this) (fun g e => HI.out.row.block g e)
      have m6 := hp6.mark 0
      have z6 : w6.cell? ⟨p, 0, none⟩ = some v := hp6.cell 0
      have hpg : p ≠ ga := hr6.ne_obj rfl hp6 (fun c e => by injection e with _ e2; revert e2; decide)
      have HR6 := Lib.hid hr6; have HP6 := Lib.hid hp6; have HE6 := Lib.hid he6; have HN6 := Lib.hid hn6; have HB6 := Lib.hid hbw6; have HPG := Lib.hid hpg
      clear hr6 hg6 hob hp6 he6 hn6 hbw6 hpg hz5
      refine hK.out _ _ (by first | exact x4 | exact x5 | exact z6) (fun hHeld8 => ?_)
      clear hK K
      try simp only [Act.put, List.setIfInBounds_toArray, List.set_cons_zero, List.set_cons_succ]
      refine till_pure (i := 9) (oi := ?o7) (d := (some 29)) (v := ?v7) ?hi7 (by kernel_rfl) (by kernel_rfl) (by kernel_rfl) (by kernel_rfl) (fun _ _ _ h => h) ?hd7 ?hw7 ?hy7 hHeld8 ?_
      case hi7 => (simp only [List.getElem?_toArray, List.getElem?_cons_zero, List.getElem?_cons_succ]; exact rfl)
      case hd7 => rfl
      case hw7 => rfl
      case hy7 => (intro w; go_simp; try with_reducible rfl)
      try simp only [Act.put, List.setIfInBounds_toArray, List.set_cons_zero, List.set_cons_succ]
      refine till_take (i := 10) (oi := ?o8) (d := (some 30)) (v := ?v8) ?hi8 (by kernel_rfl) (by kernel_rfl) (by kernel_rfl) (by kernel_rfl) (by kernel_rfl) (fun _ _ _ h => h) ?hd8 ?hw8 ?hy8 hHeld8 ?_
      case hi8 => (simp only [List.getElem?_toArray, List.getElem?_cons_zero, List.getElem?_cons_succ]; exact rfl)
      case hd8 => rfl
      case hw8 => rfl
      case hy8 => (intro w hSw; (try dsimp only at hSw); go_simp; try with_reducible rfl)
      try simp only [Act.put, List.setIfInBounds_toArray, List.set_cons_zero, List.set_cons_succ]
      refine AnyTill.last (by kernel_rfl) ?_
      refine any_drop 11 (by kernel_rfl) (by kernel_rfl) ?_
      simp only [List.drop_succ_cons, List.drop_zero]
      have hf : DkSt w (w6.setCell ⟨p, 0, none⟩ (.slice (some ⟨ga, 0, none⟩) (k + 1) ca)) p s (k + 1) (.slice (some ⟨ga, 0, none⟩) (k + 1) ca) (setL ad k wr.heap.size) (setL cp k s) := by
        have hpw : w.heap.size ≤ p := HI.out.news
        have hsc : ∀ g, g ≠ p → (w6.setCell ⟨p, 0, none⟩ (.slice (some ⟨ga, 0, none⟩) (k + 1) ca)).heap[g]? = w6.heap[g]? := fun g hg => Below.heap_setCell w6 ⟨p, 0, none⟩ _ g hg
        have hbne : ∀ {g : Nat}, Blk w6 5 g (List.replicate s 0) → g ≠ p := fun {g} hb e => by
          obtain ⟨cur, hc, _⟩ := hb
          have h2 := HP6.out
          rw [Arr, ← e, hc] at h2
          injection h2 with h2
          injection h2 with _ h3
          revert h3; decide
        have hwr : w.heap.size ≤ wr.heap.size := HI.out.below.size
        refine ⟨by simpa using HP6.out.put 0 (.slice (some ⟨ga, 0, none⟩) (k + 1) ca), ?_, fun i hi => ?_, fun i j hi hj he => ?_, ext_setCell HB6.out hpw _, HI.out.news⟩
        · have h1 := (HR6.out.mono (T := fun g => w.heap.size ≤ g) (fun g hg _ => by
            rcases hg with hg | hg
            · exact hg
            · have := HB5.out.size; omega)).keep1 (hsc ga (Ne.symm HPG.out))
          refine ⟨?_, h1.block⟩
          have h2 := h1.own
          rw [flat_congr (d := fun i => [.slice (some ⟨setL ad k wr.heap.size i, 0, none⟩) s (setL cp k s i)]) (fun i hi => ?_)] at h2
          · exact h2
          · by_cases e : i = k
            · subst e; rw [setL_same, setL_same, setL_same]
            · rw [setL_other _ _ e, setL_other _ _ e, setL_other _ _ e]
        · by_cases e : i = k
          · subst e
            rw [setL_same, setL_same]
            exact ⟨HN6.out.same (hsc _ (hbne HN6.out)), Nat.le_refl _, hwr⟩
          · rw [setL_other _ _ e, setL_other _ _ e]
            have hb := HE6.out i (by omega)
            exact ⟨hb.same (hsc _ (hbne hb)), (HI.out.each i (by omega)).2⟩
        · have hlt : ∀ i, i < k → ad i < wr.heap.size := fun i hi => (HI.out.each i hi).1.lt
          by_cases e1 : i = k <;> by_cases e2 : j = k
          · omega
          · subst e1; rw [setL_same, setL_other _ _ e2] at he; have := hlt j (by omega); omega
          · subst e2; rw [setL_same, setL_other _ _ e1] at he; have := hlt i (by omega); omega
          · rw [setL_other _ _ e1, setL_other _ _ e2] at he; exact HI.out.alone i j (by omega) (by omega) he
      have HF := Lib.hid hf
      clear hf
      go_wp2_with fail
      go_roundw
      case rel => exact ⟨k + 1, _, _, _, by omega, by go_num, HF.out⟩
      case measure => simp [intOf]; omega
    · have h' : ¬ (k : Int) < (n : Int) := by omega
      have hkn : k = n := by omega
      have hd := HI.out
      rw [hkn] at hd
      have HF := Lib.hid (show DkOut n s w (.returned (.tuple #[.pointer (some ⟨p, 0, none⟩), .int .i64 0])) wr from ⟨p, _, _, _, rfl, hd⟩)
      clear hd hkn
      go_wp2_with fail
      go_ret2
      exact HF.out

end Go.Proofs.YtkmpchffflemcaaGreatDoor.Rf
end

/- The document's devices, regions, logs, slots, books, engines: how they are made. -/
section
set_option linter.unusedVariables false
set_option linter.unusedSimpArgs false
namespace Go.Proofs.YtkmpchffflemcaaGreatDoor.Rf
open Go.RowKit
open Go.Proofs.YtkmpchffflemcaaGreatDoor.Oc (Bs bytesV byteV okA okA_some okA_none ClOut)
open Go.Proofs.YtkmpchffflemcaaGreatDoor.En (By bytes_rep flat_rep rows_info)

/-- a document's disk of n sectors of s bytes -/
structure DkN (w : World) (k n s : Nat) : Prop where
  ex : ∃ g c A c0, Arr w k 295 #[.slice (some ⟨g, 0, none⟩) n c, .slice none 0 0] ∧ w.cell? ⟨g, 0, none⟩ = some (.slice A s c0) ∧ g < w.heap.size
  pos : 1 ≤ n
theorem DkN.keep {w w' : World} {k n s : Nat} (h : DkN w k n s) (hb : Below w.heap.size w w') : DkN w' k n s := by
  obtain ⟨⟨g, c, A, c0, h1, h2, h3⟩, h4⟩ := h
  exact ⟨⟨g, c, A, c0, h1.keep hb, (hb.cell (p := ⟨g, 0, none⟩) h3).trans h2, Nat.lt_of_lt_of_le h3 hb.size⟩, h4⟩
theorem DkSt.dkn {w wr : World} {p s n : Nat} {v : Value} {ad cp : Nat → Nat} (h : DkSt w wr p s n v ad cp) (hn : 1 ≤ n) : DkN wr p n s := by
  obtain ⟨g, c, rfl, _, _, _, hg⟩ := h.row.form (by omega)
  refine ⟨⟨g, c, some ⟨ad 0, 0, none⟩, cp 0, h.own, ?_, hg⟩, hn⟩
  have := h.row.range (i := 0) (fun i => rfl) (by omega) 0 (.slice (some ⟨ad 0, 0, none⟩) s (cp 0)) (by simp)
  simpa using this
set_option maxRecDepth 100000 in
set_option maxHeartbeats 1000000 in
theorem Sec5_in {w : World} {k n s : Nat} (h : DkN w k n s) : Calls Tryz.prog 151 #[.pointer (some ⟨k, 0, none⟩)] w fun e w' => e = .returned (.int .i64 n) ∧ w' = w := by
  obtain ⟨⟨g, c, A, c0, h1, _⟩, _⟩ := h
  have x0 : w.cell? ⟨k, 0, none⟩ = some (.slice (some ⟨g, 0, none⟩) n c) := h1.cell 0
  clear h1
  go_enter Tryz.func151, Tryz.ntmps151
  go_wp2_with fail
  go_ret
  exact ⟨rfl, rfl⟩
set_option maxRecDepth 100000 in
set_option maxHeartbeats 1000000 in
theorem Siz5_in {w : World} {k n s : Nat} (h : DkN w k n s) : Calls Tryz.prog 152 #[.pointer (some ⟨k, 0, none⟩)] w fun e w' => e = .returned (.int .i64 s) ∧ w' = w := by
  obtain ⟨⟨g, c, A, c0, h1, x1, _⟩, hp⟩ := h
  have x0 : w.cell? ⟨k, 0, none⟩ = some (.slice (some ⟨g, 0, none⟩) n c) := h1.cell 0
  have hz : ((n : Int) == 0) = false := beq_eq_false_iff_ne.2 (by omega)
  have hz2 : ¬ (n : Int) = 0 := by omega
  have hz3 : (0 : Int) < (n : Int) := by omega
  clear h1
  go_enter Tryz.func152, Tryz.ntmps152
  go_wp2_with fail
  go_ret
  exact ⟨rfl, rfl⟩
def dv0 (k : Nat) : Array Value := #[.pointer (some ⟨k, 0, none⟩), .bool false, .int .i64 (-1), .int .i64 0]
/-- a document's device over such a disk -/
structure DvN (w : World) (m k n s : Nat) : Prop where
  own : ∃ a b c, Arr w m 297 #[.pointer (some ⟨k, 0, none⟩), a, b, c]
  dk : DkN w k n s
theorem DvN.keep {w w' : World} {m k n s : Nat} (h : DvN w m k n s) (hb : Below w.heap.size w w') : DvN w' m k n s := by
  obtain ⟨⟨a, b, c, h1⟩, h2⟩ := h
  exact ⟨⟨a, b, c, h1.keep hb⟩, h2.keep hb⟩
set_option maxRecDepth 100000 in
set_option maxHeartbeats 1000000 in
theorem Sec6_in {w : World} {m k n s : Nat} (h : DvN w m k n s) : Calls Tryz.prog 97 #[.pointer (some ⟨m, 0, none⟩)] w fun e w' => e = .returned (.int .i64 n) ∧ w' = w := by
  obtain ⟨⟨a, b, c, h1⟩, h2⟩ := h
  have x0 : w.cell? ⟨m, 0, none⟩ = some (.pointer (some ⟨k, 0, none⟩)) := h1.cell 0
  have H2 := Lib.hid h2
  clear h1 h2
  go_enter Tryz.func97, Tryz.ntmps97
  go_wp2_with fail
  refine (Sec5_in H2.out).mono ?_
  rintro e wq ⟨rfl, hwq⟩
  rw [hwq]
  clear hwq wq
  go_wp2_with fail
  go_ret
  exact ⟨rfl, rfl⟩
set_option maxRecDepth 100000 in
set_option maxHeartbeats 1000000 in
theorem Siz6_in {w : World} {m k n s : Nat} (h : DvN w m k n s) : Calls Tryz.prog 99 #[.pointer (some ⟨m, 0, none⟩)] w fun e w' => e = .returned (.int .i64 s) ∧ w' = w := by
  obtain ⟨⟨a, b, c, h1⟩, h2⟩ := h
  have x0 : w.cell? ⟨m, 0, none⟩ = some (.pointer (some ⟨k, 0, none⟩)) := h1.cell 0
  have H2 := Lib.hid h2
  clear h1 h2
  go_enter Tryz.func99, Tryz.ntmps99
  go_wp2_with fail
  refine (Siz5_in H2.out).mono ?_
  rintro e wq ⟨rfl, hwq⟩
  rw [hwq]
  clear hwq wq
  go_wp2_with fail
  go_ret
  exact ⟨rfl, rfl⟩
set_option maxRecDepth 100000 in
set_option maxHeartbeats 1000000 in
theorem New6_in {w : World} {k n s : Nat} (h : DkN w k n s) : Calls Tryz.prog 76 #[.pointer (some ⟨k, 0, none⟩)] w fun e w' => ∃ m, e = .returned (.pointer (some ⟨m, 0, none⟩)) ∧ Arr w' m 297 (dv0 k) ∧ w.heap.size ≤ m ∧ Below w.heap.size w w' := by
  have HF := Lib.hid (show ∃ m, Ending.returned (.pointer (some ⟨w.heap.size, 0, none⟩)) = .returned (.pointer (some ⟨m, 0, none⟩)) ∧ Arr (w.alloc (.cells (dv0 k) 297)) m 297 (dv0 k) ∧ w.heap.size ≤ m ∧ Below w.heap.size w (w.alloc (.cells (dv0 k) 297)) from ⟨_, rfl, Arr.fresh w _ _, Nat.le_refl _, ext_alloc (Below.refl _ _) _⟩)
  clear h
  go_enter Tryz.func76, Tryz.ntmps76
  go_wp2_with fail
  go_ret
  exact HF.out
/-- a document's region -/
structure RgN (w : World) (r m k n s f c : Nat) : Prop where
  own : Arr w r 212 #[.pointer (some ⟨m, 0, none⟩), .int .i64 f, .int .i64 c]
  dv : DvN w m k n s
theorem RgN.keep {w w' : World} {r m k n s f c : Nat} (h : RgN w r m k n s f c) (hb : Below w.heap.size w w') : RgN w' r m k n s f c := ⟨h.own.keep hb, h.dv.keep hb⟩
set_option maxRecDepth 100000 in
set_option maxHeartbeats 2000000 in
theorem New7_in {w : World} {m k n s f c : Nat} (h : DvN w m k n s) (h1 : 1 ≤ c) (h2 : f + c ≤ n) (hn : n ≤ 65536) : Calls Tryz.prog 39 #[.pointer (some ⟨m, 0, none⟩), .agg #[.int .i64 f, .int .i64 c]] w fun e w' => ∃ r, e = .returned (.tuple #[.pointer (some ⟨r, 0, none⟩), .int .i64 0]) ∧ RgN w' r m k n s f c ∧ w.heap.size ≤ r ∧ Below w.heap.size w w' := by
  have hs : (Tryz.prog.info? 95).map (·.size) = some 2 := by kernel_rfl
  obtain ⟨xs, hxs⟩ : ∃ xs, w.heap.size = xs := ⟨_, rfl⟩
  obtain ⟨w1, hw1⟩ : ∃ w1, w.alloc (.cells #[.int .i64 f, .int .i64 c] 95) = w1 := ⟨_, rfl⟩
  have hA1 : Arr w1 xs 95 #[.int .i64 f, .int .i64 c] := by rw [← hw1, ← hxs]; exact Arr.fresh w _ _
  have HB1 := Lib.hid (show Below w.heap.size w w1 by rw [← hw1]; exact ext_alloc (Below.refl _ _) _)
  have HD1 := Lib.hid (h.keep HB1.out)
  have HA1 := Lib.hid hA1
  have HSE := Lib.hid (show ∀ W, Below w1.heap.size w1 W → Calls Tryz.prog 97 #[.pointer (some ⟨m, 0, none⟩)] W (fun e w' => e = .returned (.int .i64 n) ∧ w' = W) from fun W hW => Sec6_in (HD1.out.keep hW))
  have y0 : w1.cell? ⟨xs, 0, none⟩ = some (.int .i64 f) := hA1.cell 0
  have y1 : w1.cell? ⟨xs, 1, none⟩ = some (.int .i64 c) := hA1.cell 1
  have HCS := Lib.hid (show ∀ w', Below w1.heap.size w1 w' → ((fun w' => w'.cell? ⟨xs, 0, none⟩ = some (.int .i64 f) ∧ w'.cell? ⟨xs, 1, none⟩ = some (.int .i64 c) ∧ Below w1.heap.size w1 w') w') from fun w' hb => ⟨(hb.cell (p := ⟨xs, 0, none⟩) hA1.lt).trans y0, (hb.cell (p := ⟨xs, 1, none⟩) hA1.lt).trans y1, hb⟩)
  have q0 : decide ((f : Int) < 0) = false := decide_eq_false (by omega)
  have q1 : decide ((c : Int) < 1) = false := decide_eq_false (by omega)
  have q2 : decide ((n : Int) < (f : Int)) = false := decide_eq_false (by omega)
  have q3 : IntKind.i64.wrap ((n : Int) - (f : Int)) = (n : Int) - (f : Int) := by rw [IntKind.wrap_i64]; omega
  have q4 : decide ((n : Int) - (f : Int) < (c : Int)) = false := decide_eq_false (by omega)
  have q2n : decide (n < f) = false := decide_eq_false (by omega)
  clear h hA1 h1 h2 hn
  go_enter Tryz.func39, Tryz.ntmps39
  go_wp2_with fail
  refine wp_region_held_drew (S := (fun w' => w'.cell? ⟨xs, 0, none⟩ = some (.int .i64 f) ∧ w'.cell? ⟨xs, 1, none⟩ = some (.int .i64 c) ∧ Below w1.heap.size w1 w')) (by kernel_rfl) (by exact HCS.out _ (ext_drew (Below.refl _ _))) (fun hHeld => ?_)
  refine take_yes (i := 0) (oi := ?o1) (d := (some 6)) (v := ?v1) ?hi1 (by kernel_rfl) (by kernel_rfl) (by kernel_rfl) (fun _ _ _ h => h) ?hd1 ?hw1 ?hy1 (by assumption) ?_
  case hi1 => (simp only [List.getElem?_toArray, List.getElem?_cons_zero]; exact rfl)
  case hd1 => rfl
  case hw1 => rfl
  case hy1 => (intro w hSw; (try dsimp only at hSw); go_simp; try with_reducible rfl)
  try simp only [Act.put, List.setIfInBounds_toArray, List.set_cons_zero, List.set_cons_succ]
  refine take_yes (i := 1) (oi := ?o2) (d := (some 7)) (v := ?v2) ?hi2 (by kernel_rfl) (by kernel_rfl) (by kernel_rfl) (fun _ _ _ h => h) ?hd2 ?hw2 ?hy2 (by assumption) ?_
  case hi2 => (simp only [List.getElem?_toArray, List.getElem?_cons_zero, List.getElem?_cons_succ]; exact rfl)
  case hd2 => rfl
  case hw2 => rfl
  case hy2 => (intro w hSw; (try dsimp only at hSw); go_simp; try with_reducible rfl)
  try simp only [Act.put, List.setIfInBounds_toArray, List.set_cons_zero, List.set_cons_succ]
  refine take_yes (i := 2) (oi := ?o3) (d := (some 8)) (v := ?v3) ?hi3 (by kernel_rfl) (by kernel_rfl) (by kernel_rfl) (fun _ _ _ h => h) ?hd3 ?hw3 ?hy3 (by assumption) ?_
  case hi3 => (simp only [List.getElem?_toArray, List.getElem?_cons_zero, List.getElem?_cons_succ]; exact rfl)
  case hd3 => rfl
  case hw3 => rfl
  case hy3 => (intro w hSw; (try dsimp only at hSw); go_simp; try with_reducible rfl)
  try simp only [Act.put, List.setIfInBounds_toArray, List.set_cons_zero, List.set_cons_succ]
  refine take_yes (i := 3) (oi := ?o4) (d := (some 9)) (v := ?v4) ?hi4 (by kernel_rfl) (by kernel_rfl) (by kernel_rfl) (fun _ _ _ h => h) ?hd4 ?hw4 ?hy4 (by assumption) ?_
  case hi4 => (simp only [List.getElem?_toArray, List.getElem?_cons_zero, List.getElem?_cons_succ]; exact rfl)
  case hd4 => rfl
  case hw4 => rfl
  case hy4 => (intro w hSw; (try dsimp only at hSw); go_simp; try with_reducible rfl)
  try simp only [Act.put, List.setIfInBounds_toArray, List.set_cons_zero, List.set_cons_succ]
  refine take_yes (i := 4) (oi := ?o5) (d := (some 10)) (v := ?v5) ?hi5 (by kernel_rfl) (by kernel_rfl) (by kernel_rfl) (fun _ _ _ h => h) ?hd5 ?hw5 ?hy5 (by assumption) ?_
  case hi5 => (simp only [List.getElem?_toArray, List.getElem?_cons_zero, List.getElem?_cons_succ]; exact rfl)
  case hd5 => rfl
  case hw5 => rfl
  case hy5 => (intro w hSw; (try dsimp only at hSw); go_simp; try with_reducible rfl)
  try simp only [Act.put, List.setIfInBounds_toArray, List.set_cons_zero, List.set_cons_succ]
  refine take_yes (i := 5) (oi := ?o6) (d := (some 11)) (v := ?v6) ?hi6 (by kernel_rfl) (by kernel_rfl) (by kernel_rfl) (fun _ _ _ h => h) ?hd6 ?hw6 ?hy6 (by assumption) ?_
  case hi6 => (simp only [List.getElem?_toArray, List.getElem?_cons_zero, List.getElem?_cons_succ]; exact rfl)
  case hd6 => rfl
  case hw6 => rfl
  case hy6 => (intro w hSw; (try dsimp only at hSw); go_simp; try with_reducible rfl)
  try simp only [Act.put, List.setIfInBounds_toArray, List.set_cons_zero, List.set_cons_succ]
  refine take_yes (i := 6) (oi := ?o7) (d := (some 12)) (v := ?v7) ?hi7 (by kernel_rfl) (by kernel_rfl) (by kernel_rfl) (fun _ _ _ h => h) ?hd7 ?hw7 ?hy7 (by assumption) ?_
  case hi7 => (simp only [List.getElem?_toArray, List.getElem?_cons_zero, List.getElem?_cons_succ]; exact rfl)
  case hd7 => rfl
  case hw7 => rfl
  case hy7 => (intro w hSw; (try dsimp only at hSw); go_simp; try with_reducible rfl)
  try simp only [Act.put, List.setIfInBounds_toArray, List.set_cons_zero, List.set_cons_succ]
  refine take_yes (i := 7) (oi := ?o8) (d := (some 13)) (v := ?v8) ?hi8 (by kernel_rfl) (by kernel_rfl) (by kernel_rfl) (fun _ _ _ h => h) ?hd8 ?hw8 ?hy8 (by assumption) ?_
  case hi8 => (simp only [List.getElem?_toArray, List.getElem?_cons_zero, List.getElem?_cons_succ]; exact rfl)
  case hd8 => rfl
  case hw8 => rfl
  case hy8 => (intro w hSw; (try dsimp only at hSw); go_simp; try with_reducible rfl)
  try simp only [Act.put, List.setIfInBounds_toArray, List.set_cons_zero, List.set_cons_succ]
  refine take_yes (i := 8) (oi := ?o9) (d := (some 14)) (v := ?v9) ?hi9 (by kernel_rfl) (by kernel_rfl) (by kernel_rfl) (fun _ _ _ h => h) ?hd9 ?hw9 ?hy9 (by assumption) ?_
  case hi9 => (simp only [List.getElem?_toArray, List.getElem?_cons_zero, List.getElem?_cons_succ]; exact rfl)
  case hd9 => rfl
  case hw9 => rfl
  case hy9 => (intro w hSw; (try dsimp only at hSw); go_simp; try with_reducible rfl)
  try simp only [Act.put, List.setIfInBounds_toArray, List.set_cons_zero, List.set_cons_succ]
  refine take_yes (i := 9) (oi := ?o10) (d := (some 15)) (v := ?v10) ?hi10 (by kernel_rfl) (by kernel_rfl) (by kernel_rfl) (fun _ _ _ h => h) ?hd10 ?hw10 ?hy10 (by assumption) ?_
  case hi10 => (simp only [List.getElem?_toArray, List.getElem?_cons_zero, List.getElem?_cons_succ]; exact rfl)
  case hd10 => rfl
  case hw10 => rfl
  case hy10 => (intro w hSw; (try dsimp only at hSw); go_simp; try with_reducible rfl)
  try simp only [Act.put, List.setIfInBounds_toArray, List.set_cons_zero, List.set_cons_succ]
  refine take_yes (i := 10) (oi := ?o11) (d := (some 16)) (v := ?v11) ?hi11 (by kernel_rfl) (by kernel_rfl) (by kernel_rfl) (fun _ _ _ h => h) ?hd11 ?hw11 ?hy11 (by assumption) ?_
  case hi11 => (simp only [List.getElem?_toArray, List.getElem?_cons_zero, List.getElem?_cons_succ]; exact rfl)
  case hd11 => rfl
  case hw11 => rfl
  case hy11 => (intro w hSw; (try dsimp only at hSw); go_simp; try with_reducible rfl)
  try simp only [Act.put, List.setIfInBounds_toArray, List.set_cons_zero, List.set_cons_succ]
  refine take_yes (i := 11) (oi := ?o12) (d := (some 17)) (v := ?v12) ?hi12 (by kernel_rfl) (by kernel_rfl) (by kernel_rfl) (fun _ _ _ h => h) ?hd12 ?hw12 ?hy12 (by assumption) ?_
  case hi12 => (simp only [List.getElem?_toArray, List.getElem?_cons_zero, List.getElem?_cons_succ]; exact rfl)
  case hd12 => rfl
  case hw12 => rfl
  case hy12 => (intro w hSw; (try dsimp only at hSw); go_simp; try with_reducible rfl)
  try simp only [Act.put, List.setIfInBounds_toArray, List.set_cons_zero, List.set_cons_succ]
  refine wpAnyH_ready (rs := [12]) (by kernel_rfl) (by simp) ?_
  refine AllReadyH.cons rfl (fun K hK => ?_) AllReadyH.nil
  go_simp
  (go_at_call 97; refine (HSE.out _ hHeld.2.2).mono ?_; rintro e wq ⟨rfl, hwq⟩; rw [hwq]; clear hwq wq)
  go_wp2_with fail
  refine hK.out _ _ (by first | exact hHeld12 | exact hHeld) (fun hHeld12 => ?_)
  clear hK K
  try simp only [Act.put, List.setIfInBounds_toArray, List.set_cons_zero, List.set_cons_succ]
  refine take_yes (i := 13) (oi := ?o13) (d := (some 19)) (v := ?v13) ?hi13 (by kernel_rfl) (by kernel_rfl) (by kernel_rfl) (fun _ _ _ h => h) ?hd13 ?hw13 ?hy13 (by assumption) ?_
  case hi13 => (simp only [List.getElem?_toArray, List.getElem?_cons_zero, List.getElem?_cons_succ]; exact rfl)
  case hd13 => rfl
  case hw13 => rfl
  case hy13 => (intro w hSw; (try dsimp only at hSw); go_simp; try with_reducible rfl)
  try simp only [Act.put, List.setIfInBounds_toArray, List.set_cons_zero, List.set_cons_succ]
  refine take_yes (i := 14) (oi := ?o14) (d := (some 20)) (v := ?v14) ?hi14 (by kernel_rfl) (by kernel_rfl) (by kernel_rfl) (fun _ _ _ h => h) ?hd14 ?hw14 ?hy14 (by assumption) ?_
  case hi14 => (simp only [List.getElem?_toArray, List.getElem?_cons_zero, List.getElem?_cons_succ]; exact rfl)
  case hd14 => rfl
  case hw14 => rfl
  case hy14 => (intro w hSw; (try dsimp only at hSw); go_simp; try with_reducible rfl)
  try simp only [Act.put, List.setIfInBounds_toArray, List.set_cons_zero, List.set_cons_succ]
  refine take_yes (i := 15) (oi := ?o15) (d := (some 21)) (v := ?v15) ?hi15 (by kernel_rfl) (by kernel_rfl) (by kernel_rfl) (fun _ _ _ h => h) ?hd15 ?hw15 ?hy15 (by assumption) ?_
  case hi15 => (simp only [List.getElem?_toArray, List.getElem?_cons_zero, List.getElem?_cons_succ]; exact rfl)
  case hd15 => rfl
  case hw15 => rfl
  case hy15 => (intro w hSw; (try dsimp only at hSw); go_simp; try with_reducible rfl)
  try simp only [Act.put, List.setIfInBounds_toArray, List.set_cons_zero, List.set_cons_succ]
  refine take_yes (i := 16) (oi := ?o16) (d := (some 22)) (v := ?v16) ?hi16 (by kernel_rfl) (by kernel_rfl) (by kernel_rfl) (fun _ _ _ h => h) ?hd16 ?hw16 ?hy16 (by assumption) ?_
  case hi16 => (simp only [List.getElem?_toArray, List.getElem?_cons_zero, List.getElem?_cons_succ]; exact rfl)
  case hd16 => rfl
  case hw16 => rfl
  case hy16 => (intro w hSw; (try dsimp only at hSw); go_simp; try with_reducible rfl)
  try simp only [Act.put, List.setIfInBounds_toArray, List.set_cons_zero, List.set_cons_succ]
  refine take_yes (i := 17) (oi := ?o17) (d := (some 23)) (v := ?v17) ?hi17 (by kernel_rfl) (by kernel_rfl) (by kernel_rfl) (fun _ _ _ h => h) ?hd17 ?hw17 ?hy17 (by assumption) ?_
  case hi17 => (simp only [List.getElem?_toArray, List.getElem?_cons_zero, List.getElem?_cons_succ]; exact rfl)
  case hd17 => rfl
  case hw17 => rfl
  case hy17 => (intro w hSw; (try dsimp only at hSw); go_simp; try with_reducible rfl)
  try simp only [Act.put, List.setIfInBounds_toArray, List.set_cons_zero, List.set_cons_succ]
  refine take_yes (i := 18) (oi := ?o18) (d := (some 24)) (v := ?v18) ?hi18 (by kernel_rfl) (by kernel_rfl) (by kernel_rfl) (fun _ _ _ h => h) ?hd18 ?hw18 ?hy18 (by assumption) ?_
  case hi18 => (simp only [List.getElem?_toArray, List.getElem?_cons_zero, List.getElem?_cons_succ]; exact rfl)
  case hd18 => rfl
  case hw18 => rfl
  case hy18 => (intro w hSw; (try dsimp only at hSw); go_simp; try with_reducible rfl)
  try simp only [Act.put, List.setIfInBounds_toArray, List.set_cons_zero, List.set_cons_succ]
  refine take_yes (i := 20) (oi := ?o19) (d := (some 26)) (v := ?v19) ?hi19 (by kernel_rfl) (by kernel_rfl) (by kernel_rfl) (fun _ _ _ h => h) ?hd19 ?hw19 ?hy19 (by assumption) ?_
  case hi19 => (simp only [List.getElem?_toArray, List.getElem?_cons_zero, List.getElem?_cons_succ]; exact rfl)
  case hd19 => rfl
  case hw19 => rfl
  case hy19 => (intro w hSw; (try dsimp only at hSw); go_simp; try with_reducible rfl)
  try simp only [Act.put, List.setIfInBounds_toArray, List.set_cons_zero, List.set_cons_succ]
  refine take_yes (i := 21) (oi := ?o20) (d := (some 27)) (v := ?v20) ?hi20 (by kernel_rfl) (by kernel_rfl) (by kernel_rfl) (fun _ _ _ h => h) ?hd20 ?hw20 ?hy20 (by assumption) ?_
  case hi20 => (simp only [List.getElem?_toArray, List.getElem?_cons_zero, List.getElem?_cons_succ]; exact rfl)
  case hd20 => rfl
  case hw20 => rfl
  case hy20 => (intro w hSw; (try dsimp only at hSw); go_simp; try with_reducible rfl)
  try simp only [Act.put, List.setIfInBounds_toArray, List.set_cons_zero, List.set_cons_succ]
  refine wpAnyH_ready (rs := [19]) (by kernel_rfl) (by simp) ?_
  refine AllReadyH.cons rfl (fun K hK => ?_) AllReadyH.nil
  go_simp
  (go_at_call 97; refine (HSE.out _ hHeld12.2.2).mono ?_; rintro e wq ⟨rfl, hwq⟩; rw [hwq]; clear hwq wq)
  go_wp2_with fail
  refine hK.out _ _ (by first | exact hHeld12 | exact hHeld) (fun hHeld19 => ?_)
  clear hK K
  try simp only [Act.put, List.setIfInBounds_toArray, List.set_cons_zero, List.set_cons_succ]
  refine take_yes (i := 22) (oi := ?o21) (d := (some 28)) (v := ?v21) ?hi21 (by kernel_rfl) (by kernel_rfl) (by kernel_rfl) (fun _ _ _ h => h) ?hd21 ?hw21 ?hy21 (by assumption) ?_
  case hi21 => (simp only [List.getElem?_toArray, List.getElem?_cons_zero, List.getElem?_cons_succ]; exact rfl)
  case hd21 => rfl
  case hw21 => rfl
  case hy21 => (intro w hSw; (try dsimp only at hSw); go_simp; try with_reducible rfl)
  try simp only [Act.put, List.setIfInBounds_toArray, List.set_cons_zero, List.set_cons_succ]
  refine take_yes (i := 23) (oi := ?o22) (d := (some 29)) (v := ?v22) ?hi22 (by kernel_rfl) (by kernel_rfl) (by kernel_rfl) (fun _ _ _ h => h) ?hd22 ?hw22 ?hy22 (by assumption) ?_
  case hi22 => (simp only [List.getElem?_toArray, List.getElem?_cons_zero, List.getElem?_cons_succ]; exact rfl)
  case hd22 => rfl
  case hw22 => rfl
  case hy22 => (intro w hSw; (try dsimp only at hSw); go_simp; try with_reducible rfl)
  try simp only [Act.put, List.setIfInBounds_toArray, List.set_cons_zero, List.set_cons_succ]
  refine take_yes (i := 24) (oi := ?o23) (d := (some 30)) (v := ?v23) ?hi23 (by kernel_rfl) (by kernel_rfl) (by kernel_rfl) (fun _ _ _ h => h) ?hd23 ?hw23 ?hy23 (by assumption) ?_
  case hi23 => (simp only [List.getElem?_toArray, List.getElem?_cons_zero, List.getElem?_cons_succ]; exact rfl)
  case hd23 => rfl
  case hw23 => rfl
  case hy23 => (intro w hSw; (try dsimp only at hSw); go_simp; try with_reducible rfl)
  try simp only [Act.put, List.setIfInBounds_toArray, List.set_cons_zero, List.set_cons_succ]
  refine wpAnyH_done (by kernel_rfl) ?_ _
  have hB2 := ext_drew (Below.refl w1.heap.size w1)
  obtain ⟨w2, hw2⟩ : ∃ w2, w1.drew = w2 := ⟨_, rfl⟩
  rw [hw2] at hB2 ⊢
  have HA2 := Lib.hid (HA1.out.keep hB2)
  have HB2 := Lib.hid (ext_trans HB1.out hB2)
  have HD2 := Lib.hid (HD1.out.keep hB2)
  clear hHeld hHeld12 hHeld19 hw2 hB2
  have HF := Lib.hid (show ∃ r, Ending.returned (.tuple #[.pointer (some ⟨w2.heap.size, 0, none⟩), .int .i64 0]) = .returned (.tuple #[.pointer (some ⟨r, 0, none⟩), .int .i64 0]) ∧ RgN (w2.alloc (.cells #[.pointer (some ⟨m, 0, none⟩), .int .i64 f, .int .i64 c] 212)) r m k n s f c ∧ w.heap.size ≤ r ∧ Below w.heap.size w (w2.alloc (.cells #[.pointer (some ⟨m, 0, none⟩), .int .i64 f, .int .i64 c] 212)) from ⟨_, rfl, ⟨Arr.fresh w2 _ _, HD2.out.keep (ext_alloc (Below.refl _ _) _)⟩, HB2.out.size, ext_alloc HB2.out _⟩)
  go_wp2_with (refine wpList_load_blk rfl 95 _ rfl xs 95 _ HA2.out rfl _ Tryz.underlying95 rfl hs ?_)
  go_ret2
  exact HF.out

end Go.Proofs.YtkmpchffflemcaaGreatDoor.Rf
end

/- The document's slots, log, book, engine: how they are made. -/
section
set_option linter.unusedVariables false
set_option linter.unusedSimpArgs false
namespace Go.Proofs.YtkmpchffflemcaaGreatDoor.Rf
open Go.RowKit

theorem drewN_below (w : World) (n : Nat) : Below w.heap.size w (w.drewN n) := ⟨rfl, rfl, rfl, Nat.le_refl _, fun _ _ => rfl⟩
theorem drewN_add (w : World) (n k : Nat) : (w.drewN n).drewN k = w.drewN (n + k) := by simp [World.drewN, Nat.add_assoc]
set_option maxRecDepth 100000 in
set_option maxHeartbeats 1000000 in
theorem Byt7_in {w : World} {r m k n s f c : Nat} (h : RgN w r m k n s f c) (hn : c ≤ 65536) (hs : s ≤ 4096) : Calls Tryz.prog 98 #[.pointer (some ⟨r, 0, none⟩)] w fun e w' => e = .returned (.int .i64 (c * s : Nat)) ∧ ∃ n, w' = w.drewN n := by
  have x0 : w.cell? ⟨r, 0, none⟩ = some (.pointer (some ⟨m, 0, none⟩)) := h.own.cell 0
  have x2 : w.cell? ⟨r, 2, none⟩ = some (.int .i64 c) := h.own.cell 2
  have HS := Lib.hid (fun n => Siz6_in (h.dv.keep (drewN_below w n)))
  have hcs : c * s ≤ 65536 * 4096 := Nat.mul_le_mul hn hs
  have q : IntKind.i64.wrap ((c : Int) * (s : Int)) = ((c * s : Nat) : Int) := by rw [IntKind.wrap_i64]; push_cast; omega
  clear h
  go_enter Tryz.func98, Tryz.ntmps98
  go_wp2_with fail
  refine wp_region_quiet_lit (by kernel_rfl) (by kernel_rfl) ?_
  repeat (first | go_big_quiet_step ((go_at_call 99; exact Calls.quiet_of_same (HS.out _))) | quiet_step ((go_at_call 99; exact Calls.quiet_of_same (HS.out _))))
  refine wpQuiet_nil ?_
  intro _ hw'
  obtain ⟨nq, hw''⟩ := hw'
  subst hw''
  go_wp2_with fail
  go_ret
  exact ⟨rfl, _, rfl⟩
set_option maxRecDepth 100000 in
set_option maxHeartbeats 4000000 in
theorem New11_in {w : World} {ra rb m k n s fa fb c : Nat} (ha : RgN w ra m k n s fa c) (hb : RgN w rb m k n s fb c) (h2 : 2 ≤ c) (hn : c ≤ 65536) (hs : s ≤ 4096) : Calls Tryz.prog 40 #[.pointer (some ⟨ra, 0, none⟩), .pointer (some ⟨rb, 0, none⟩)] w fun e w' => ∃ x, e = .returned (.tuple #[.pointer (some ⟨x, 0, none⟩), .int .i64 0]) ∧ Arr w' x 214 #[.pointer (some ⟨ra, 0, none⟩), .pointer (some ⟨rb, 0, none⟩)] ∧ w.heap.size ≤ x ∧ Below w.heap.size w w' := by
  obtain ⟨xs, hxs⟩ : ∃ xs, w.heap.size = xs := ⟨_, rfl⟩
  obtain ⟨w1, hw1⟩ : ∃ w1, w.alloc (.cells #[.pointer (some ⟨ra, 0, none⟩), .pointer (some ⟨rb, 0, none⟩)] 214) = w1 := ⟨_, rfl⟩
  have HA1 := Lib.hid (show Arr w1 xs 214 #[.pointer (some ⟨ra, 0, none⟩), .pointer (some ⟨rb, 0, none⟩)] by rw [← hw1, ← hxs]; exact Arr.fresh w _ _)
  have HB1 := Lib.hid (show Below w.heap.size w w1 by rw [← hw1]; exact ext_alloc (Below.refl _ _) _)
  have h1a := ha.keep HB1.out
  have h1b := hb.keep HB1.out
  have x0 : w1.cell? ⟨ra, 0, none⟩ = some (.pointer (some ⟨m, 0, none⟩)) := h1a.own.cell 0
  have x2 : w1.cell? ⟨ra, 2, none⟩ = some (.int .i64 c) := h1a.own.cell 2
  have y0 : w1.cell? ⟨rb, 0, none⟩ = some (.pointer (some ⟨m, 0, none⟩)) := h1b.own.cell 0
  have HBA := Lib.hid (show ∀ q r, (r = ra ∨ r = rb) → Calls Tryz.prog 98 #[.pointer (some ⟨r, 0, none⟩)] (w1.drewN q) (fun e w' => e = .returned (.int .i64 (c * s : Nat)) ∧ ∃ n, w' = (w1.drewN q).drewN n) from fun q r hr => by
    rcases hr with rfl | rfl
    · exact Byt7_in (h1a.keep (drewN_below w1 q)) hn hs
    · exact Byt7_in (h1b.keep (drewN_below w1 q)) hn hs)
  have HSZ := Lib.hid (fun q => Siz6_in (h1a.dv.keep (drewN_below w1 q)))
  have hc2 : decide ((c : Int) < 2) = false := decide_eq_false (by omega)
  have hc3 : decide (c < 2) = false := decide_eq_false (by omega)
  obtain ⟨B, hB⟩ : ∃ B, c * s = B := ⟨_, rfl⟩
  rw [hB] at HBA
  have e1 : ((B : Int) != (B : Int)) = false := by simp
  have e2 : ((s : Int) != (s : Int)) = false := by simp
  have HX := Lib.hid (show w.heap.size ≤ xs by omega)
  clear ha hb h1a h1b h2 hn hs hB
  go_enter Tryz.func40, Tryz.ntmps40
  go_wp2_with fail
  refine wp_region_quiet_lit (by kernel_rfl) (by kernel_rfl) ?_
  repeat (first | go_big_quiet_step ((first | (go_at_call 99; exact Calls.quiet_of_same (HSZ.out _)) | (go_at_call 98; refine (HBA.out _ _ (by first | exact .inl rfl | exact .inr rfl)).mono ?_; rintro e w3 ⟨rfl, q, rfl⟩; exact ⟨rfl, _, drewN_add _ _ _⟩))) | quiet_step ((first | (go_at_call 99; exact Calls.quiet_of_same (HSZ.out _)) | (go_at_call 98; refine (HBA.out _ _ (by first | exact .inl rfl | exact .inr rfl)).mono ?_; rintro e w3 ⟨rfl, q, rfl⟩; exact ⟨rfl, _, drewN_add _ _ _⟩))))
  refine wpQuiet_nil ?_
  intro _ hw'
  obtain ⟨nq, hw''⟩ := hw'
  subst hw''
  have HF := Lib.hid (show ∃ x, Ending.returned (.tuple #[.pointer (some ⟨xs, 0, none⟩), .int .i64 0]) = .returned (.tuple #[.pointer (some ⟨x, 0, none⟩), .int .i64 0]) ∧ Arr (w1.drewN nq) x 214 #[.pointer (some ⟨ra, 0, none⟩), .pointer (some ⟨rb, 0, none⟩)] ∧ w.heap.size ≤ x ∧ Below w.heap.size w (w1.drewN nq) from ⟨xs, rfl, HA1.out.keep (drewN_below w1 nq), HX.out, ext_trans HB1.out (drewN_below w1 nq)⟩)
  go_wp2_with fail
  go_ret2
  exact HF.out

end Go.Proofs.YtkmpchffflemcaaGreatDoor.Rf
end

/- Small flights, devices; the document's log, book, engine. -/
section
set_option linter.unusedVariables false
set_option linter.unusedSimpArgs false
namespace Go.Proofs.YtkmpchffflemcaaGreatDoor.Rf
open Go.RowKit
open Go.Proofs.YtkmpchffflemcaaGreatDoor.Bk (shape_size)
open Go.Proofs.YtkmpchffflemcaaGreatDoor.En (DvIn Dev dk0 DNew PNew_in)

set_option maxRecDepth 100000 in
set_option maxHeartbeats 1000000 in
theorem Pick_in (x n : Int) (hx : -9223372036854775808 ≤ x ∧ x ≤ 9223372036854775807) (hn : 1 ≤ n ∧ n ≤ 1000000000) (w : World) : Calls Tryz.prog 72 #[.int .i64 x, .int .i64 n] w fun e w' => e = .returned (.int .i64 (x % n)) ∧ w' = w := by
  have h1 : ¬ n < 1 := by omega
  have h0 : ¬ n = 0 := by omega
  have h2 : (n == 0) = false := beq_eq_false_iff_ne.2 h0
  have hr := Int.emod_nonneg x h0
  have hl := Int.emod_lt_of_pos x (by omega : 0 < n)
  have HR := Lib.hid (show x.tmod n = x % n ∨ x.tmod n = x % n - n ∧ x % n ≠ 0 by
    rcases Int.le_total 0 x with h | h
    · exact .inl (Int.tmod_eq_emod_of_nonneg h)
    · by_cases hz : x % n = 0
      · left
        rw [Int.tmod_eq_emod]
        have : n ∣ x := Int.dvd_of_emod_eq_zero hz
        simp [this]
      · right
        refine ⟨?_, hz⟩
        rw [Int.tmod_eq_emod]
        have hnd : ¬ n ∣ x := fun hd => hz (Int.emod_eq_zero_of_dvd hd)
        have hx0 : ¬ 0 ≤ x := fun h5 => by
          have : x = 0 := by omega
          exact hz (by rw [this]; simp)
        have e : (n.natAbs : Int) = n := Int.natAbs_of_nonneg (by omega)
        simp [hnd, hx0, e])
  obtain ⟨r, hre⟩ : ∃ r, x % n = r := ⟨_, rfl⟩
  obtain ⟨t, hte⟩ : ∃ t, x.tmod n = t := ⟨_, rfl⟩
  rw [hre] at hr hl HR ⊢
  rw [hte] at HR
  have HN := Lib.hid hn
  clear hre hx
  by_cases ht : t < 0
  · have HF := Lib.hid (show wrap64 (t + n) = r by have := HR.out; have := HN.out; unfold wrap64; omega)
    go_enter Tryz.func72, Tryz.ntmps72
    go_wp2_with fail
    go_ret
    exact ⟨by rw [HF.out]; rfl, rfl⟩
  · have HF := Lib.hid (show t = r by have := HR.out; have := HN.out; omega)
    go_enter Tryz.func72, Tryz.ntmps72
    go_wp2_with fail
    go_ret
    exact ⟨by rw [HF.out]; rfl, rfl⟩
/-- a small flight's shape, by a number -/
def shN (n : Int) : Nat × Nat × Nat := ((1 + (n % 384) % 12).toNat, (1 + (n % 384) / 12 % 8).toNat, (1 + (n % 384) / 96).toNat)
theorem shN_is (n : Int) : (1 ≤ (shN n).1 ∧ (shN n).1 ≤ 12) ∧ (1 ≤ (shN n).2.1 ∧ (shN n).2.1 ≤ 8) ∧ 1 ≤ (shN n).2.2 ∧ (shN n).2.2 ≤ 4 := by
  unfold shN
  simp only
  omega
set_option maxRecDepth 100000 in
set_option maxHeartbeats 1000000 in
theorem Shape_in (n : Int) (hn : -9223372036854775808 ≤ n ∧ n ≤ 9223372036854775807) (w : World) : Calls Tryz.prog 31 #[.int .i64 n] w fun e w' => e = .returned (.agg #[.int .i64 (shN n).1, .int .i64 (shN n).2.1, .int .i64 (shN n).2.2]) ∧ Below w.heap.size w w' := by
  obtain ⟨xs, hxs⟩ : ∃ xs, w.heap.size = xs := ⟨_, rfl⟩
  obtain ⟨w1, hw1⟩ : ∃ w1, w.alloc (.cells #[.int .i64 0, .int .i64 0, .int .i64 0] 90) = w1 := ⟨_, rfl⟩
  have HA1 := Lib.hid (show Arr w1 xs 90 #[.int .i64 0, .int .i64 0, .int .i64 0] by rw [← hw1, ← hxs]; exact Arr.fresh w _ _)
  have HB1 := Lib.hid (show Below w.heap.size w w1 by rw [← hw1]; exact ext_alloc (Below.refl _ _) _)
  have HX := Lib.hid hxs
  have HP := Lib.hid (Pick_in n 384 hn (by omega))
  obtain ⟨m, hm⟩ : ∃ m : Nat, n % 384 = (m : Int) := ⟨(n % 384).toNat, by omega⟩
  have hm2 : m < 384 := by omega
  have HM := Lib.hid hm
  rw [hm] at HP
  clear hm hn
  go_enter Tryz.func31, Tryz.ntmps31
  go_wp2_with fail
  refine (HP.out w1).mono ?_
  rintro e wq ⟨rfl, hwq⟩
  rw [hwq]
  clear hwq wq
  go_wp2_with (refine wpList_store_blk rfl 90 _ _ rfl xs 90 _ #[.int .i64 (1 + (m : Int) % 12), .int .i64 (1 + (m : Int) / 12 % 8), .int .i64 (1 + (m : Int) / 96)] HA1.out rfl rfl rfl shape_size (by simp [Value.oneCell']) ?_; intro w4 hA4 hg4 hs4; have HA4 := Lib.hid hA4; have HB4 := Lib.hid (show Below w.heap.size w w4 from ext_only HB1.out hg4 (Nat.le_of_eq HX.out)); clear hA4 hg4 hs4)
  exact bodyPost_ret (results_cell Tryz.results31 _ (by rfl) (run_load_blk 90 HA4.out _ Tryz.underlying90 rfl shape_size)) rfl ⟨by
    have h := HM.out
    unfold shN
    simp only [h]
    congr 4 <;> omega, HB4.out⟩
/-- a device of so many sectors, and the document's -/
def DevOut (n s : Nat) (w : World) (e : Ending) (w' : World) : Prop := ∃ p m k S, e = .returned (.tuple #[.pointer (some ⟨p, 0, none⟩), .pointer (some ⟨m, 0, none⟩), .bool true]) ∧ DvIn p ⟨dk0 n s, false, -1, 0⟩ S w' ∧ (∀ j, S j → w.heap.size ≤ j ∧ j < m) ∧ Arr w' m 297 (dv0 k) ∧ DvN w' m k n s ∧ Below w.heap.size w w' ∧ w.heap.size ≤ m
set_option maxRecDepth 100000 in
set_option maxHeartbeats 2000000 in
theorem Device_in (n : Nat) (wide : Bool) (hn : 1 ≤ n ∧ n ≤ 64) (w : World) : Calls Tryz.prog 32 #[.int .i64 n, .bool wide] w (DevOut n (if wide then 128 else 64) w) := by
  have HP := Lib.hid (Pick_in ((n : Int) - 1) 64 (by omega) (by omega))
  rw [show ((n : Int) - 1) % 64 = (n : Int) - 1 by omega] at HP
  have hw0 : IntKind.i64.wrap ((n : Int) - 1) = (n : Int) - 1 := by rw [IntKind.wrap_i64]; omega
  have hw1 : IntKind.i64.wrap (1 + ((n : Int) - 1)) = (n : Int) := by rw [IntKind.wrap_i64]; omega
  have HN := Lib.hid hn
  have main : ∀ s : Nat, (s = 64 ∨ s = 128) → s = (if wide then 128 else 64) → Calls Tryz.prog 32 #[.int .i64 n, .bool wide] w (DevOut n s w) := fun s hs hsw => by
    have HD := Lib.hid (En.New_in n s (by have := HN.out; omega) hs)
    have H5 := Lib.hid (New5_in n s (by have := HN.out; omega) hs)
    have HSW := Lib.hid (show (wide = true ∧ s = 128) ∨ (wide = false ∧ s = 64) by cases wide <;> simp_all)
    clear hn hs hsw
    rcases HSW.out with ⟨rfl, rfl⟩ | ⟨rfl, rfl⟩
    all_goals
      go_enter Tryz.func32, Tryz.ntmps32
      go_wp2_with fail
      refine (HP.out w).mono ?_
      rintro e wq ⟨rfl, hwq⟩
      rw [hwq]
      clear hwq wq
      go_wp2_with fail
      refine (HD.out w).mono ?_
      rintro e w1 ⟨kp, S0, rfl, hK, hS0, hb1⟩
      have HK := Lib.hid hK; have HS0 := Lib.hid hS0; have HB1 := Lib.hid hb1
      clear hK hS0 hb1 HD
      go_wp2_with fail
      refine (PNew_in HK.out).mono ?_
      rintro e w2 ⟨p, rfl, hD, hp, hb2⟩
      have HDV := Lib.hid hD; have HB2 := Lib.hid (ext_trans HB1.out hb2)
      clear hD hp hb2
      go_wp2_with fail
      refine (H5.out w2).mono ?_
      rintro e w3 ⟨k, v, ad, cp, rfl, h5⟩
      have H5D := Lib.hid (h5.dkn HN.out.1); have HB3 := Lib.hid h5.below; have HKB := Lib.hid h5.news
      clear h5 H5
      go_wp2_with fail
      refine (New6_in H5D.out).mono ?_
      rintro e w4 ⟨m, rfl, h6, hm, hb4⟩
      have HF := Lib.hid (show DevOut n _ w (.returned (.tuple #[.pointer (some ⟨p, 0, none⟩), .pointer (some ⟨m, 0, none⟩), .bool true])) w4 from ⟨p, m, k, _, rfl, (En.DvIn_loc p _).below HDV.out (ext_trans HB3.out hb4), fun j hj => by
        have hjl := (En.DvIn_loc p _).lt HDV.out j hj
        have hz := HB3.out.size
        refine ⟨?_, by omega⟩
        rcases hj with hj | hj
        · exact HS0.out j hj
        · have := HB1.out.size; omega, h6, ⟨⟨_, _, _, h6⟩, H5D.out.keep hb4⟩, ext_trans (ext_trans HB2.out HB3.out) hb4, by have := (ext_trans HB2.out HB3.out).size; omega⟩)
      clear h6 hm hb4
      go_wp2_with fail
      go_ret3
      exact HF.out
  cases wide
  · exact main 64 (.inl rfl) rfl
  · exact main 128 (.inr rfl) rfl

end Go.Proofs.YtkmpchffflemcaaGreatDoor.Rf
end

/- The document's log, book, engine: how they are made. -/
section
set_option linter.unusedVariables false
set_option linter.unusedSimpArgs false
namespace Go.Proofs.YtkmpchffflemcaaGreatDoor.Rf
open Go.RowKit
open Go.Proofs.YtkmpchffflemcaaGreatDoor.Bk (shape_size)

set_option maxRecDepth 100000 in
set_option maxHeartbeats 1000000 in
theorem New10_in (r : Nat) (ep sq : Int) (w : World) : Calls Tryz.prog 43 #[.pointer (some ⟨r, 0, none⟩), .int .u64 ep, .int .u64 sq] w fun e w' => ∃ x, e = .returned (.pointer (some ⟨x, 0, none⟩)) ∧ Arr w' x 221 #[.pointer (some ⟨r, 0, none⟩), .int .u64 ep, .int .u64 sq, .slice none 0 0, .int .i64 0] ∧ w.heap.size ≤ x ∧ Below w.heap.size w w' := by
  have HF := Lib.hid (show ∃ x, Ending.returned (.pointer (some ⟨w.heap.size, 0, none⟩)) = .returned (.pointer (some ⟨x, 0, none⟩)) ∧ Arr (w.alloc (.cells #[.pointer (some ⟨r, 0, none⟩), .int .u64 ep, .int .u64 sq, .slice none 0 0, .int .i64 0] 221)) x 221 #[.pointer (some ⟨r, 0, none⟩), .int .u64 ep, .int .u64 sq, .slice none 0 0, .int .i64 0] ∧ w.heap.size ≤ x ∧ Below w.heap.size w (w.alloc (.cells #[.pointer (some ⟨r, 0, none⟩), .int .u64 ep, .int .u64 sq, .slice none 0 0, .int .i64 0] 221)) from ⟨_, rfl, Arr.fresh w _ _, Nat.le_refl _, ext_alloc (Below.refl _ _) _⟩)
  go_enter Tryz.func43, Tryz.ntmps43
  go_wp2_with fail
  go_ret
  exact HF.out
set_option maxRecDepth 100000 in
set_option maxHeartbeats 1000000 in
theorem Make23_in (l s b : Nat) (w : World) : Calls Tryz.prog 42 #[.pointer (some ⟨l, 0, none⟩), .pointer (some ⟨s, 0, none⟩), .pointer (some ⟨b, 0, none⟩)] w fun e w' => ∃ x, e = .returned (.pointer (some ⟨x, 0, none⟩)) ∧ Arr w' x 218 #[.bool true, .pointer (some ⟨l, 0, none⟩), .pointer (some ⟨s, 0, none⟩), .pointer (some ⟨b, 0, none⟩), .slice none 0 0] ∧ w.heap.size ≤ x ∧ Below w.heap.size w w' := by
  have HF := Lib.hid (show ∃ x, Ending.returned (.pointer (some ⟨w.heap.size, 0, none⟩)) = .returned (.pointer (some ⟨x, 0, none⟩)) ∧ Arr (w.alloc (.cells #[.bool true, .pointer (some ⟨l, 0, none⟩), .pointer (some ⟨s, 0, none⟩), .pointer (some ⟨b, 0, none⟩), .slice none 0 0] 218)) x 218 #[.bool true, .pointer (some ⟨l, 0, none⟩), .pointer (some ⟨s, 0, none⟩), .pointer (some ⟨b, 0, none⟩), .slice none 0 0] ∧ w.heap.size ≤ x ∧ Below w.heap.size w (w.alloc (.cells #[.bool true, .pointer (some ⟨l, 0, none⟩), .pointer (some ⟨s, 0, none⟩), .pointer (some ⟨b, 0, none⟩), .slice none 0 0] 218)) from ⟨_, rfl, Arr.fresh w _ _, Nat.le_refl _, ext_alloc (Below.refl _ _) _⟩)
  go_enter Tryz.func42, Tryz.ntmps42
  go_wp2_with fail
  go_ret
  exact HF.out
set_option maxRecDepth 100000 in
set_option maxHeartbeats 1000000 in
theorem Check9_in (a b c : Nat) (h : (1 ≤ a ∧ a ≤ 1024) ∧ (1 ≤ b ∧ b ≤ 4096) ∧ 1 ≤ c ∧ c ≤ 64) (w : World) : Calls Tryz.prog 100 #[.agg #[.int .i64 a, .int .i64 b, .int .i64 c]] w fun e w' => e = .returned (.int .i64 0) ∧ Below w.heap.size w w' := by
  have h1 : decide ((a : Int) < 1) = false := decide_eq_false (by omega)
  have h2 : decide ((1024 : Int) < a) = false := decide_eq_false (by omega)
  have h3 : decide ((b : Int) < 1) = false := decide_eq_false (by omega)
  have h4 : decide ((4096 : Int) < b) = false := decide_eq_false (by omega)
  have h5 : decide ((c : Int) < 1) = false := decide_eq_false (by omega)
  have h6 : decide ((64 : Int) < c) = false := decide_eq_false (by omega)
  go_enter Tryz.func100, Tryz.ntmps100
  go_wp2_with fail
  go_ret
  exact ⟨rfl, ext_alloc (Below.refl _ _) _⟩
set_option maxRecDepth 100000 in
set_option maxHeartbeats 1000000 in
theorem New17_in (a b c : Nat) (h : (1 ≤ a ∧ a ≤ 1024) ∧ (1 ≤ b ∧ b ≤ 4096) ∧ 1 ≤ c ∧ c ≤ 64) (w : World) : Calls Tryz.prog 41 #[.agg #[.int .i64 a, .int .i64 b, .int .i64 c]] w fun e w' => ∃ x, e = .returned (.tuple #[.pointer (some ⟨x, 0, none⟩), .int .i64 0]) ∧ Arr w' x 216 #[.bool true, .int .i64 a, .int .i64 b, .int .i64 c, .slice none 0 0, .int .u32 1, .int .i64 0] ∧ w.heap.size ≤ x ∧ Below w.heap.size w w' := by
  obtain ⟨xs, hxs⟩ : ∃ xs, w.heap.size = xs := ⟨_, rfl⟩
  obtain ⟨w1, hw1⟩ : ∃ w1, w.alloc (.cells #[.int .i64 a, .int .i64 b, .int .i64 c] 90) = w1 := ⟨_, rfl⟩
  have HA1 := Lib.hid (show Arr w1 xs 90 #[.int .i64 a, .int .i64 b, .int .i64 c] by rw [← hw1, ← hxs]; exact Arr.fresh w _ _)
  have HB1 := Lib.hid (show Below w.heap.size w w1 by rw [← hw1]; exact ext_alloc (Below.refl _ _) _)
  have HC := Lib.hid (Check9_in a b c h)
  clear h
  go_enter Tryz.func41, Tryz.ntmps41
  go_wp2_with (refine wpList_load_blk rfl 90 _ rfl xs 90 _ HA1.out rfl _ Tryz.underlying90 rfl shape_size ?_)
  refine (HC.out w1).mono ?_
  rintro e w2 ⟨rfl, hb2⟩
  have HA2 := Lib.hid (HA1.out.keep hb2); have HB2 := Lib.hid (ext_trans HB1.out hb2)
  clear hb2
  have HF := Lib.hid (show ∃ x, Ending.returned (.tuple #[.pointer (some ⟨w2.heap.size, 0, none⟩), .int .i64 0]) = .returned (.tuple #[.pointer (some ⟨x, 0, none⟩), .int .i64 0]) ∧ Arr (w2.alloc (.cells #[.bool true, .int .i64 a, .int .i64 b, .int .i64 c, .slice none 0 0, .int .u32 1, .int .i64 0] 216)) x 216 #[.bool true, .int .i64 a, .int .i64 b, .int .i64 c, .slice none 0 0, .int .u32 1, .int .i64 0] ∧ w.heap.size ≤ x ∧ Below w.heap.size w (w2.alloc (.cells #[.bool true, .int .i64 a, .int .i64 b, .int .i64 c, .slice none 0 0, .int .u32 1, .int .i64 0] 216)) from ⟨_, rfl, Arr.fresh w2 _ _, HB2.out.size, ext_alloc HB2.out _⟩)
  go_wp2_with (refine wpList_load_blk rfl 90 _ rfl xs 90 _ HA2.out rfl _ Tryz.underlying90 rfl shape_size ?_)
  go_ret2
  exact HF.out

end Go.Proofs.YtkmpchffflemcaaGreatDoor.Rf
end

/- Law 31's desk: made. -/
section
set_option linter.unusedVariables false
set_option linter.unusedSimpArgs false
namespace Go.Proofs.YtkmpchffflemcaaGreatDoor.Rf
open Go.RowKit
open Go.Proofs.YtkmpchffflemcaaGreatDoor.Bk (shape_size BookAt Comp Parts)
open Go.Proofs.YtkmpchffflemcaaGreatDoor.En (DvIn Dev dk0 RnOut RNew_in SNew_in LNew_in LgIn SlAt Rg Lg Sl RgAt DvIn_loc)
open Go.Proofs.YtkmpchffflemcaaGreatDoor.Eg (EnArr MapL doesL Make_in)

theorem layout_size : (Tryz.prog.info? 97).map (·.size) = some 7 := by kernel_rfl
theorem span_size : (Tryz.prog.info? 95).map (·.size) = some 2 := by kernel_rfl
/-- a small flight's slots: how many sectors -/
theorem small_slot {a b : Nat} (ha : 1 ≤ a ∧ a ≤ 12) (hb : 1 ≤ b ∧ b ≤ 8) : ∃ k : Nat, Geo.slot a b 64 = (k : Int) ∧ 2 ≤ k ∧ k ≤ 4 ∧ Geo.need a b 64 ≤ 40 := by
  unfold Geo.slot Geo.need Geo.slot Geo.image Geo.up
  have : min (a : Int) (b : Int) = ((min a b : Nat) : Int) := by omega
  refine ⟨(1 + (20 + 14 * min (a : Int) b + 64 - 1) / 64).toNat, ?_, ?_, ?_, ?_⟩ <;> omega
theorem part_two {cs : Array Value} {k : Nat} {u v : Value} (h1 : cs[k]? = some u) (h2 : cs[k + 1]? = some v) : ∀ (j : Nat) (x : Value), [u, v][j]? = some x → cs[k + j]? = some x := fun j x hx => by
  match j, hx with
  | 0, hx => injection hx with hx; subst hx; exact h1
  | 1, hx => injection hx with hx; subst hx; exact h2
  | j + 2, hx => simp at hx
theorem dk_len : (⟨dk0 40 64, false, -1, 0⟩ : Dev).dk.dur.length = 40 := List.length_replicate
/-- where a desk's parts lie -/
structure DeskP where
  x : Nat
  p : Nat
  ee : Nat
  m : Nat
  q : Nat
  kd : Nat
  ra : Nat
  rb : Nat
  rl : Nat
  lq : Nat
  sl : Nat
  bk : Nat
  mb : Nat
  k : Nat
  S : Nat → Prop
  T : Nat → Prop
  qq : Parts
/-- a desk that was just made -/
structure DeskNew (w w' : World) (n : Int) (D : DeskP) : Prop where
  own : Arr w' D.x 53 #[.pointer (some ⟨D.p, 0, none⟩), .pointer (some ⟨D.ee, 0, none⟩), .pointer (some ⟨D.m, 0, none⟩), .pointer (some ⟨D.q, 0, none⟩)]
  dev : DvIn D.p ⟨dk0 40 64, false, -1, 0⟩ D.S w'
  eng : EnArr w' D.ee true (some ⟨D.lq, 0, none⟩) (some ⟨D.sl, 0, none⟩) (some ⟨D.bk, 0, none⟩) (.slice none 0 0) (.map (some D.mb))
  does : MapL w' D.mb (doesL D.ee)
  book : BookAt D.T w' D.bk (shN n).1 (shN n).2.1 (shN n).2.2 1 0 [] D.qq
  log : LgIn D.lq D.rl D.p ⟨0, 0, [], 0⟩ ⟨2 * D.k, 40 - 2 * D.k⟩ 64 (fun k => k = D.lq ∨ k = D.rl) w'
  slots : SlAt w' D.sl D.ra D.rb D.p ⟨⟨0, D.k⟩, ⟨D.k, D.k⟩⟩ 64
  ks : 2 ≤ D.k ∧ D.k ≤ 4
  rdev : DvN w' D.m D.kd 40 64
  below : Below w.heap.size w w'
  news : (∀ k, D.S k → w.heap.size ≤ k ∧ k < D.m) ∧ (∀ k, D.T k → D.ra < k) ∧ w.heap.size ≤ D.m ∧ D.m < D.ra ∧ D.ra < D.rb ∧ D.rb < D.rl ∧ D.rl < D.sl ∧ D.sl < D.lq ∧ (∀ k, D.T k → D.lq < k ∧ k < D.ee) ∧ D.lq < D.ee ∧ D.lq < D.mb ∧ D.ee < D.q ∧ D.q < D.x
def MdOut (n : Int) (w : World) (en : Ending) (w' : World) : Prop := ∃ D, en = .returned (.tuple #[.pointer (some ⟨D.x, 0, none⟩), .bool true]) ∧ DeskNew w w' n D
set_option maxRecDepth 100000 in
set_option maxHeartbeats 4000000 in
theorem made31_in (n : Int) (hn : -9223372036854775808 ≤ n ∧ n ≤ 9223372036854775807) (w : World) : Calls Tryz.prog 19 #[.int .i64 n] w (MdOut n w) := by
  obtain ⟨hsa, hsb, hsc⟩ := shN_is n
  obtain ⟨a, ha⟩ : ∃ a, (shN n).1 = a := ⟨_, rfl⟩
  obtain ⟨b, hb⟩ : ∃ b, (shN n).2.1 = b := ⟨_, rfl⟩
  obtain ⟨c, hc⟩ : ∃ c, (shN n).2.2 = c := ⟨_, rfl⟩
  have HS := Lib.hid (Shape_in n hn)
  rw [ha, hb, hc] at HS
  rw [ha] at hsa; rw [hb] at hsb; rw [hc] at hsc
  have HABC := Lib.hid (show (shN n).1 = a ∧ (shN n).2.1 = b ∧ (shN n).2.2 = c from ⟨ha, hb, hc⟩)
  obtain ⟨k, hk, hk2, hk4, hneed⟩ := small_slot hsa hsb
  have HOK := Lib.hid (show Geo.okS a b c = true by unfold Geo.okS; exact decide_eq_true (by omega))
  have HPL := Lib.hid (fun W => Geo.Plan_ok 40 64 a b c W HOK.out (by decide) hneed)
  rw [hk] at HPL
  have HDV := Lib.hid (Device_in 40 false (by omega))
  simp only [Bool.false_eq_true, if_false] at HDV
  have HNW := Lib.hid (fun W => Bk.New_yes a b c W HOK.out)
  have HK := Lib.hid (show 2 ≤ k ∧ k ≤ 4 from ⟨hk2, hk4⟩)
  have HAB := Lib.hid (show ((1 ≤ a ∧ a ≤ 1024) ∧ (1 ≤ b ∧ b ≤ 4096) ∧ 1 ≤ c ∧ c ≤ 64) from by omega)
  have HR17 := Lib.hid (New17_in a b c HAB.out)
  clear ha hb hc hsa hsb hsc hk hneed hn hk2 hk4
  go_enter Tryz.func19, Tryz.ntmps19
  go_wp2_with fail
  refine (HS.out w).mono ?_
  rintro e w1 ⟨rfl, hb1⟩
  have HB1 := Lib.hid hb1
  clear hb1 HS
  obtain ⟨xs, hxs⟩ : ∃ xs, w1.heap.size = xs := ⟨_, rfl⟩
  obtain ⟨w2, hw2⟩ : ∃ w2, w1.alloc (.cells #[.int .i64 0, .int .i64 0, .int .i64 0] 90) = w2 := ⟨_, rfl⟩
  have HA2 := Lib.hid (show Arr w2 xs 90 #[.int .i64 0, .int .i64 0, .int .i64 0] by rw [← hw2, ← hxs]; exact Arr.fresh w1 _ _)
  have HB2 := Lib.hid (show Below w1.heap.size w1 w2 by rw [← hw2]; exact ext_alloc (Below.refl _ _) _)
  have HXS := Lib.hid hxs
  go_wp2_with (refine wpList_store_blk rfl 90 _ _ rfl xs 90 _ #[.int .i64 a, .int .i64 b, .int .i64 c] HA2.out rfl rfl rfl shape_size (by simp [Value.oneCell']) ?_; intro w3 hA3 hg3 hs3; have HA3 := Lib.hid hA3; have HB3 := Lib.hid (ext_trans HB1.out (show Below w1.heap.size w1 w3 from ext_only HB2.out hg3 (Nat.le_of_eq HXS.out))); clear hA3 hg3 hs3)
  clear hxs hw2 HA2 HB2
  refine (HDV.out w3).mono ?_
  rintro e w4 ⟨p, m, kd, S, rfl, h1, h2, h3, h4, hb4, hm4⟩
  have HD4 := Lib.hid h1; have HS4 := Lib.hid h2; have HM4 := Lib.hid h4; have HB4 := Lib.hid (ext_trans HB3.out hb4); have HA4 := Lib.hid (HA3.out.keep hb4)
  have HMA4 := Lib.hid (show m < w4.heap.size ∧ w3.heap.size ≤ m from ⟨h3.lt, hm4⟩)
  clear h1 h2 h3 h4 hb4 hm4 HDV HA3
  go_wp2_with (refine wpList_load_blk rfl 90 _ rfl xs 90 _ HA4.out rfl _ Tryz.underlying90 rfl shape_size ?_)
  refine (HPL.out w4).mono ?_
  rintro e w5 ⟨rfl, hb5⟩
  have HD5 := Lib.hid ((DvIn_loc p _).below HD4.out hb5); have HM5 := Lib.hid (HM4.out.keep hb5); have HB5 := Lib.hid (ext_trans HB4.out hb5); have HA5 := Lib.hid (HA4.out.keep hb5)
  have HZ5 := Lib.hid hb5.size
  clear hb5 HPL HD4 HM4 HA4
  obtain ⟨xl, hxl⟩ : ∃ xl, w5.heap.size = xl := ⟨_, rfl⟩
  obtain ⟨w6, hw6⟩ : ∃ w6, w5.alloc (.cells #[.int .i64 0, .int .i64 0, .int .i64 0, .int .i64 0, .int .i64 0, .int .i64 0, .int .i64 0] 97) = w6 := ⟨_, rfl⟩
  have HA6 := Lib.hid (show Arr w6 xl 97 #[.int .i64 0, .int .i64 0, .int .i64 0, .int .i64 0, .int .i64 0, .int .i64 0, .int .i64 0] by rw [← hw6, ← hxl]; exact Arr.fresh w5 _ _)
  have HB6 := Lib.hid (show Below w5.heap.size w5 w6 by rw [← hw6]; exact ext_alloc (Below.refl _ _) _)
  have HXL := Lib.hid hxl
  go_wp2_with (first | (refine wpList_load_part rfl 95 _ rfl xl 1 97 _ [.int .i64 0, .int .i64 k] HL7.out rfl (part_two rfl rfl) _ Tryz.underlying95 rfl span_size ?_) | (refine wpList_store_blk rfl 97 _ _ rfl xl 97 _ #[.int .i64 64, .int .i64 0, .int .i64 k, .int .i64 k, .int .i64 k, .int .i64 (2 * (k : Int)), .int .i64 (40 - 2 * (k : Int))] HA6.out rfl rfl rfl layout_size (by simp [Value.oneCell']) ?_; intro w7 hA7 hg7 hs7; have HL7 := Lib.hid hA7; have hb7 := (show Below w5.heap.size w5 w7 from ext_only HB6.out hg7 (Nat.le_of_eq HXL.out)); have HD7 := Lib.hid ((DvIn_loc p _).below HD5.out hb7); have HM7 := Lib.hid (HM5.out.keep hb7); have HB7 := Lib.hid (ext_trans HB5.out hb7); have HA7 := Lib.hid (HA5.out.keep hb7); have HZ7 := Lib.hid hb7.size; clear hA7 hg7 hs7 hb7))
  clear hxl hw6 HA6 HB6
  have HN5 := Lib.hid HK.out
  have hrn : Calls Tryz.prog 34 #[.pointer (some ⟨p, 0, none⟩), .agg #[.int .i64 (0), .int .i64 ((k : Int))]] w7 (RnOut p ⟨0, k⟩ 64 w7) := by
    have hk9 := HK.out
    have h9 := RNew_in (g := ⟨0, k⟩) HD7.out (by show 1 ≤ k; omega) (by rw [dk_len]; show 0 + (k) ≤ 40; omega)
    exact h9
  refine hrn.mono ?_
  rintro e w8 ⟨ra, rfl, hr8, hrg8, hb8⟩
  clear hrn
  have HD8 := Lib.hid ((DvIn_loc p _).below HD7.out hb8); have HM8 := Lib.hid (HM7.out.keep hb8); have HB8 := Lib.hid (ext_trans HB7.out hb8); have HA8 := Lib.hid (HA7.out.keep hb8); have HL8 := Lib.hid (HL7.out.keep hb8)
  have HRG0_8 := Lib.hid hrg8; have HQ8 := Lib.hid (show w7.heap.size ≤ ra ∧ ra < w8.heap.size from ⟨hr8, hrg8.own.lt⟩)
  clear hr8 hrg8 hb8 HD7 HM7 HB7 HA7 HL7
  go_wp2_with (refine wpList_load_part rfl 95 _ rfl xl 3 97 _ [.int .i64 k, .int .i64 k] HL8.out rfl (part_two rfl rfl) _ Tryz.underlying95 rfl span_size ?_)
  have hrn : Calls Tryz.prog 34 #[.pointer (some ⟨p, 0, none⟩), .agg #[.int .i64 ((k : Int)), .int .i64 ((k : Int))]] w8 (RnOut p ⟨k, k⟩ 64 w8) := by
    have hk9 := HK.out
    have h9 := RNew_in (g := ⟨k, k⟩) HD8.out (by show 1 ≤ k; omega) (by rw [dk_len]; show k + (k) ≤ 40; omega)
    exact h9
  refine hrn.mono ?_
  rintro e w9 ⟨rb, rfl, hr9, hrg9, hb9⟩
  clear hrn
  have HD9 := Lib.hid ((DvIn_loc p _).below HD8.out hb9); have HM9 := Lib.hid (HM8.out.keep hb9); have HB9 := Lib.hid (ext_trans HB8.out hb9); have HA9 := Lib.hid (HA8.out.keep hb9); have HL9 := Lib.hid (HL8.out.keep hb9)
  have HRG0_9 := Lib.hid (HRG0_8.out.keep hb9)
  have HRG1_9 := Lib.hid hrg9; have HQ9 := Lib.hid (show w8.heap.size ≤ rb ∧ rb < w9.heap.size from ⟨hr9, hrg9.own.lt⟩)
  clear hr9 hrg9 hb9 HD8 HM8 HB8 HA8 HL8 HRG0_8
  go_wp2_with (refine wpList_load_part rfl 95 _ rfl xl 5 97 _ [.int .i64 (2 * (k : Int)), .int .i64 (40 - 2 * (k : Int))] HL9.out rfl (part_two rfl rfl) _ Tryz.underlying95 rfl span_size ?_)
  have hrn : Calls Tryz.prog 34 #[.pointer (some ⟨p, 0, none⟩), .agg #[.int .i64 (2 * (k : Int)), .int .i64 (40 - 2 * (k : Int))]] w9 (RnOut p ⟨2 * k, 40 - 2 * k⟩ 64 w9) := by
    have hk9 := HK.out
    have h9 := RNew_in (g := ⟨2 * k, 40 - 2 * k⟩) HD9.out (by show 1 ≤ 40 - 2 * k; omega) (by rw [dk_len]; show 2 * k + (40 - 2 * k) ≤ 40; omega)
    rw [show 2 * (k : Int) = ((2 * k : Nat) : Int) by omega, show 40 - ((2 * k : Nat) : Int) = ((40 - 2 * k : Nat) : Int) by omega]
    exact h9
  refine hrn.mono ?_
  rintro e w10 ⟨rl, rfl, hr10, hrg10, hb10⟩
  clear hrn
  have HD10 := Lib.hid ((DvIn_loc p _).below HD9.out hb10); have HM10 := Lib.hid (HM9.out.keep hb10); have HB10 := Lib.hid (ext_trans HB9.out hb10); have HA10 := Lib.hid (HA9.out.keep hb10); have HL10 := Lib.hid (HL9.out.keep hb10)
  have HRG0_10 := Lib.hid (HRG0_9.out.keep hb10)
  have HRG1_10 := Lib.hid (HRG1_9.out.keep hb10)
  have HRG2_10 := Lib.hid hrg10; have HQ10 := Lib.hid (show w9.heap.size ≤ rl ∧ rl < w10.heap.size from ⟨hr10, hrg10.own.lt⟩)
  clear hr10 hrg10 hb10 HD9 HM9 HB9 HA9 HL9 HRG0_9 HRG1_9
  go_wp2_with fail
  have hsn := SNew_in (sl := ⟨⟨0, k⟩, ⟨k, k⟩⟩) HRG0_10.out HRG1_10.out rfl HK.out.1
  refine hsn.mono ?_
  rintro e w11 ⟨sl, rfl, hs11, hsl11, hb11⟩
  clear hsn
  have HD11 := Lib.hid ((DvIn_loc p _).below HD10.out hb11); have HM11 := Lib.hid (HM10.out.keep hb11); have HB11 := Lib.hid (ext_trans HB10.out hb11); have HA11 := Lib.hid (HA10.out.keep hb11); have HL11 := Lib.hid (HL10.out.keep hb11)
  have HRG2_11 := Lib.hid (HRG2_10.out.keep hb11); have HSL11 := Lib.hid hsl11; have HQ11 := Lib.hid (show w10.heap.size ≤ sl ∧ sl < w11.heap.size from ⟨hs11, hsl11.own.lt⟩)
  clear hs11 hsl11 hb11 HD10 HM10 HB10 HA10 HL10 HRG0_10 HRG1_10 HRG2_10
  go_wp2_with fail
  have hln := LNew_in HRG2_11.out 0 0 (by omega) (by omega)
  refine hln.mono ?_
  rintro e w12 ⟨lq, rfl, hl12, hlg12, hb12⟩
  clear hln
  have HD12 := Lib.hid ((DvIn_loc p _).below HD11.out hb12); have HM12 := Lib.hid (HM11.out.keep hb12); have HB12 := Lib.hid (ext_trans HB11.out hb12); have HA12 := Lib.hid (HA11.out.keep hb12); have HL12 := Lib.hid (HL11.out.keep hb12)
  have HSL12 := Lib.hid (HSL11.out.keep hb12); have HLG12 := Lib.hid hlg12; have HQ12 := Lib.hid (show w11.heap.size ≤ lq ∧ lq < w12.heap.size from ⟨hl12, by obtain ⟨lv, hlv⟩ := hlg12; exact hlv.own.lt⟩)
  clear hl12 hlg12 hb12 HD11 HM11 HB11 HA11 HL11 HSL11 HRG2_11
  go_wp2_with (refine wpList_load_blk rfl 90 _ rfl xs 90 _ HA12.out rfl _ Tryz.underlying90 rfl shape_size ?_)
  refine (HNW.out w12).mono ?_
  rintro e w13 ⟨bk, T, qq, rfl, hbk13, hT13, hb13⟩
  have HTL := Lib.hid hbk13.comp.lt
  have HD13 := Lib.hid ((DvIn_loc p _).below HD12.out hb13); have HM13 := Lib.hid (HM12.out.keep hb13); have HB13 := Lib.hid (ext_trans HB12.out hb13); have HA13 := Lib.hid (HA12.out.keep hb13); have HL13 := Lib.hid (HL12.out.keep hb13)
  have HSL13 := Lib.hid (HSL12.out.keep hb13); have HLG13 := Lib.hid ((En.LgIn_loc _ _ _ _ _ _).below HLG12.out hb13); have HBK13 := Lib.hid hbk13; have HT13 := Lib.hid hT13; have HZ13 := Lib.hid hb13.size
  clear hbk13 hT13 hb13 HD12 HM12 HB12 HA12 HL12 HSL12 HLG12
  go_wp2_with fail
  obtain ⟨lv, hlv⟩ := HLG13.out
  refine (Make_in hlv HSL13.out HBK13.out.comp ⟨HAB.out.1.1, HAB.out.1.2⟩).mono ?_
  rintro e w14 ⟨ee, mb, rfl, hE, hM, hee, hmb, hb14⟩
  clear hlv
  have HE14 := Lib.hid (show Arr w14 ee _ _ from hE); have HMP14 := Lib.hid hM; have HZE := Lib.hid (show w13.heap.size ≤ ee ∧ w13.heap.size ≤ mb ∧ ee < w14.heap.size from ⟨hee, hmb, Arr.lt hE⟩)
  clear hE hM hee hmb
  have HD14 := Lib.hid ((DvIn_loc p _).below HD13.out hb14); have HM14 := Lib.hid (HM13.out.keep hb14); have HB14 := Lib.hid (ext_trans HB13.out hb14); have HA14 := Lib.hid (HA13.out.keep hb14); have HL14 := Lib.hid (HL13.out.keep hb14); have HSL14 := Lib.hid (HSL13.out.keep hb14); have HLG14 := Lib.hid ((En.LgIn_loc _ _ _ _ _ _).below HLG13.out hb14); have HBK14 := Lib.hid (HBK13.out.below hb14); have HZ14 := Lib.hid hb14.size
  clear HD13 HM13 HB13 HA13 HL13 HSL13 HLG13 HBK13 hb14
  go_wp2_with (refine wpList_load_part rfl 95 _ rfl xl 1 97 _ [.int .i64 0, .int .i64 k] HL14.out rfl (part_two rfl rfl) _ Tryz.underlying95 rfl span_size ?_)
  have hrn : Calls Tryz.prog 39 #[.pointer (some ⟨m, 0, none⟩), .agg #[.int .i64 (0), .int .i64 ((k : Int))]] w14 (fun e w' => ∃ r, e = .returned (.tuple #[.pointer (some ⟨r, 0, none⟩), .int .i64 0]) ∧ RgN w' r m kd 40 64 (0) (k) ∧ w14.heap.size ≤ r ∧ Below w14.heap.size w14 w') := by
    have hk9 := HK.out
    have h9 := New7_in (f := 0) (c := k) HM14.out (by omega) (by omega) (by omega)
    exact h9
  refine hrn.mono ?_
  rintro e w15 ⟨qa, rfl, hq, hqz, hb15⟩
  clear hrn hqz
  have HRQ0_15 := Lib.hid hq
  clear hq
  have HD15 := Lib.hid ((DvIn_loc p _).below HD14.out hb15); have HM15 := Lib.hid (HM14.out.keep hb15); have HB15 := Lib.hid (ext_trans HB14.out hb15); have HA15 := Lib.hid (HA14.out.keep hb15); have HL15 := Lib.hid (HL14.out.keep hb15); have HSL15 := Lib.hid (HSL14.out.keep hb15); have HLG15 := Lib.hid ((En.LgIn_loc _ _ _ _ _ _).below HLG14.out hb15); have HBK15 := Lib.hid (HBK14.out.below hb15); have HZ15 := Lib.hid hb15.size
  have HE15 := Lib.hid (HE14.out.keep hb15)
  have HMP15 := Lib.hid (HMP14.out.keep hb15)
  clear HD14 HM14 HB14 HA14 HL14 HSL14 HLG14 HBK14 HE14 HMP14 hb15
  go_wp2_with (refine wpList_load_part rfl 95 _ rfl xl 3 97 _ [.int .i64 k, .int .i64 k] HL15.out rfl (part_two rfl rfl) _ Tryz.underlying95 rfl span_size ?_)
  have hrn : Calls Tryz.prog 39 #[.pointer (some ⟨m, 0, none⟩), .agg #[.int .i64 ((k : Int)), .int .i64 ((k : Int))]] w15 (fun e w' => ∃ r, e = .returned (.tuple #[.pointer (some ⟨r, 0, none⟩), .int .i64 0]) ∧ RgN w' r m kd 40 64 (k) (k) ∧ w15.heap.size ≤ r ∧ Below w15.heap.size w15 w') := by
    have hk9 := HK.out
    have h9 := New7_in (f := k) (c := k) HM15.out (by omega) (by omega) (by omega)
    exact h9
  refine hrn.mono ?_
  rintro e w16 ⟨qb, rfl, hq, hqz, hb16⟩
  clear hrn hqz
  have HRQ1_16 := Lib.hid hq
  clear hq
  have HRQ0_16 := Lib.hid (HRQ0_15.out.keep hb16)
  clear HRQ0_15
  have HD16 := Lib.hid ((DvIn_loc p _).below HD15.out hb16); have HM16 := Lib.hid (HM15.out.keep hb16); have HB16 := Lib.hid (ext_trans HB15.out hb16); have HA16 := Lib.hid (HA15.out.keep hb16); have HL16 := Lib.hid (HL15.out.keep hb16); have HSL16 := Lib.hid (HSL15.out.keep hb16); have HLG16 := Lib.hid ((En.LgIn_loc _ _ _ _ _ _).below HLG15.out hb16); have HBK16 := Lib.hid (HBK15.out.below hb16); have HZ16 := Lib.hid hb16.size
  have HE16 := Lib.hid (HE15.out.keep hb16)
  have HMP16 := Lib.hid (HMP15.out.keep hb16)
  clear HD15 HM15 HB15 HA15 HL15 HSL15 HLG15 HBK15 HE15 HMP15 hb16
  go_wp2_with (refine wpList_load_part rfl 95 _ rfl xl 5 97 _ [.int .i64 (2 * (k : Int)), .int .i64 (40 - 2 * (k : Int))] HL16.out rfl (part_two rfl rfl) _ Tryz.underlying95 rfl span_size ?_)
  have hrn : Calls Tryz.prog 39 #[.pointer (some ⟨m, 0, none⟩), .agg #[.int .i64 (2 * (k : Int)), .int .i64 (40 - 2 * (k : Int))]] w16 (fun e w' => ∃ r, e = .returned (.tuple #[.pointer (some ⟨r, 0, none⟩), .int .i64 0]) ∧ RgN w' r m kd 40 64 (2 * k) (40 - 2 * k) ∧ w16.heap.size ≤ r ∧ Below w16.heap.size w16 w') := by
    have hk9 := HK.out
    have h9 := New7_in (f := 2 * k) (c := 40 - 2 * k) HM16.out (by omega) (by omega) (by omega)
    rw [show 2 * (k : Int) = ((2 * k : Nat) : Int) by omega, show 40 - ((2 * k : Nat) : Int) = ((40 - 2 * k : Nat) : Int) by omega]
    exact h9
  refine hrn.mono ?_
  rintro e w17 ⟨ql, rfl, hq, hqz, hb17⟩
  clear hrn hqz
  have HRQ2_17 := Lib.hid hq
  clear hq
  have HRQ0_17 := Lib.hid (HRQ0_16.out.keep hb17)
  clear HRQ0_16
  have HRQ1_17 := Lib.hid (HRQ1_16.out.keep hb17)
  clear HRQ1_16
  have HD17 := Lib.hid ((DvIn_loc p _).below HD16.out hb17); have HM17 := Lib.hid (HM16.out.keep hb17); have HB17 := Lib.hid (ext_trans HB16.out hb17); have HA17 := Lib.hid (HA16.out.keep hb17); have HL17 := Lib.hid (HL16.out.keep hb17); have HSL17 := Lib.hid (HSL16.out.keep hb17); have HLG17 := Lib.hid ((En.LgIn_loc _ _ _ _ _ _).below HLG16.out hb17); have HBK17 := Lib.hid (HBK16.out.below hb17); have HZ17 := Lib.hid hb17.size
  have HE17 := Lib.hid (HE16.out.keep hb17)
  have HMP17 := Lib.hid (HMP16.out.keep hb17)
  clear HD16 HM16 HB16 HA16 HL16 HSL16 HLG16 HBK16 HE16 HMP16 hb17
  go_wp2_with fail
  refine (New11_in HRQ0_17.out HRQ1_17.out HK.out.1 (by have := HK.out; omega) (by omega)).mono ?_
  rintro e w18 ⟨qs, rfl, hq, hqz, hb18⟩
  clear hq hqz
  have HD18 := Lib.hid ((DvIn_loc p _).below HD17.out hb18); have HM18 := Lib.hid (HM17.out.keep hb18); have HB18 := Lib.hid (ext_trans HB17.out hb18); have HA18 := Lib.hid (HA17.out.keep hb18); have HL18 := Lib.hid (HL17.out.keep hb18); have HSL18 := Lib.hid (HSL17.out.keep hb18); have HLG18 := Lib.hid ((En.LgIn_loc _ _ _ _ _ _).below HLG17.out hb18); have HBK18 := Lib.hid (HBK17.out.below hb18); have HZ18 := Lib.hid hb18.size
  have HE18 := Lib.hid (HE17.out.keep hb18)
  have HMP18 := Lib.hid (HMP17.out.keep hb18)
  clear HD17 HM17 HB17 HA17 HL17 HSL17 HLG17 HBK17 HE17 HMP17 hb18
  go_wp2_with (refine wpList_load_blk rfl 90 _ rfl xs 90 _ HA18.out rfl _ Tryz.underlying90 rfl shape_size ?_)
  refine (HR17.out w18).mono ?_
  rintro e w19 ⟨qk, rfl, hq, hqz, hb19⟩
  clear hq hqz
  have HD19 := Lib.hid ((DvIn_loc p _).below HD18.out hb19); have HM19 := Lib.hid (HM18.out.keep hb19); have HB19 := Lib.hid (ext_trans HB18.out hb19); have HA19 := Lib.hid (HA18.out.keep hb19); have HL19 := Lib.hid (HL18.out.keep hb19); have HSL19 := Lib.hid (HSL18.out.keep hb19); have HLG19 := Lib.hid ((En.LgIn_loc _ _ _ _ _ _).below HLG18.out hb19); have HBK19 := Lib.hid (HBK18.out.below hb19); have HZ19 := Lib.hid hb19.size
  have HE19 := Lib.hid (HE18.out.keep hb19)
  have HMP19 := Lib.hid (HMP18.out.keep hb19)
  clear HD18 HM18 HB18 HA18 HL18 HSL18 HLG18 HBK18 HE18 HMP18 hb19
  go_wp2_with fail
  refine (New10_in ql 0 0 w19).mono ?_
  rintro e w20 ⟨qg, rfl, hq, hqz, hb20⟩
  clear hq hqz
  have HD20 := Lib.hid ((DvIn_loc p _).below HD19.out hb20); have HM20 := Lib.hid (HM19.out.keep hb20); have HB20 := Lib.hid (ext_trans HB19.out hb20); have HA20 := Lib.hid (HA19.out.keep hb20); have HL20 := Lib.hid (HL19.out.keep hb20); have HSL20 := Lib.hid (HSL19.out.keep hb20); have HLG20 := Lib.hid ((En.LgIn_loc _ _ _ _ _ _).below HLG19.out hb20); have HBK20 := Lib.hid (HBK19.out.below hb20); have HZ20 := Lib.hid hb20.size
  have HE20 := Lib.hid (HE19.out.keep hb20)
  have HMP20 := Lib.hid (HMP19.out.keep hb20)
  clear HD19 HM19 HB19 HA19 HL19 HSL19 HLG19 HBK19 HE19 HMP19 hb20
  go_wp2_with fail
  refine (Make23_in qg qs qk w20).mono ?_
  rintro e w21 ⟨q, rfl, hq, hqz, hb21⟩
  have HQQ := Lib.hid (show w20.heap.size ≤ q ∧ q < w21.heap.size from ⟨hqz, hq.lt⟩)
  clear hq hqz
  have HD21 := Lib.hid ((DvIn_loc p _).below HD20.out hb21); have HM21 := Lib.hid (HM20.out.keep hb21); have HB21 := Lib.hid (ext_trans HB20.out hb21); have HA21 := Lib.hid (HA20.out.keep hb21); have HL21 := Lib.hid (HL20.out.keep hb21); have HSL21 := Lib.hid (HSL20.out.keep hb21); have HLG21 := Lib.hid ((En.LgIn_loc _ _ _ _ _ _).below HLG20.out hb21); have HBK21 := Lib.hid (HBK20.out.below hb21); have HZ21 := Lib.hid hb21.size
  have HE21 := Lib.hid (HE20.out.keep hb21)
  have HMP21 := Lib.hid (HMP20.out.keep hb21)
  clear HD20 HM20 HB20 HA20 HL20 HSL20 HLG20 HBK20 HE20 HMP20 hb21
  have HF := Lib.hid (show MdOut n w (.returned (.tuple #[.pointer (some ⟨w21.heap.size, 0, none⟩), .bool true])) (w21.alloc (.cells #[.pointer (some ⟨p, 0, none⟩), .pointer (some ⟨ee, 0, none⟩), .pointer (some ⟨m, 0, none⟩), .pointer (some ⟨q, 0, none⟩)] 53)) from by
    have hb := ext_alloc (Below.refl _ w21) (.cells #[.pointer (some ⟨p, 0, none⟩), .pointer (some ⟨ee, 0, none⟩), .pointer (some ⟨m, 0, none⟩), .pointer (some ⟨q, 0, none⟩)] 53)
    refine ⟨⟨w21.heap.size, p, ee, m, q, kd, ra, rb, rl, lq, sl, bk, mb, k, S, T, qq⟩, rfl, ⟨Arr.fresh w21 _ _, (DvIn_loc p _).below HD21.out hb, Arr.keep HE21.out hb, HMP21.out.keep hb, ?_, (En.LgIn_loc _ _ _ _ _ _).below HLG21.out hb, HSL21.out.keep hb, HK.out, HM21.out.keep hb, ext_trans HB21.out hb, ?_⟩⟩
    · rw [HABC.out.1, HABC.out.2.1, HABC.out.2.2]; exact HBK21.out.below hb
    · have z3 := HB3.out.size; have z4 := HMA4.out; have z5 := HZ5.out; have z7 := HZ7.out; have q8 := HQ8.out; have q9 := HQ9.out; have q10 := HQ10.out; have q11 := HQ11.out; have q12 := HQ12.out; have z13 := HZ13.out; have ze := HZE.out; have z14 := HZ14.out; have z15 := HZ15.out; have z16 := HZ16.out; have z17 := HZ17.out; have z18 := HZ18.out; have z19 := HZ19.out; have z20 := HZ20.out; have zq := HQQ.out
      refine ⟨fun j hj => ⟨by have := (HS4.out j hj).1; omega, (HS4.out j hj).2⟩, fun j hj => ?_, by show w.heap.size ≤ m; omega, by show m < ra; omega, by show ra < rb; omega, by show rb < rl; omega, by show rl < sl; omega, by show sl < lq; omega, fun j hj => ?_, by show lq < ee; omega, by show lq < mb; omega, by show ee < q; omega, by show q < w21.heap.size; omega⟩
      · have := HT13.out j hj; show ra < j; omega
      · have := HT13.out j hj; have := HTL.out j hj; show lq < j ∧ j < ee; omega)
  go_wp2_with fail
  go_ret2
  exact HF.out

end Go.Proofs.YtkmpchffflemcaaGreatDoor.Rf
end

/- Law 31's example. -/
section
set_option linter.unusedVariables false
set_option linter.unusedSimpArgs false
namespace Go.Proofs.YtkmpchffflemcaaGreatDoor.Rf
open Go.RowKit
open Go.Proofs.YtkmpchffflemcaaGreatDoor.Bk (BookAt Comp Parts)
open Go.Proofs.YtkmpchffflemcaaGreatDoor.En (By RpTab srvNew_in Feed1_in Take_in Cut_in SesAt Ses DoCount_in rqGet RqOk rpBytes cutP NwO NwS Nil3 FdOut TkOut CutOut sesF)
open Go.Proofs.YtkmpchffflemcaaGreatDoor.Oc (le val Bs Buf bytesV byteV okA WrF)
open Go.Proofs.YtkmpchffflemcaaGreatDoor.Eg (EnArr MapL doesL)
open Go.Proofs.YtkmpchffflemcaaGreatDoor.Fl (SameB_in)

def ask5 : By := [5, 0, 10, 8, 0, 0, 0]
def pc5 : By := [10, 8, 0, 0, 0]
def an5 : By := [8, 0, 0, 0, 10, 0, 0, 0, 0]
theorem cut5 : cutP ([] ++ ask5) = ([pc5], 7, 0) := by decide
theorem get5 : (rqGet pc5).2 = 0 ∧ (rqGet pc5).1 = ⟨10, 8, 0, 0, 0⟩ := ⟨by decide, by rfl⟩
theorem bytes5 : rpBytes ⟨8, 10, 0, 0, 0, 0, 0⟩ = an5 := by decide
theorem cut6 : cutP [1, 0, 7, 2, 0, 8] = ([[7]], 3, 0) := by decide
def bs11 : By := [9, 0, 8, 0, 0, 0, 10, 0, 0, 0, 0]
theorem out5 : ([] : By) ++ le an5.length 2 ++ an5 = bs11 := by decide

theorem lit_bs {W W' : World} {g : Nat} (bs : By) (cs : Array Value) (hcs : cs.toList = bytesV bs) (hg : W.heap.size = g) (hw : W.alloc (.cells cs 5) = W') : Bs W' (some ⟨g, 0, none⟩) bs := fun _ => by
  subst hg hw
  refine ⟨_, 0, rfl, by simp, fun i u hi => ?_⟩
  rw [Nat.zero_add]
  refine ((Arr.fresh W _ _).cell i).trans ?_
  rw [← hi, ← hcs, Array.getElem?_toList]
set_option maxRecDepth 100000 in
set_option maxHeartbeats 4000000 in
theorem awake31_in (w : World) (ht : RpTab w) : Calls Tryz.prog 10 #[] w fun e w' => e = .returned (.bool true) ∧ Below w.heap.size w w' := by
  have HT := Lib.hid ht
  clear ht
  go_enter Tryz.func10, Tryz.ntmps10
  go_wp2_with fail
  refine (made31_in 122 (by decide) w).mono ?_
  rintro e w1 ⟨D, rfl, hD⟩
  have HD := Lib.hid hD
  have HB1 := Lib.hid hD.below
  have x1 : w1.cell? ⟨D.x, 1, none⟩ = some (.pointer (some ⟨D.ee, 0, none⟩)) := hD.own.cell 1
  clear hD
  go_wp2_with fail
  refine (srvNew_in HD.out.eng (HT.out.keep HB1.out) (n := 2) (by decide)).mono ?_
  rintro e w2 ⟨s, v, X, rfl, ⟨h1, h2, h3, h4, h5, h6⟩, hb2⟩
  obtain ⟨gs, cs, rfl, _, _, _, hgs⟩ := h2.form (by decide)
  have hX1 : w2.cell? ⟨gs, 1, none⟩ = some (.pointer (some ⟨X 1, 0, none⟩)) := by
    have := h2.range (i := 1) (fun i => rfl) (by decide) 0 (.pointer (some ⟨X 1, 0, none⟩)) (by simp)
    simpa using this
  have HP2 := Lib.hid h1; have HX2 := Lib.hid (h3 1 (by decide)); have HG2 := Lib.hid hX1; have HGZ := Lib.hid (show w1.heap.size ≤ gs ∧ gs < w2.heap.size from ⟨h5 gs rfl, hgs⟩); have HSZ := Lib.hid (show w1.heap.size ≤ s ∧ s < w2.heap.size from ⟨h6, h1.lt⟩)
  have HB2 := Lib.hid hb2
  have HNE := Lib.hid (show gs ≠ s ∧ gs ≠ X 1 ∧ s ≠ X 1 from by
    refine ⟨fun e => h2.ne_obj rfl h1 (fun cur e => by injection e with _ e2; revert e2; decide) e.symm, fun e => h2.ne_obj rfl (h3 1 (by decide)).1 (fun cur e => by injection e with _ e2; revert e2; decide) e.symm, fun e => ?_⟩
    have ha := h1
    rw [e] at ha
    have hb := (h3 1 (by decide)).1
    unfold Arr at ha hb
    rw [ha] at hb
    injection hb with hb
    injection hb with _ hb _
    revert hb; decide)
  clear h1 h2 h3 h4 h5 h6 hb2 hgs hX1 x1
  obtain ⟨x, hx⟩ : ∃ x, X 1 = x := ⟨_, rfl⟩
  rw [hx] at HX2 HG2 HNE
  clear hx X
  obtain ⟨xb, hxb⟩ : ∃ xb, w2.heap.size = xb := ⟨_, rfl⟩
  obtain ⟨w3, hw3⟩ : ∃ w3, w2.alloc (.cells #[.int .u8 5, .int .u8 0, .int .u8 10, .int .u8 8, .int .u8 0, .int .u8 0, .int .u8 0] 5) = w3 := ⟨_, rfl⟩
  have hb3 : Below w2.heap.size w2 w3 := by rw [← hw3]; exact ext_alloc (Below.refl _ _) _
  have hBs : Bs w3 (some ⟨xb, 0, none⟩) ask5 := lit_bs ask5 _ rfl hxb hw3
  have HB3 := Lib.hid (ext_trans HB1.out (ext_trans HB2.out hb3))
  have hlt : ∀ j, j < w1.heap.size → j ≠ x := fun j hj => by have := HX2.out.2; omega
  have hz1 := HD.out.own.lt
  have hS3 : SesAt (· = x) w3 x ⟨[], [], false⟩ := ⟨⟨none, 0, none, 0, HX2.out.1.keep hb3, Buf.none _ _, Bs.nil _ _, fun _ => ⟨rfl, rfl⟩, Nat.le_refl _, Oc.okA_none, fun g off h => by cases h⟩, rfl⟩
  have hE3 : EnArr w3 D.ee true _ _ _ _ _ := Arr.keep HD.out.eng (ext_trans HB2.out hb3)
  have hM3 := HD.out.does.keep (ext_trans HB2.out hb3)
  have hK3 := HD.out.book.comp.below (ext_trans HB2.out hb3)
  have hT3 := HT.out.keep HB3.out
  have hne3 : D.ee < w1.heap.size ∧ D.mb < w1.heap.size := ⟨Arr.lt HD.out.eng, HD.out.does.lt⟩
  have hfeed := Feed1_in (S := (· = x)) (n := 2) (k := 1) (q := 7) (HP2.out.keep hb3) (by decide) ((hb3.cell (p := ⟨gs, 1, none⟩) HGZ.out.2).trans HG2.out) hS3 rfl (fun j hj => by have e : j = x := hj; rw [e]; exact (HX2.out.1.keep hb3).lt) ⟨fun e => HNE.out.2.2 e, fun e => HNE.out.2.1 e, hlt _ hne3.1, HNE.out.1, by have := HSZ.out; omega⟩ hE3 ask5 pc5 an5 (some ⟨xb, 0, none⟩) 7 hBs (by decide) cut5 (by decide) (by decide) (by decide) (by decide) (fun W hW A c hB hA => by
    have hsame : ∀ j, j < w1.heap.size → W.heap[j]? = w3.heap[j]? := fun j hj => hW.block j (by have := (ext_trans HB2.out hb3).size; omega) (hlt j hj)
    have h9 := DoCount_in (w := W) (e := D.ee) (mb := D.mb) ((hsame _ hne3.1).trans hE3) (hM3.same (hsame _ hne3.2)) (hK3.same hW.size (fun j hj _ => hsame j (HD.out.book.comp.lt j hj))) (by decide) (hT3.same (hsame _ (HT.out.keep HB1.out).lt)) pc5 A c hB hA (by decide) get5.1 (by rw [get5.2]) (by rw [get5.2]; exact ⟨rfl, by decide, by decide, .inl rfl, .inl rfl, .inl rfl⟩) (by decide) (by rw [get5.2]; decide)
    rw [get5.2] at h9
    rw [← bytes5]
    exact h9)
  have HFD := Lib.hid (show Calls Tryz.prog 21 #[.pointer (some ⟨s, 0, none⟩), .int .i64 1, .slice (some ⟨xb, 0, none⟩) 7 7] w3 (FdOut (· = x) D.ee s gs 2 cs x false bs11 w3) by rw [← out5]; exact hfeed)
  have HZ := Lib.hid (show w.heap.size ≤ w1.heap.size ∧ w1.heap.size ≤ x ∧ gs < w3.heap.size ∧ x < w3.heap.size from ⟨HB1.out.size, HX2.out.2, by have := hb3.size; have := HGZ.out; omega, (HX2.out.1.keep hb3).lt⟩)
  have HG3 := Lib.hid ((hb3.cell (p := ⟨gs, 1, none⟩) HGZ.out.2).trans HG2.out)
  clear hfeed hS3 hE3 hM3 hK3 hT3 hlt hBs hb3 hne3 hz1
  go_wp2_with fail
  refine HFD.out.mono ?_
  rintro e w4 ⟨rv, rfl, hp4, hr4, ht4⟩
  have hg4 : w4.cell? ⟨gs, 1, none⟩ = some (.pointer (some ⟨x, 0, none⟩)) := (World.cell?_of_block (a := ⟨gs, 1, none⟩) (ht4.block gs HZ.out.2.2.1 (fun h => h.elim HNE.out.2.1 HNE.out.1))).trans HG3.out
  have HTK := Lib.hid (show Calls Tryz.prog 22 #[.pointer (some ⟨s, 0, none⟩), .int .i64 1] w4 (TkOut x bs11 w4) from Take_in (n := 2) (k := 1) hp4 (by decide) hg4 hr4 (by decide))
  have HB4 := Lib.hid (show Below w.heap.size w w4 from Tch.fresh ht4 HB3.out (fun j hj => by have := HZ.out; have := HSZ.out; rcases hj with hj | hj <;> omega))
  clear hp4 hr4 ht4 hg4 HFD
  go_wp2_with fail
  refine HTK.out.mono ?_
  rintro e w5 ⟨B, d, rfl, hBs5, ht5⟩
  have HBS5 := Lib.hid hBs5
  have HB5 := Lib.hid (show Below w.heap.size w w5 from Tch.fresh ht5 HB4.out (fun j hj => by have := HZ.out; omega))
  clear hBs5 ht5 HTK hw3 hxb
  obtain ⟨xc, hxc⟩ : ∃ xc, w5.heap.size = xc := ⟨_, rfl⟩
  obtain ⟨w6, hw6⟩ : ∃ w6, w5.alloc (.cells #[.int .u8 1, .int .u8 0, .int .u8 7, .int .u8 2, .int .u8 0, .int .u8 8] 5) = w6 := ⟨_, rfl⟩
  have HB6 := Lib.hid (show Below w5.heap.size w5 w6 by rw [← hw6]; exact ext_alloc (Below.refl _ _) _)
  have HCU := Lib.hid (show Calls Tryz.prog 5 #[.slice (some ⟨xc, 0, none⟩) 6 6] w6 (CutOut [1, 0, 7, 2, 0, 8] w6) from Cut_in [1, 0, 7, 2, 0, 8] (some ⟨xc, 0, none⟩) 6 w6 (lit_bs _ _ rfl hxc hw6) (Oc.okA_some _ _) (by decide))
  go_wp2_with fail
  refine HCU.out.mono ?_
  rintro e w7 ⟨v, A7, C7, rfl, hR7, hb7⟩
  rw [cut6] at hR7 ⊢
  obtain ⟨Av, cv, rfl⟩ := hR7.row.any
  have HB7 := Lib.hid (ext_trans HB6.out hb7)
  clear hR7 hb7 HCU hw6 hxc
  obtain ⟨xd, hxd⟩ : ∃ xd, w7.heap.size = xd := ⟨_, rfl⟩
  obtain ⟨w8, hw8⟩ : ∃ w8, w7.alloc (.cells #[.int .u8 9, .int .u8 0, .int .u8 8, .int .u8 0, .int .u8 0, .int .u8 0, .int .u8 10, .int .u8 0, .int .u8 0, .int .u8 0, .int .u8 0] 5) = w8 := ⟨_, rfl⟩
  have HB8 := Lib.hid (show Below w7.heap.size w7 w8 by rw [← hw8]; exact ext_alloc (Below.refl _ _) _)
  have HSM := Lib.hid (show Calls Tryz.prog 16 #[.slice B 11 d, .slice (some ⟨xd, 0, none⟩) 11 11] w8 (fun e w' => e = .returned (.bool true) ∧ Below w8.heap.size w8 w') from SameB_in bs11 B (some ⟨xd, 0, none⟩) d 11 w8 (HBS5.out.keep (ext_trans HB7.out HB8.out)) (lit_bs bs11 _ rfl hxd hw8) (by decide))
  have hd11 : List.length bs11 = 11 := rfl
  go_wp2_with fail
  refine HSM.out.mono ?_
  rintro e w9 ⟨rfl, hb9⟩
  have HB9 := Lib.hid (ext_trans HB5.out (ext_trans (ext_trans HB7.out HB8.out) hb9))
  clear hb9
  go_wp2_with fail
  go_ret
  exact ⟨rfl, HB9.out⟩

end Go.Proofs.YtkmpchffflemcaaGreatDoor.Rf
end
