/- The law of a book told and read again. -/
import Derived.Test.YtpoijhjjbmaedaaGreatDoorMan26
set_option linter.unusedVariables false
set_option linter.unusedSimpArgs false
namespace Go.Proofs.YtpoijhjjbmaedaaGreatDoor.Man
open Go.RowKit
open Go.Proofs.YtpoijhjjbmaedaaGreatDoor.Bit (hasB)
open Go.Proofs.YtpoijhjjbmaedaaGreatDoor.Bk (Bkg Raw rawL Raws bookOf ofR mayR toB BookAt Parts Comp)

theorem CodTxt (m : Nat) (hm : m < 4294967296) (w : World) (ht : Cod.Tab w) : Calls Tryz.prog 36 #[.string ⟨(Cod.txt m).toArray⟩] w fun e w' => e = .returned (.tuple #[.int .u32 (m : Int), .int .i64 0, .int .i64 0]) ∧ w' = w := by
  have h := Cod.Parse ⟨(Cod.txt m).toArray⟩ (Cod.lead _ 8) (Cod.lead_le _ 8) (Cod.lead_good _ 8) (Cod.lead_bad _ 8) w ht
  have ha := Cod.answer_txt hm
  unfold Cod.answer at ha
  rw [ha] at h
  exact h.mono fun e w' ⟨h1, h2⟩ => ⟨h1, h2.symm⟩
/-- the program's book, new -/
def PBook2 (base n : Nat) (clock : Int) (l : List Raw) (er : Int) (p : Option Addr) (w : World) : Prop :=
  (er ≠ 0 ∧ p = none) ∨ ∃ (bk : Nat) (L : List Bkg) (S : Nat → Prop) (q : Parts), er = 0 ∧ bookOf n 4096 4294967295 clock l = some L ∧ p = some ⟨bk, 0, Option.none⟩ ∧ BookAt S w bk n 4096 1 4294967295 clock L q ∧ ∀ k, S k → base ≤ k
theorem PBook2.keep {base n : Nat} {clock : Int} {l : List Raw} {er : Int} {p : Option Addr} {w w' : World} (h : PBook2 base n clock l er p w) (hb : Below w.heap.size w w') : PBook2 base n clock l er p w' := by
  rcases h with h | ⟨bk, L, S, q, h1, h5, h6, h7, h8⟩
  · exact .inl h
  · exact .inr ⟨bk, L, S, q, h1, h5, h6, h7.below hb, h8⟩
def erOf (n : Nat) (clock : Int) (l : List Raw) : Int := if (bookOf n 4096 4294967295 clock l).isSome = true then 0 else 180
theorem erOf_is (n : Nat) (clock : Int) (l : List Raw) : (bookOf n 4096 4294967295 clock l).isSome = (erOf n clock l == 0) := by
  unfold erOf
  cases bookOf n 4096 4294967295 clock l <;> rfl
theorem Of_back (n : Nat) (clock : Int) (l : List Raw) (hok : Geo.okS n 4096 1 = true) (A : Option Addr) (cap : Nat) (w : World) (hr : Raws w A l) (hl : l.length ≤ 17592186043904) (hids : ∀ x ∈ l, 0 ≤ x.id ∧ x.id < 4294967296) :
    Calls Tryz.prog 11 #[.agg #[.int .i64 n, .int .i64 4096, .int .i64 1], .int .u32 4294967295, .int .i64 clock, .slice A l.length cap] w fun e w' => (∃ p, e = .returned (.tuple #[.pointer p, .int .i64 (erOf n clock l)]) ∧ PBook2 w.heap.size n clock l (erOf n clock l) p w') ∧ Below w.heap.size w w' := by
  refine (Bk.Of_in n 4096 1 4294967295 clock l A cap w hok hr hl (by omega) hids).mono ?_
  rintro e w' ⟨hb, hx⟩
  cases hbo : bookOf n 4096 4294967295 clock l with
  | none =>
    rw [hbo] at hx
    simp only at hx
    have he : erOf n clock l = 180 := by unfold erOf; rw [hbo]; rfl
    rw [he]
    exact ⟨⟨_, hx, .inl ⟨by decide, rfl⟩⟩, hb⟩
  | some L =>
    rw [hbo] at hx
    simp only at hx
    obtain ⟨bk, S, q, hx, hq, hS⟩ := hx
    have he : erOf n clock l = 0 := by unfold erOf; rw [hbo]; rfl
    rw [he]
    exact ⟨⟨_, hx, .inr ⟨bk, L, S, q, rfl, hbo, rfl, hq, hS⟩⟩, hb⟩
set_option maxRecDepth 100000 in
set_option maxHeartbeats 4000000 in
theorem Back_in (r wd : Int) (zs : List Int) (A : Option Addr) (c : Nat) (l : List Raw) (LA : Option Addr) (lc : Nat) (clock : Int) (w : World) (hw : Wd w) (hI : Cab.Ints w A zs) (hN : A = none → zs = [] ∧ c = 0) (hzl : zs.length ≤ 17592186043904) (hL : Raws w LA l) (hLA : LA = none → l = [] ∧ lc = 0) (hl24 : l.length * 24 ≤ 140737488351232) (hids : ∀ x ∈ l, 0 ≤ x.id ∧ x.id < 4294967296) :
    Calls Tryz.prog 9 #[.agg #[.int .i64 r, .int .i64 wd, .slice A zs.length c], .slice LA l.length lc, .int .i64 clock] w fun e w' => e = .returned (.bool true) ∧ Below w.heap.size w w' := by
  have hb0 := ext_alloc (Below.refl w.heap.size w) (.cells #[.int .i64 r, .int .i64 wd, .slice A zs.length c] 24)
  have hC0 := Arr.fresh w 24 #[.int .i64 r, .int .i64 wd, .slice A zs.length c]
  have HB0 := Lib.hid hb0; have HC0 := Lib.hid hC0
  have HW := Lib.hid hw; have HI := Lib.hid hI; have HN := Lib.hid hN; have HL := Lib.hid hL; have HLA := Lib.hid hLA; have HIDS := Lib.hid hids
  clear hb0 hC0 hw hI hN hL hLA hids
  go_enter Tryz.func9, Tryz.ntmps9
  go_wp2_with fail
  refine (awake_in _ (HW.out.keep HB0.out)).mono ?_
  rintro e w1 ⟨rfl, hb1⟩
  have HB1 := Lib.hid (ext_trans HB0.out hb1)
  obtain ⟨cb, hcb⟩ : ∃ cb, w.heap.size = cb := ⟨_, rfl⟩
  have hC1 := HC0.out.keep hb1
  rw [hcb] at hC1
  have HC1 := Lib.hid hC1
  have HCB := Lib.hid hcb
  clear hb1 hC1
  rw [hcb]
  clear hcb
  have z0 : w1.cell? ⟨cb, 0, none⟩ = some (.int .i64 r) := HC1.out.cell 0
  have z1 : w1.cell? ⟨cb, 1, none⟩ = some (.int .i64 wd) := HC1.out.cell 1
  have z2 : w1.cell? ⟨cb, 2, none⟩ = some (.slice A zs.length c) := HC1.out.cell 2
  go_wp2_with fail
  refine (Cab.CopyCabin r wd zs A c w1 (HI.out.keep HB1.out) HN.out hzl).mono ?_
  rintro e w2 ⟨A2, c2, rfl, hi2, hb2⟩
  have HB2 := Lib.hid (ext_trans HB1.out hb2)
  have HC2 := Lib.hid (HC1.out.keep hb2)
  have HI2 := Lib.hid hi2
  clear hb2 hi2 z0 z1 z2
  cases hok : Cab.okC r wd zs with
  | false =>
    have HOK := Lib.hid hok
    clear hok
    go_wp2_with fail
    refine (Cab.Seats_no r wd zs A2 c2 w2 HI2.out (by omega) HOK.out).mono ?_
    rintro e w3 ⟨rfl, hb3⟩
    go_wp2_with fail
    go_ret
    exact ⟨rfl, ext_trans HB2.out hb3⟩
  | true =>
  obtain ⟨⟨o1, o2, o3, o4⟩, _⟩ := Cab.okC_yes hok
  have q2 : r * wd ≤ 64 * 16 := Int.mul_le_mul (by omega) (by omega) (by omega) (by omega)
  have q1 : 1 * 1 ≤ r * wd := Int.mul_le_mul o1 o3 (by omega) (by omega)
  obtain ⟨n, hn⟩ : ∃ n : Nat, (n : Int) = r * wd := ⟨(r * wd).toNat, by omega⟩
  have hn1 : 1 ≤ n := by omega
  have hn2 : n ≤ 1024 := by omega
  have HOK := Lib.hid hok
  have HNN := Lib.hid hn
  have HOKS := Lib.hid (show Geo.okS n 4096 1 = true by simp [Geo.okS]; omega)
  clear hok hn o1 o2 o3 o4 q1 q2
  go_wp2_with fail
  refine (Cab.Seats_yes r wd zs A2 c2 w2 HI2.out (by omega) HOK.out).mono ?_
  rintro e w3 ⟨rfl, hb3⟩
  rw [← HNN.out]
  have HB3 := Lib.hid (ext_trans HB2.out hb3)
  have HC3 := Lib.hid (HC2.out.keep hb3)
  clear hb3
  by_cases hbig : (1100 : Int) < (l.length : Int)
  · have hbig2 : decide ((1100 : Int) < (l.length : Int)) = true := by simpa using hbig
    go_wp2_with fail
    go_ret
    exact ⟨rfl, HB3.out⟩
  have hbig2 : decide ((1100 : Int) < (l.length : Int)) = false := by simpa using hbig
  have hle : (l.length : Int) ≤ 1100 := by omega
  go_wp2_with fail
  have hb4 := ext_alloc (Below.refl w3.heap.size w3) (.cells #[.int .i64 n, .int .i64 4096, .int .i64 1] 26)
  have hS4 := Arr.fresh w3 26 #[.int .i64 n, .int .i64 4096, .int .i64 1]
  obtain ⟨w4, hw4⟩ : ∃ w4, w3.alloc (.cells #[.int .i64 n, .int .i64 4096, .int .i64 1] 26) = w4 := ⟨_, rfl⟩
  obtain ⟨sb, hsb⟩ : ∃ sb, w3.heap.size = sb := ⟨_, rfl⟩
  rw [hw4] at hb4 hS4 ⊢
  rw [hsb] at hS4 ⊢
  have HB4 := Lib.hid (ext_trans HB3.out hb4)
  have HC4 := Lib.hid (HC3.out.keep hb4)
  have HS4 := Lib.hid hS4
  obtain ⟨er, her⟩ : ∃ er, erOf n clock l = er := ⟨_, rfl⟩
  have HERS := Lib.hid (show (bookOf n 4096 4294967295 clock l).isSome = (er == 0) by rw [← her]; exact erOf_is n clock l)
  have HER := Lib.hid her
  clear hb4 hS4 hw4 hsb her
  refine wp_region_held_drew (S := (fun w' => w'.cell? ⟨sb, 0, none⟩ = some (.int .i64 n) ∧ w'.cell? ⟨sb, 1, none⟩ = some (.int .i64 4096) ∧ w'.cell? ⟨sb, 2, none⟩ = some (.int .i64 1))) (by kernel_rfl) (by exact ⟨HS4.out.cell 0, HS4.out.cell 1, HS4.out.cell 2⟩) (fun hHeld => ?_)
  refine take_yes (i := 0) (oi := ?o1) (d := (some 44)) (v := ?v1) ?hi1 (by kernel_rfl) (by kernel_rfl) (by kernel_rfl) (fun _ _ _ h => h) ?hd1 ?hw1 ?hy1 (by assumption) ?_
  case hi1 => (simp only [List.getElem?_toArray, List.getElem?_cons_zero]; exact rfl)
  case hd1 => rfl
  case hw1 => rfl
  case hy1 => (intro w hSw; (try dsimp only at hSw); go_simp; try with_reducible rfl)
  try simp only [Act.put, List.setIfInBounds_toArray, List.set_cons_zero, List.set_cons_succ]
  refine take_yes (i := 1) (oi := ?o2) (d := (some 45)) (v := ?v2) ?hi2 (by kernel_rfl) (by kernel_rfl) (by kernel_rfl) (fun _ _ _ h => h) ?hd2 ?hw2 ?hy2 (by assumption) ?_
  case hi2 => (simp only [List.getElem?_toArray, List.getElem?_cons_zero, List.getElem?_cons_succ]; exact rfl)
  case hd2 => rfl
  case hw2 => rfl
  case hy2 => (intro w hSw; (try dsimp only at hSw); go_simp; try with_reducible rfl)
  try simp only [Act.put, List.setIfInBounds_toArray, List.set_cons_zero, List.set_cons_succ]
  refine take_yes (i := 2) (oi := ?o3) (d := (some 46)) (v := ?v3) ?hi3 (by kernel_rfl) (by kernel_rfl) (by kernel_rfl) (fun _ _ _ h => h) ?hd3 ?hw3 ?hy3 (by assumption) ?_
  case hi3 => (simp only [List.getElem?_toArray, List.getElem?_cons_zero, List.getElem?_cons_succ]; exact rfl)
  case hd3 => rfl
  case hw3 => rfl
  case hy3 => (intro w hSw; (try dsimp only at hSw); go_simp; try with_reducible rfl)
  try simp only [Act.put, List.setIfInBounds_toArray, List.set_cons_zero, List.set_cons_succ]
  refine wpAnyH_ready (rs := [3]) (by kernel_rfl) (by simp) ?_
  refine AllReadyH.cons rfl (fun K hK => ?_) AllReadyH.nil
  go_simp
  (go_at_call 12; refine (CopyBookings_in l LA lc _ (HL.out.keep (ext_drew HB4.out)) HLA.out hl24).mono ?_; rintro e w5 ⟨VA5, vc5, rfl, hr5, hb5⟩; have HR5 := Lib.hid (RowIn.raws hr5); have HQ5 := Lib.hid (ext_trans (ext_drew (Below.refl w4.heap.size w4)) hb5); have HB5 := Lib.hid (ext_trans HB4.out HQ5.out); have HS5 := Lib.hid (HS4.out.keep HQ5.out); clear hr5 hb5)
  go_wp2_with fail
  refine hK.out _ _ (by first | exact ⟨HS6.out.cell 0, HS6.out.cell 1, HS6.out.cell 2⟩ | exact ⟨HS5.out.cell 0, HS5.out.cell 1, HS5.out.cell 2⟩) (fun hHeld3 => ?_)
  clear hK K
  try simp only [Act.put, List.setIfInBounds_toArray, List.set_cons_zero, List.set_cons_succ]
  refine wpAnyH_ready (rs := [4]) (by kernel_rfl) (by simp) ?_
  refine AllReadyH.cons rfl (fun K hK => ?_) AllReadyH.nil
  go_simp
  (go_at_call 11; refine (Of_back n clock l HOKS.out VA5 vc5 _ HR5.out (by omega) HIDS.out).mono ?_; rintro e w6 ⟨⟨p, rfl, hp6⟩, hb6⟩; rw [HER.out] at hp6 ⊢; have HP6 := Lib.hid hp6; have HQ6 := Lib.hid (ext_trans HQ5.out hb6); have HB6 := Lib.hid (ext_trans HB5.out hb6); have HS6 := Lib.hid (HS5.out.keep hb6); clear hp6 hb6)
  go_wp2_with fail
  refine hK.out _ _ (by first | exact ⟨HS6.out.cell 0, HS6.out.cell 1, HS6.out.cell 2⟩ | exact ⟨HS5.out.cell 0, HS5.out.cell 1, HS5.out.cell 2⟩) (fun hHeld4 => ?_)
  clear hK K
  try simp only [Act.put, List.setIfInBounds_toArray, List.set_cons_zero, List.set_cons_succ]
  refine take_yes (i := 5) (oi := ?o4) (d := (some 43)) (v := ?v4) ?hi4 (by kernel_rfl) (by kernel_rfl) (by kernel_rfl) (fun _ _ _ h => h) ?hd4 ?hw4 ?hy4 (by assumption) ?_
  case hi4 => (simp only [List.getElem?_toArray, List.getElem?_cons_zero, List.getElem?_cons_succ]; exact rfl)
  case hd4 => rfl
  case hw4 => rfl
  case hy4 => (intro w hSw; (try dsimp only at hSw); go_simp; try with_reducible rfl)
  try simp only [Act.put, List.setIfInBounds_toArray, List.set_cons_zero, List.set_cons_succ]
  refine take_yes (i := 6) (oi := ?o5) (d := (some 49)) (v := ?v5) ?hi5 (by kernel_rfl) (by kernel_rfl) (by kernel_rfl) (fun _ _ _ h => h) ?hd5 ?hw5 ?hy5 (by assumption) ?_
  case hi5 => (simp only [List.getElem?_toArray, List.getElem?_cons_zero, List.getElem?_cons_succ]; exact rfl)
  case hd5 => rfl
  case hw5 => rfl
  case hy5 => (intro w hSw; (try dsimp only at hSw); go_simp; try with_reducible rfl)
  try simp only [Act.put, List.setIfInBounds_toArray, List.set_cons_zero, List.set_cons_succ]
  refine take_yes (i := 7) (oi := ?o6) (d := (some 50)) (v := ?v6) ?hi6 (by kernel_rfl) (by kernel_rfl) (by kernel_rfl) (fun _ _ _ h => h) ?hd6 ?hw6 ?hy6 (by assumption) ?_
  case hi6 => (simp only [List.getElem?_toArray, List.getElem?_cons_zero, List.getElem?_cons_succ]; exact rfl)
  case hd6 => rfl
  case hw6 => rfl
  case hy6 => (intro w hSw; (try dsimp only at hSw); go_simp; try with_reducible rfl)
  try simp only [Act.put, List.setIfInBounds_toArray, List.set_cons_zero, List.set_cons_succ]
  refine take_yes (i := 8) (oi := ?o7) (d := (some 10)) (v := ?v7) ?hi7 (by kernel_rfl) (by kernel_rfl) (by kernel_rfl) (fun _ _ _ h => h) ?hd7 ?hw7 ?hy7 (by assumption) ?_
  case hi7 => (simp only [List.getElem?_toArray, List.getElem?_cons_zero, List.getElem?_cons_succ]; exact rfl)
  case hd7 => rfl
  case hw7 => rfl
  case hy7 => (intro w hSw; (try dsimp only at hSw); go_simp; try with_reducible rfl)
  try simp only [Act.put, List.setIfInBounds_toArray, List.set_cons_zero, List.set_cons_succ]
  refine take_yes (i := 9) (oi := ?o8) (d := (some 11)) (v := ?v8) ?hi8 (by kernel_rfl) (by kernel_rfl) (by kernel_rfl) (fun _ _ _ h => h) ?hd8 ?hw8 ?hy8 (by assumption) ?_
  case hi8 => (simp only [List.getElem?_toArray, List.getElem?_cons_zero, List.getElem?_cons_succ]; exact rfl)
  case hd8 => rfl
  case hw8 => rfl
  case hy8 => (intro w hSw; (try dsimp only at hSw); go_simp; try with_reducible rfl)
  try simp only [Act.put, List.setIfInBounds_toArray, List.set_cons_zero, List.set_cons_succ]
  refine wpAnyH_done (by kernel_rfl) ?_ _
  have HC6 := Lib.hid (HC4.out.keep HQ6.out)
  go_wp2_with fail
  refine wp_region_held_drew (S := (fun w' => w'.cell? ⟨sb, 0, none⟩ = some (.int .i64 n) ∧ w'.cell? ⟨sb, 1, none⟩ = some (.int .i64 4096) ∧ w'.cell? ⟨sb, 2, none⟩ = some (.int .i64 1))) (by kernel_rfl) (by exact ⟨HS6.out.cell 0, HS6.out.cell 1, HS6.out.cell 2⟩) (fun hHeld => ?_)
  refine take_yes (i := 0) (oi := ?o9) (d := (some 51)) (v := ?v9) ?hi9 (by kernel_rfl) (by kernel_rfl) (by kernel_rfl) (fun _ _ _ h => h) ?hd9 ?hw9 ?hy9 (by assumption) ?_
  case hi9 => (simp only [List.getElem?_toArray, List.getElem?_cons_zero]; exact rfl)
  case hd9 => rfl
  case hw9 => rfl
  case hy9 => (intro w hSw; (try dsimp only at hSw); go_simp; try with_reducible rfl)
  try simp only [Act.put, List.setIfInBounds_toArray, List.set_cons_zero, List.set_cons_succ]
  refine take_yes (i := 1) (oi := ?o10) (d := (some 52)) (v := ?v10) ?hi10 (by kernel_rfl) (by kernel_rfl) (by kernel_rfl) (fun _ _ _ h => h) ?hd10 ?hw10 ?hy10 (by assumption) ?_
  case hi10 => (simp only [List.getElem?_toArray, List.getElem?_cons_zero, List.getElem?_cons_succ]; exact rfl)
  case hd10 => rfl
  case hw10 => rfl
  case hy10 => (intro w hSw; (try dsimp only at hSw); go_simp; try with_reducible rfl)
  try simp only [Act.put, List.setIfInBounds_toArray, List.set_cons_zero, List.set_cons_succ]
  refine take_yes (i := 3) (oi := ?o11) (d := (some 54)) (v := ?v11) ?hi11 (by kernel_rfl) (by kernel_rfl) (by kernel_rfl) (fun _ _ _ h => h) ?hd11 ?hw11 ?hy11 (by assumption) ?_
  case hi11 => (simp only [List.getElem?_toArray, List.getElem?_cons_zero, List.getElem?_cons_succ]; exact rfl)
  case hd11 => rfl
  case hw11 => rfl
  case hy11 => (intro w hSw; (try dsimp only at hSw); go_simp; try with_reducible rfl)
  try simp only [Act.put, List.setIfInBounds_toArray, List.set_cons_zero, List.set_cons_succ]
  refine take_yes (i := 5) (oi := ?o12) (d := (some 56)) (v := ?v12) ?hi12 (by kernel_rfl) (by kernel_rfl) (by kernel_rfl) (fun _ _ _ h => h) ?hd12 ?hw12 ?hy12 (by assumption) ?_
  case hi12 => (simp only [List.getElem?_toArray, List.getElem?_cons_zero, List.getElem?_cons_succ]; exact rfl)
  case hd12 => rfl
  case hw12 => rfl
  case hy12 => (intro w hSw; (try dsimp only at hSw); go_simp; try with_reducible rfl)
  try simp only [Act.put, List.setIfInBounds_toArray, List.set_cons_zero, List.set_cons_succ]
  refine take_yes (i := 6) (oi := ?o13) (d := (some 57)) (v := ?v13) ?hi13 (by kernel_rfl) (by kernel_rfl) (by kernel_rfl) (fun _ _ _ h => h) ?hd13 ?hw13 ?hy13 (by assumption) ?_
  case hi13 => (simp only [List.getElem?_toArray, List.getElem?_cons_zero, List.getElem?_cons_succ]; exact rfl)
  case hd13 => rfl
  case hw13 => rfl
  case hy13 => (intro w hSw; (try dsimp only at hSw); go_simp; try with_reducible rfl)
  try simp only [Act.put, List.setIfInBounds_toArray, List.set_cons_zero, List.set_cons_succ]
  refine wpAnyH_ready (rs := [2]) (by kernel_rfl) (by simp) ?_
  refine AllReadyH.cons rfl (fun K hK => ?_) AllReadyH.nil
  go_simp
  (go_at_call 12; refine (CopyBookings_in l LA lc _ (HL.out.keep (ext_drew HB6.out)) HLA.out hl24).mono ?_; rintro e w7 ⟨VA7, vc7, rfl, hr7, hb7⟩; have HR7 := Lib.hid (RowIn.raws hr7); have HQ7 := Lib.hid (ext_trans (ext_drew (Below.refl w6.heap.size w6)) hb7); have HB7 := Lib.hid (ext_trans HB6.out HQ7.out); have HS7 := Lib.hid (HS6.out.keep HQ7.out); clear hr7 hb7)
  go_wp2_with fail
  refine hK.out _ _ (by first | exact ⟨HS7.out.cell 0, HS7.out.cell 1, HS7.out.cell 2⟩ | exact ⟨(HS7.out.keep (by assumption)).cell 0, (HS7.out.keep (by assumption)).cell 1, (HS7.out.keep (by assumption)).cell 2⟩) (fun hHeld2 => ?_)
  clear hK K
  try simp only [Act.put, List.setIfInBounds_toArray, List.set_cons_zero, List.set_cons_succ]
  refine wpAnyH_ready (rs := [4]) (by kernel_rfl) (by simp) ?_
  refine AllReadyH.cons rfl (fun K hK => ?_) AllReadyH.nil
  go_simp
  (go_at_call 26; refine (Sound_in n 4096 1 clock l VA7 vc7 _ HOKS.out HR7.out (by omega) HIDS.out).mono ?_; rintro e w8 ⟨rfl, hb8⟩; rw [HERS.out]; have HQ8 := Lib.hid (ext_trans HQ7.out hb8); have HB8 := Lib.hid (ext_trans HB7.out hb8))
  go_wp2_with fail
  refine hK.out _ _ (by first | exact ⟨HS7.out.cell 0, HS7.out.cell 1, HS7.out.cell 2⟩ | exact ⟨(HS7.out.keep (by assumption)).cell 0, (HS7.out.keep (by assumption)).cell 1, (HS7.out.keep (by assumption)).cell 2⟩) (fun hHeld4 => ?_)
  clear hK K
  try simp only [Act.put, List.setIfInBounds_toArray, List.set_cons_zero, List.set_cons_succ]
  refine take_yes (i := 7) (oi := ?o14) (d := (some 58)) (v := ?v14) ?hi14 (by kernel_rfl) (by kernel_rfl) (by kernel_rfl) (fun _ _ _ h => h) ?hd14 ?hw14 ?hy14 (by assumption) ?_
  case hi14 => (simp only [List.getElem?_toArray, List.getElem?_cons_zero, List.getElem?_cons_succ]; exact rfl)
  case hd14 => rfl
  case hw14 => rfl
  case hy14 => (intro w hSw; (try dsimp only at hSw); go_simp; try with_reducible rfl)
  try simp only [Act.put, List.setIfInBounds_toArray, List.set_cons_zero, List.set_cons_succ]
  refine wpAnyH_done (by kernel_rfl) ?_ _
  have HC8 := Lib.hid (HC6.out.keep HQ8.out)
  have HP8 := Lib.hid (HP6.out.keep HQ8.out)
  have hee : ((er == 0) != (er == 0)) = false := by simp
  by_cases her : er = 0
  case neg =>
    have her2 : (er != 0) = true := by simpa using her
    have her3 : (er == 0) = false := by simpa using her
    go_wp2_with fail
    go_ret
    exact ⟨rfl, HB8.out⟩
  subst her
  have hp8 := HP8.out
  rcases hp8 with ⟨h1, _⟩ | ⟨bk, L, S, q, _, hbo, rfl, hbk, hS⟩
  · exact absurd rfl h1
  have HBK8 := Lib.hid hbk; have HSS := Lib.hid hS
  have hLm := bookOf_some hbo
  have HSORT := Lib.hid (bookOf_sorted hbo)
  have HLIDS := Lib.hid (show ∀ x ∈ L, 0 ≤ x.id ∧ x.id < 4294967296 from fun x hx => by
    rw [hLm.1] at hx
    obtain ⟨y, hy, rfl⟩ := List.mem_map.1 hx
    exact HIDS.out y hy)
  clear hbo hbk hS hLm HP8 HP6 hee
  have z0 : w8.cell? ⟨cb, 0, none⟩ = some (.int .i64 r) := HC8.out.cell 0
  have z1 : w8.cell? ⟨cb, 1, none⟩ = some (.int .i64 wd) := HC8.out.cell 1
  have z2 : w8.cell? ⟨cb, 2, none⟩ = some (.slice A zs.length c) := HC8.out.cell 2
  go_wp2_with fail
  refine (Cab.CopyCabin r wd zs A c w8 (HI.out.keep HB8.out) HN.out hzl).mono ?_
  rintro e w9 ⟨A9, c9, rfl, hi9, hb9⟩
  have HB9 := Lib.hid (ext_trans HB8.out hb9)
  have HC9 := Lib.hid (HC8.out.keep hb9)
  have HBK9 := Lib.hid (HBK8.out.below hb9)
  have HI9 := Lib.hid hi9
  clear hb9 hi9 z0 z1 z2
  go_wp2_with fail
  refine (Of_in S bk n 4096 1 4294967295 clock L q r wd zs A9 c9 w9 HBK9.out HI9.out (by omega) HOK.out HNN.out (HW.out.tab.keep HB9.out) HLIDS.out).mono ?_
  rintro e w10 ⟨v10, rfl, hr10, hb10⟩
  obtain ⟨ls, hls⟩ : ∃ ls, linesTo wd q.ws q.sb n = ls := ⟨_, rfl⟩
  have hseats := lines_seats wd q.ws q.sb n
  rw [hls] at hr10 hseats
  obtain ⟨XA, xc, rfl⟩ := RowIn.any hr10
  have HB10 := Lib.hid (ext_trans HB9.out hb10)
  have HC10 := Lib.hid (HC9.out.keep hb10)
  have HBK10 := Lib.hid (HBK9.out.below hb10)
  obtain ⟨ss, hss⟩ : ∃ ss, seatsTo q.ws n = ss := ⟨_, rfl⟩
  have hcnt := lines_count HBK10.out HSORT.out
  rw [hss] at hseats hcnt
  have hlsl : ls.length = ss.length := by rw [hseats, List.length_map]
  have hssn : ss.length ≤ n := by
    have := linesTo_len wd q.ws q.sb n
    rw [hls] at this; omega
  have HR10 := Lib.hid hr10
  have HUP := Lib.hid (show ss.Pairwise (· < ·) from hss ▸ seats_up q.ws n)
  have hof : ∀ i, i < ls.length → LineOf r wd L (ss.getD i 0) (ls.getD i d0) := fun i hi => by
    have hi2 : i < ss.length := by omega
    have h9 := line_of HBK10.out HOK.out HNN.out HLIDS.out (s := ss.getD i 0) (by rw [hss, List.getD_eq_getElem?_getD, List.getElem?_eq_getElem hi2]; exact List.getElem_mem hi2)
    rw [hseats]
    rw [show ((ss.map (fun i => lineAt wd i (q.sb i))).getD i d0) = lineAt wd (ss.getD i 0) (q.sb (ss.getD i 0)) from by
      rw [List.getD_eq_getElem?_getD, List.getElem?_map, List.getD_eq_getElem?_getD, List.getElem?_eq_getElem hi2]; rfl]
    exact h9
  have HOF := Lib.hid hof
  have hmem : ∀ x ∈ ls, ∃ s, LineOf r wd L s x := fun x hx => by
    obtain ⟨i, hi⟩ := List.mem_iff_getElem?.1 hx
    have hil := (List.getElem?_eq_some_iff.1 hi).1
    have := hof i hil
    rw [List.getD_eq_getElem?_getD (l := ls), hi] at this
    exact ⟨_, this⟩
  have HGOOD := Lib.hid (show ∀ x ∈ ls, GoodLn x from fun x hx => by obtain ⟨s, h⟩ := hmem x hx; exact h.good)
  have hbulk : bulk ls ≤ 23552 := by
    have := bulk_small (ls := ls) (fun x hx => by obtain ⟨s, h⟩ := hmem x hx; exact h.small)
    omega
  have hll : ls.length ≤ 1024 := by omega
  have HCNT := Lib.hid (show L.length = ls.length by omega)
  have HLL := Lib.hid hlsl
  clear hb10 hr10 hseats hcnt hof hmem hls hss hssn hlsl
  go_wp2_with fail
  refine (Text_in ls XA xc w10 (RowIn.lines HR10.out) (by omega) (by omega)).mono ?_
  rintro e w11 ⟨rfl, hb11⟩
  have HB11 := Lib.hid (ext_trans HB10.out hb11)
  have HC11 := Lib.hid (HC10.out.keep hb11)
  have HR11 := Lib.hid (HR10.out.keep hb11)
  have HBK11 := Lib.hid (HBK10.out.below hb11)
  obtain ⟨TS, hTS⟩ : ∃ TS : ByteArray, (⟨(txtL ls).toArray⟩ : ByteArray) = TS := ⟨_, rfl⟩
  have hTsz : TS.size ≤ 25000 := by
    have h1 := txt_bulk ls
    rw [← hTS, Lib.size_eq]
    show (txtL ls).length ≤ 25000
    omega
  have HTS := Lib.hid hTS; have HTSZ := Lib.hid hTsz
  rw [hTS]
  clear hb11 hTS hTsz
  go_wp2_with fail
  refine (Parse_far TS w11 (HW.out.keep HB11.out) HTSZ.out).mono ?_
  rintro e w12 hp12
  obtain ⟨⟨v12, rfl, hr12⟩, hb12⟩ := ParseOut.good hp12 (ls := ls) (by rw [← HTS.out]; exact sum_txt HGOOD.out)
  obtain ⟨YA, yc, rfl⟩ := RowIn.any hr12
  have HY12 := Lib.hid (RowIn.lines hr12)
  have HB12 := Lib.hid (ext_trans HB11.out hb12)
  have HC12 := Lib.hid (HC11.out.keep hb12)
  have HR12 := Lib.hid (HR11.out.keep hb12)
  have HBK12 := Lib.hid (HBK11.out.below hb12)
  clear hp12 hb12 hr12
  go_wp2_with fail
  refine (SameLines_in ls YA XA yc xc w12 HY12.out (RowIn.lines HR12.out) (by omega)).mono ?_
  rintro e w13 ⟨rfl, hb13⟩
  have HB13 := Lib.hid (ext_trans HB12.out hb13)
  have HC13 := Lib.hid (HC12.out.keep hb13)
  have HR13 := Lib.hid (HR12.out.keep hb13)
  have HBK13 := Lib.hid (HBK12.out.below hb13)
  have hlnn : ((ls.length : Int) != (ls.length : Int)) = false := by simp
  clear hb13
  go_wp2_with fail
  refine (Bk.Len_in HBK13.out.comp).mono ?_
  rintro e w14 ⟨rfl, hw14⟩
  rw [hw14, HCNT.out]
  clear hw14 w14
  go_wp2_with fail
  go_loopw [17, 18] (fun lv iv wr => ∃ (k : Nat) (last : Int), k ≤ ls.length ∧ lv = .int .i64 last ∧ iv = .int .i64 k ∧ (∀ i, k ≤ i → i < ls.length → last < (ss.getD i 0 : Int)) ∧ BookAt S wr bk n 4096 1 4294967295 clock L q ∧ RowIn (fun k => w9.heap.size ≤ k) wr 74 3 (.slice XA ls.length xc) ls.length (rowC ls) ∧ Arr wr cb 24 #[.int .i64 r, .int .i64 wd, .slice A zs.length c] ∧ Below w.heap.size w wr) (fun _ iv _ => (ls.length - intOf iv).toNat)
  case atStart => exact ⟨0, -1, Nat.zero_le _, rfl, rfl, fun i _ _ => by omega, HBK13.out, HR13.out, HC13.out, HB13.out⟩
  case round =>
    obtain ⟨k, last, hk, rfl, rfl, hlast, hbk, hr, hc, hb⟩ := hrel
    have HLAST := Lib.hid hlast; have HBK := Lib.hid hbk; have HR := Lib.hid hr; have HC := Lib.hid hc; have HB := Lib.hid hb
    clear hlast hbk hr hc hb HBK13 HR13 HC13 HB13
    by_cases hkl : k < ls.length
    · have hk1 : (k : Int) < (ls.length : Int) := by omega
      have hk0 : (0 : Int) ≤ (k : Int) := by omega
      obtain ⟨g, cap, hv, _, _, _, _⟩ := RowIn.form HR.out (by omega)
      injection hv with e1 _ e2
      subst e1 e2
      obtain ⟨s, hs⟩ : ∃ s, ss.getD k 0 = s := ⟨_, rfl⟩
      have hline := HOF.out k hkl
      rw [hs] at hline
      obtain ⟨_, _, row, col, y, m, hyL, hys, hym, hm, hrow, hcol, hseq, hxs, hxc, hxh⟩ := hline
      obtain ⟨x, hx⟩ : ∃ x, ls.getD k d0 = x := ⟨_, rfl⟩
      rw [hx] at hxs hxc hxh
      obtain ⟨xs, xcd, xh⟩ := x
      simp only at hxs hxc hxh
      subst hxs hxc
      have hrc : rowC ls k = [.string ⟨(Cab.seatT row col).toArray⟩, .string ⟨(Cod.txt m).toArray⟩, .bool xh] := by unfold rowC; rw [hx]; rfl
      have HSEAT := Lib.hid (show (rowC ls k)[0]? = some (.string ⟨(Cab.seatT row col).toArray⟩) by rw [hrc]; rfl)
      have HCODE := Lib.hid (show (rowC ls k)[1]? = some (.string ⟨(Cod.txt m).toArray⟩) by rw [hrc]; rfl)
      have HHELD := Lib.hid (show (rowC ls k)[2]? = some (.bool xh) by rw [hrc]; rfl)
      have s0 : wr.cell? ⟨g, k * 3, none⟩ = some (.string ⟨(Cab.seatT row col).toArray⟩) := HR.out.range (rowC_len ls) hkl 0 _ HSEAT.out
      have hsl : last < (s : Int) := by have := HLAST.out k (Nat.le_refl _) hkl; rw [hs] at this; exact this
      have HSEQ := Lib.hid hseq; have HROW := Lib.hid hrow; have HCOL := Lib.hid hcol; have HYL := Lib.hid hyL; have HYM := Lib.hid hym; have HYS := Lib.hid hys; have HXH := Lib.hid hxh; have HSD := Lib.hid hs
      clear hx hrc hseq hrow hcol hyL hym hys hxh hs
      go_wp2_with fail
      refine wp_region_held_drew (S := (fun w' => w'.cell? ⟨cb, 0, none⟩ = some (.int .i64 r) ∧ w'.cell? ⟨cb, 1, none⟩ = some (.int .i64 wd) ∧ w'.cell? ⟨cb, 2, none⟩ = some (.slice A zs.length c) ∧ w'.cell? ⟨g, k * 3, none⟩ = some (.string ⟨(Cab.seatT row col).toArray⟩))) (by kernel_rfl) (by exact ⟨HC.out.cell 0, HC.out.cell 1, HC.out.cell 2, s0⟩) (fun hHeld => ?_)
      refine take_yes (i := 0) (oi := ?o15) (d := (some 105)) (v := ?v15) ?hi15 (by kernel_rfl) (by kernel_rfl) (by kernel_rfl) (fun _ _ _ h => h) ?hd15 ?hw15 ?hy15 (by assumption) ?_
      case hi15 => (simp only [List.getElem?_toArray, List.getElem?_cons_zero]; exact rfl)
      case hd15 => rfl
      case hw15 => rfl
      case hy15 => (intro w hSw; (try dsimp only at hSw); go_simp; try with_reducible rfl)
      try simp only [Act.put, List.setIfInBounds_toArray, List.set_cons_zero, List.set_cons_succ]
      refine take_yes (i := 2) (oi := ?o16) (d := (some 107)) (v := ?v16) ?hi16 (by kernel_rfl) (by kernel_rfl) (by kernel_rfl) (fun _ _ _ h => h) ?hd16 ?hw16 ?hy16 (by assumption) ?_
      case hi16 => (simp only [List.getElem?_toArray, List.getElem?_cons_zero, List.getElem?_cons_succ]; exact rfl)
      case hd16 => rfl
      case hw16 => rfl
      case hy16 => (intro w hSw; (try dsimp only at hSw); go_simp; try with_reducible rfl)
      try simp only [Act.put, List.setIfInBounds_toArray, List.set_cons_zero, List.set_cons_succ]
      refine take_yes (i := 3) (oi := ?o17) (d := (some 108)) (v := ?v17) ?hi17 (by kernel_rfl) (by kernel_rfl) (by kernel_rfl) (fun _ _ _ h => h) ?hd17 ?hw17 ?hy17 (by assumption) ?_
      case hi17 => (simp only [List.getElem?_toArray, List.getElem?_cons_zero, List.getElem?_cons_succ]; exact rfl)
      case hd17 => rfl
      case hw17 => rfl
      case hy17 => (intro w hSw; (try dsimp only at hSw); go_simp; try with_reducible rfl)
      try simp only [Act.put, List.setIfInBounds_toArray, List.set_cons_zero, List.set_cons_succ]
      refine take_yes (i := 4) (oi := ?o18) (d := (some 109)) (v := ?v18) ?hi18 (by kernel_rfl) (by kernel_rfl) (by kernel_rfl) (fun _ _ _ h => h) ?hd18 ?hw18 ?hy18 (by assumption) ?_
      case hi18 => (simp only [List.getElem?_toArray, List.getElem?_cons_zero, List.getElem?_cons_succ]; exact rfl)
      case hd18 => rfl
      case hw18 => rfl
      case hy18 => (intro w hSw; (try dsimp only at hSw); go_simp; try with_reducible rfl)
      try simp only [Act.put, List.setIfInBounds_toArray, List.set_cons_zero, List.set_cons_succ]
      refine take_yes (i := 5) (oi := ?o19) (d := (some 110)) (v := ?v19) ?hi19 (by kernel_rfl) (by kernel_rfl) (by kernel_rfl) (fun _ _ _ h => h) ?hd19 ?hw19 ?hy19 (by assumption) ?_
      case hi19 => (simp only [List.getElem?_toArray, List.getElem?_cons_zero, List.getElem?_cons_succ]; exact rfl)
      case hd19 => rfl
      case hw19 => rfl
      case hy19 => (intro w hSw; (try dsimp only at hSw); go_simp; try with_reducible rfl)
      try simp only [Act.put, List.setIfInBounds_toArray, List.set_cons_zero, List.set_cons_succ]
      refine take_yes (i := 6) (oi := ?o20) (d := (some 111)) (v := ?v20) ?hi20 (by kernel_rfl) (by kernel_rfl) (by kernel_rfl) (fun _ _ _ h => h) ?hd20 ?hw20 ?hy20 (by assumption) ?_
      case hi20 => (simp only [List.getElem?_toArray, List.getElem?_cons_zero, List.getElem?_cons_succ]; exact rfl)
      case hd20 => rfl
      case hw20 => rfl
      case hy20 => (intro w hSw; (try dsimp only at hSw); go_simp; try with_reducible rfl)
      try simp only [Act.put, List.setIfInBounds_toArray, List.set_cons_zero, List.set_cons_succ]
      refine wpAnyH_ready (rs := [1]) (by kernel_rfl) (by simp) ?_
      refine AllReadyH.cons rfl (fun K hK => ?_) AllReadyH.nil
      go_simp
      (go_at_call 33; refine (Cab.CopyCabin r wd zs A c _ (HI.out.keep (ext_drew HB.out)) HN.out hzl).mono ?_; rintro e w15 ⟨A15, c15, rfl, hi15, hb15⟩; have HQ15 := Lib.hid (ext_trans (ext_drew (Below.refl wr.heap.size wr)) hb15); have HI15 := Lib.hid hi15; have HC15 := Lib.hid (HC.out.keep HQ15.out); have HR15 := Lib.hid (HR.out.keep HQ15.out); have HB15 := Lib.hid (ext_trans HB.out HQ15.out); have s15 : w15.cell? ⟨g, k * 3, none⟩ = some (.string ⟨(Cab.seatT row col).toArray⟩) := HR15.out.range (rowC_len ls) hkl 0 _ HSEAT.out; clear hi15 hb15)
      go_wp2_with fail
      refine hK.out _ _ (by first | exact ⟨HC16.out.cell 0, HC16.out.cell 1, HC16.out.cell 2, s16⟩ | exact ⟨HC15.out.cell 0, HC15.out.cell 1, HC15.out.cell 2, s15⟩) (fun hHeld1 => ?_)
      clear hK K
      try simp only [Act.put, List.setIfInBounds_toArray, List.set_cons_zero, List.set_cons_succ]
      refine wpAnyH_ready (rs := [7]) (by kernel_rfl) (by simp) ?_
      refine AllReadyH.cons rfl (fun K hK => ?_) AllReadyH.nil
      go_simp
      (go_at_call 35; refine (Cab.Parse_seat r wd zs A15 c15 row col _ HI15.out (by omega) HOK.out (HW.out.keep HB15.out).ev HROW.out HCOL.out).mono ?_; rintro e w16 ⟨rfl, hb16⟩; rw [HSEQ.out]; have HQ16 := Lib.hid (ext_trans HQ15.out hb16); have HC16 := Lib.hid (HC15.out.keep hb16); have HR16 := Lib.hid (HR15.out.keep hb16); have HB16 := Lib.hid (ext_trans HB15.out hb16); have s16 : w16.cell? ⟨g, k * 3, none⟩ = some (.string ⟨(Cab.seatT row col).toArray⟩) := HR16.out.range (rowC_len ls) hkl 0 _ HSEAT.out; clear hb16)
      go_wp2_with fail
      refine hK.out _ _ (by first | exact ⟨HC16.out.cell 0, HC16.out.cell 1, HC16.out.cell 2, s16⟩ | exact ⟨HC15.out.cell 0, HC15.out.cell 1, HC15.out.cell 2, s15⟩) (fun hHeld7 => ?_)
      clear hK K
      try simp only [Act.put, List.setIfInBounds_toArray, List.set_cons_zero, List.set_cons_succ]
      refine take_yes (i := 8) (oi := ?o21) (d := (some 104)) (v := ?v21) ?hi21 (by kernel_rfl) (by kernel_rfl) (by kernel_rfl) (fun _ _ _ h => h) ?hd21 ?hw21 ?hy21 (by assumption) ?_
      case hi21 => (simp only [List.getElem?_toArray, List.getElem?_cons_zero, List.getElem?_cons_succ]; exact rfl)
      case hd21 => rfl
      case hw21 => rfl
      case hy21 => (intro w hSw; (try dsimp only at hSw); go_simp; try with_reducible rfl)
      try simp only [Act.put, List.setIfInBounds_toArray, List.set_cons_zero, List.set_cons_succ]
      refine take_yes (i := 9) (oi := ?o22) (d := (some 113)) (v := ?v22) ?hi22 (by kernel_rfl) (by kernel_rfl) (by kernel_rfl) (fun _ _ _ h => h) ?hd22 ?hw22 ?hy22 (by assumption) ?_
      case hi22 => (simp only [List.getElem?_toArray, List.getElem?_cons_zero, List.getElem?_cons_succ]; exact rfl)
      case hd22 => rfl
      case hw22 => rfl
      case hy22 => (intro w hSw; (try dsimp only at hSw); go_simp; try with_reducible rfl)
      try simp only [Act.put, List.setIfInBounds_toArray, List.set_cons_zero, List.set_cons_succ]
      refine take_yes (i := 10) (oi := ?o23) (d := (some 114)) (v := ?v23) ?hi23 (by kernel_rfl) (by kernel_rfl) (by kernel_rfl) (fun _ _ _ h => h) ?hd23 ?hw23 ?hy23 (by assumption) ?_
      case hi23 => (simp only [List.getElem?_toArray, List.getElem?_cons_zero, List.getElem?_cons_succ]; exact rfl)
      case hd23 => rfl
      case hw23 => rfl
      case hy23 => (intro w hSw; (try dsimp only at hSw); go_simp; try with_reducible rfl)
      try simp only [Act.put, List.setIfInBounds_toArray, List.set_cons_zero, List.set_cons_succ]
      refine take_yes (i := 11) (oi := ?o24) (d := (some 19)) (v := ?v24) ?hi24 (by kernel_rfl) (by kernel_rfl) (by kernel_rfl) (fun _ _ _ h => h) ?hd24 ?hw24 ?hy24 (by assumption) ?_
      case hi24 => (simp only [List.getElem?_toArray, List.getElem?_cons_zero, List.getElem?_cons_succ]; exact rfl)
      case hd24 => rfl
      case hw24 => rfl
      case hy24 => (intro w hSw; (try dsimp only at hSw); go_simp; try with_reducible rfl)
      try simp only [Act.put, List.setIfInBounds_toArray, List.set_cons_zero, List.set_cons_succ]
      refine take_yes (i := 12) (oi := ?o25) (d := (some 20)) (v := ?v25) ?hi25 (by kernel_rfl) (by kernel_rfl) (by kernel_rfl) (fun _ _ _ h => h) ?hd25 ?hw25 ?hy25 (by assumption) ?_
      case hi25 => (simp only [List.getElem?_toArray, List.getElem?_cons_zero, List.getElem?_cons_succ]; exact rfl)
      case hd25 => rfl
      case hw25 => rfl
      case hy25 => (intro w hSw; (try dsimp only at hSw); go_simp; try with_reducible rfl)
      try simp only [Act.put, List.setIfInBounds_toArray, List.set_cons_zero, List.set_cons_succ]
      refine wpAnyH_done (by kernel_rfl) ?_ _
      clear s0
      have t1 : w16.cell? ⟨g, k * 3 + 1, none⟩ = some (.string ⟨(Cod.txt m).toArray⟩) := HR16.out.range (rowC_len ls) hkl 1 _ HCODE.out
      have HBK16 := Lib.hid (HBK.out.below HQ16.out)
      go_wp2_with fail
      refine (CodTxt m hm w16 (HW.out.tab.keep HB16.out)).mono ?_
      rintro e w17 ⟨rfl, hw17⟩
      rw [hw17]
      clear hw17 w17 t1
      have hget := Bk.Get_in HBK16.out y HYL.out (by rw [HYM.out]; omega)
      rw [HYM.out] at hget
      have HGET := Lib.hid hget
      clear hget
      go_wp2_with fail
      refine HGET.out.mono ?_
      rintro e w18 ⟨rfl, hbk18, hT18⟩
      rw [HYM.out, HYS.out]
      obtain ⟨st, hst⟩ := HBK16.out.comp.ids.lies
      have hR18 : RowIn (fun k => w9.heap.size ≤ k) w18 74 3 (.slice (some ⟨g, 0, none⟩) ls.length xc) ls.length (rowC ls) :=
        ⟨own_same HR16.out.own fun j hj => hT18.block j (own_lt HR16.out.own hj).1 (fun e => RowIn.ne_arr HR16.out hj hst.own (by decide) e.symm), HR16.out.block⟩
      have hC18 := hT18.arr HC16.out (arr_ne HC16.out hst.own (by decide))
      have hB18 : Below w.heap.size w w18 := Tch.to_below HB16.out hT18 (fun j hj => by
        subst hj
        have h1 := HSS.out q.ip HBK16.out.comp.foot.2.2.2.1
        have h2 := HB4.out.size
        have h3 := HQ5.out.size
        omega)
      have HR18 := Lib.hid hR18; have HC18 := Lib.hid hC18; have HB18 := Lib.hid hB18; have HBK18 := Lib.hid hbk18
      clear hbk18 hT18 hst hR18 hC18 hB18
      obtain ⟨til, htil⟩ : ∃ til : Int, y.til = til := ⟨_, rfl⟩
      rw [htil]
      obtain ⟨hd, hhd⟩ : ∃ hd : Bool, (til != 0) = hd := ⟨_, rfl⟩
      have hxd : xh = hd := by rw [HXH.out, htil, ← hhd]; rfl
      have HHD := Lib.hid hxd
      go_wp2_with fail
      have hb19 := ext_alloc (Below.refl w18.heap.size w18) (.cells #[.int .u32 (m : Int), .int .i64 (s : Int), .int .i64 til] 78)
      have hX19 := Arr.fresh w18 78 #[.int .u32 (m : Int), .int .i64 (s : Int), .int .i64 til]
      obtain ⟨w19, hw19⟩ : ∃ w19, w18.alloc (.cells #[.int .u32 (m : Int), .int .i64 (s : Int), .int .i64 til] 78) = w19 := ⟨_, rfl⟩
      obtain ⟨xb, hxb⟩ : ∃ xb, w18.heap.size = xb := ⟨_, rfl⟩
      rw [hw19] at hb19 hX19 ⊢
      rw [hxb] at hX19 ⊢
      have HB19 := Lib.hid (ext_trans HB18.out hb19)
      have HC19 := Lib.hid (HC18.out.keep hb19)
      have HR19 := Lib.hid (HR18.out.keep hb19)
      have HBK19 := Lib.hid (HBK18.out.below hb19)
      have u1 : w19.cell? ⟨xb, 1, none⟩ = some (.int .i64 (s : Int)) := hX19.cell 1
      have u2 : w19.cell? ⟨xb, 2, none⟩ = some (.int .i64 til) := hX19.cell 2
      have u3 : w19.cell? ⟨g, k * 3 + 2, none⟩ = some (.bool hd) := by rw [← HHD.out]; exact HR19.out.range (rowC_len ls) hkl 2 _ HHELD.out
      have f1 : decide ((s : Int) ≤ last) = false := decide_eq_false (by omega)
      have f2 : ((s : Int) != (s : Int)) = false := by simp
      have f3 : (hd != hd) = false := by simp
      clear hb19 hX19 hw19 hxb hxd
      refine wp_region_quiet_lit (by kernel_rfl) (by kernel_rfl) ?_
      repeat (first | go_big_quiet_step ((fail)) | quiet_step ((fail)))
      refine wpQuiet_nil ?_
      intro _ hw'
      obtain ⟨nq, hw''⟩ := hw'
      subst hw''
      go_wp2_with fail
      go_roundw
      case rel =>
        refine ⟨k + 1, (s : Int), by omega, rfl, by go_num, fun i h1 h2 => ?_, HBK19.out.below (ext_drewN (Below.refl _ _) _), HR19.out.keep (ext_drewN (Below.refl _ _) _), HC19.out.drewN _, ext_drewN HB19.out _⟩
        have h3 : k < ss.length := by have := HLL.out; omega
        have h4 : i < ss.length := by have := HLL.out; omega
        have h5 := List.pairwise_iff_getElem.1 HUP.out k i h3 h4 (by omega)
        rw [← HSD.out, List.getD_eq_getElem?_getD, List.getElem?_eq_getElem h3, List.getD_eq_getElem?_getD, List.getElem?_eq_getElem h4]
        simp only [Option.getD_some]
        omega
      case measure => simp [intOf]; omega
    · obtain rfl : k = ls.length := by omega
      go_wp2_with fail
      go_ret
      exact ⟨rfl, HB.out⟩

end Go.Proofs.YtpoijhjjbmaedaaGreatDoor.Man
