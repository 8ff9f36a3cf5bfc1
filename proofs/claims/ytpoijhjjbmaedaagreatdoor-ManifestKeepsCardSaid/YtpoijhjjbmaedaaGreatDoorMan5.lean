/- The manifest's reader: one line. -/
import Derived.Test.YtpoijhjjbmaedaaGreatDoorManA
import Derived.Test.YtpoijhjjbmaedaaGreatDoorPlainA
import Derived.Test.YtpoijhjjbmaedaaGreatDoorCabB
import Derived.Test.YtpoijhjjbmaedaaGreatDoorCodB
import Derived.Test.YtpoijhjjbmaedaaGreatDoorShelf
import Derived.Test.YtpoijhjjbmaedaaGreatDoorKitA
set_option linter.unusedVariables false
set_option linter.unusedSimpArgs false
namespace Go.Proofs.YtpoijhjjbmaedaaGreatDoor.Man
open Go.RowKit

/-- has a text a seat's form? -/
def okA (a : List UInt8) : Bool := (List.range 64).any fun r => (List.range 16).any fun c => Cab.seatT r c == a
/-- is a text a code? -/
def okB (b : List UInt8) : Bool := (Cod.answer ⟨b.toArray⟩).2.2 == 0
theorem okA_yes {a : List UInt8} (h : okA a = true) : ∃ r c : Nat, r < 64 ∧ c < 16 ∧ Cab.seatT r c = a := by
  unfold okA at h
  simp only [List.any_eq_true, List.mem_range, beq_iff_eq] at h
  obtain ⟨r, h1, c, h2, h3⟩ := h
  exact ⟨r, c, h1, h2, h3⟩
theorem okA_no {a : List UInt8} (h : okA a = false) {r c : Nat} (h1 : r < 64) (h2 : c < 16) : Cab.seatT r c ≠ a := by
  intro e
  have : okA a = true := by
    unfold okA
    simp only [List.any_eq_true, List.mem_range, beq_iff_eq]
    exact ⟨r, h1, c, h2, e⟩
  rw [h] at this; cases this
theorem mk_data (s : ByteArray) : (⟨s.data.toList.toArray⟩ : ByteArray) = s := by cases s; simp
theorem ParseBig (s : ByteArray) (w : World) (hev : Cab.EV w) :
    Calls Tryz.prog 35 #[.agg #[.int .i64 64, .int .i64 16, .slice none 0 0], .string s] w fun e w' => (∃ i n : Int, e = .returned (.tuple #[.int .i64 i, .int .i64 n]) ∧ (n == 0) = okA s.data.toList) ∧ Below w.heap.size w w' := by
  have hI : Cab.Ints w none [] := fun h => absurd rfl h
  cases h : okA s.data.toList
  case false =>
    refine (Cab.Parse_none 64 16 [] none 0 s w hI (by decide) (by decide) hev (fun row col h1 h2 => okA_no h (by omega) (by omega))).mono ?_
    rintro e w' ⟨rfl, hb⟩
    exact ⟨⟨0, 140, rfl, by decide⟩, hb⟩
  case true =>
    obtain ⟨r, c, h1, h2, h3⟩ := okA_yes h
    have := Cab.Parse_seat 64 16 [] none 0 r c w hI (by decide) (by decide) hev (by omega) (by omega)
    rw [h3, mk_data] at this
    refine this.mono ?_
    rintro e w' ⟨rfl, hb⟩
    exact ⟨⟨_, 0, rfl, by decide⟩, hb⟩
theorem CodParse (s : ByteArray) (w : World) (ht : Cod.Tab w) :
    Calls Tryz.prog 36 #[.string s] w fun e w' => (∃ i j n : Int, e = .returned (.tuple #[.int .u32 i, .int .i64 j, .int .i64 n]) ∧ (n == 0) = okB s.data.toList) ∧ Below w.heap.size w w' := by
  have h := Cod.Parse s (Cod.lead s 8) (Cod.lead_le s 8) (Cod.lead_good s 8) (Cod.lead_bad s 8) w ht
  refine h.mono ?_
  rintro e w' ⟨rfl, rfl⟩
  refine ⟨⟨_, _, _, rfl, ?_⟩, Below.refl _ _⟩
  unfold okB Cod.answer
  rw [mk_data]
  rw [Bool.eq_iff_iff, beq_iff_eq, beq_iff_eq]
  omega

def readV (s : ByteArray) : Option Ln :=
  if Lib.hasSuffix s.data.toList [10] then
    match piecesB ⟨(Lib.trimSuffix s.data.toList [10]).toArray⟩ with
    | [a, b, h] => if okA a.data.toList && (okB b.data.toList && how h.data.toList) then some ⟨a, b, h.data.toList == heldW⟩ else none
    | _ => none
  else none
def ReadOut (s : ByteArray) (w : World) (e : Ending) (w' : World) : Prop := (∃ x : Ln, e = .returned (.tuple #[.agg (lineL x).toArray, .bool (readV s).isSome]) ∧ ∀ y, readV s = some y → x = y) ∧ Below w.heap.size w w'
theorem line_info_size : (Tryz.prog.info? 74).map (·.size) = some 3 := by kernel_rfl
theorem held_yes {h : ByteArray} (e : (h.data.toList == heldW) = true) : h.toList = [104, 101, 108, 100] := by
  rw [Lib.toList_data]; exact beq_iff_eq.1 e
theorem held_no {h : ByteArray} (e : (h.data.toList == heldW) = false) : ¬ h.toList = [104, 101, 108, 100] := by
  rw [Lib.toList_data]; intro k; rw [k] at e; exact absurd e (by decide)
theorem conf_yes {h : ByteArray} (e : (h.data.toList == confW) = true) : h.toList = [99, 111, 110, 102, 105, 114, 109, 101, 100] := by
  rw [Lib.toList_data]; exact beq_iff_eq.1 e
theorem conf_no {h : ByteArray} (e : (h.data.toList == confW) = false) : ¬ h.toList = [99, 111, 110, 102, 105, 114, 109, 101, 100] := by
  rw [Lib.toList_data]; intro k; rw [k] at e; exact absurd e (by decide)
theorem beq_no {a b : List UInt8} (h : ¬ a = b) : (a == b) = false := by simpa using h
set_option maxRecDepth 100000 in
set_option maxHeartbeats 2000000 in
theorem read_in (s : ByteArray) (m : Int) (w : World) (hs : s.size ≤ 25000) (hev : Cab.EV w) (ht : Cod.Tab w) (hm : w.cell? ⟨1, 0, none⟩ = some (.int .i64 m)) :
    Calls Tryz.prog 59 #[.string s] w (ReadOut s w) := by
  have hval : ∀ (T : ByteArray), (⟨(Lib.trimSuffix s.data.toList [10]).toArray⟩ : ByteArray) = T → ∀ (ok : Bool), Lib.hasSuffix s.data.toList [10] = ok → readV s = if ok then (match piecesB T with
    | [a, b, h] => if okA a.data.toList && (okB b.data.toList && how h.data.toList) then some ⟨a, b, h.data.toList == heldW⟩ else none
    | _ => none) else none := by
    intro T hT ok hok; subst hT hok; rfl
  have hTs : (⟨(Lib.trimSuffix s.data.toList [10]).toArray⟩ : ByteArray).size ≤ 25000 := by
    rw [Lib.size_eq]
    have := Lib.trimSuffix_le s.data.toList [10]
    rw [← Lib.size_eq] at this
    simpa using Nat.le_trans this hs
  have hCS := fun W => Tryz.strings_CutSuffix s ⟨#[10]⟩ W (by omega)
  obtain ⟨T, hT⟩ : ∃ T : ByteArray, ⟨(Lib.trimSuffix s.data.toList [10]).toArray⟩ = T := ⟨_, rfl⟩
  obtain ⟨ok, hok⟩ : ∃ ok, Lib.hasSuffix s.data.toList [10] = ok := ⟨_, rfl⟩
  have hval := hval T hT ok hok
  rw [show ((⟨#[10]⟩ : ByteArray)).data.toList = [10] from rfl, hT, hok] at hCS
  rw [hT] at hTs
  have hSP := fun (W : World) hW => Tryz.strings_Split T ⟨#[32]⟩ m W (by omega) hW (by decide)
  rw [← pieces_len, show Lib.splitB (⟨#[32]⟩ : ByteArray) 0 (Lib.countB T ⟨#[32]⟩) T = piecesB T from rfl] at hSP
  obtain ⟨P, hP⟩ : ∃ P, piecesB T = P := ⟨_, rfl⟩
  rw [hP] at hSP hval
  have HCS := Lib.hid hCS
  have HSP := Lib.hid hSP
  have HVAL := Lib.hid hval
  have HEV := Lib.hid hev
  have HTB := Lib.hid ht
  clear hCS hSP hval hev ht hP hTs hT hok hs
  go_enter Tryz.func59, Tryz.ntmps59
  go_wp2_with fail
  have hm1 : (w.alloc (.cells #[.string ⟨#[]⟩, .string ⟨#[]⟩, .bool false] 74)).cell? ⟨1, 0, none⟩ = some (.int .i64 m) := ((ext_alloc (Below.refl w.heap.size w) _).cell (p := ⟨1, 0, none⟩) (block_lt_of_cell hm)).trans hm
  have hA1 := Arr.fresh w 74 #[.string ⟨#[]⟩, .string ⟨#[]⟩, .bool false]
  have hb1 : Below w.heap.size w (w.alloc (.cells #[.string ⟨#[]⟩, .string ⟨#[]⟩, .bool false] 74)) := ext_alloc (Below.refl _ _) _
  obtain ⟨w1, hw1⟩ : ∃ w1, w.alloc (.cells #[.string ⟨#[]⟩, .string ⟨#[]⟩, .bool false] 74) = w1 := ⟨_, rfl⟩
  obtain ⟨vb, hvb⟩ : ∃ vb, w.heap.size = vb := ⟨_, rfl⟩
  rw [hw1] at hm1 hA1 hb1 ⊢
  rw [hvb] at hA1 ⊢
  have HM1 := Lib.hid hm1; have HA1 := Lib.hid hA1; have HB1 := Lib.hid hb1; have HVB := Lib.hid hvb
  clear hm1 hA1 hb1 hw1 hvb hm
  refine (HCS.out w1).mono ?_
  rintro e w1' ⟨rfl, hww⟩
  subst hww
  go_wp2_with fail
  refine (HSP.out _ HM1.out).mono ?_
  rintro e w2 ⟨rfl, hw2⟩
  have hA2 := HA1.out.alloc (.cells (P.map Value.string).toArray 9)
  have hP2 := Arr.fresh w1' 9 (P.map Value.string).toArray
  have hb2 := ext_alloc HB1.out (.cells (P.map Value.string).toArray 9)
  rw [← hw2] at hA2 hP2 hb2
  obtain ⟨pb, hpb⟩ : ∃ pb, w1'.heap.size = pb := ⟨_, rfl⟩
  rw [hpb] at hP2 ⊢
  have hvp : vb < pb := by rw [← hpb]; exact HA1.out.lt
  have HA2 := Lib.hid hA2; have HP2 := Lib.hid hP2; have HB2 := Lib.hid hb2; have HVP := Lib.hid hvp
  clear hA2 hP2 hb2 hpb hvp hw2
  cases ok
  case false =>
    have HNO := Lib.hid (show readV s = none from HVAL.out)
    clear HVAL
    go_wp2_with (refine wpList_store_blk rfl 74 _ _ rfl vb 74 _ #[.string ⟨#[]⟩, .string ⟨#[]⟩, .bool false] HA2.out rfl rfl rfl line_info_size (by simp [Value.oneCell']) ?_; intro w3 hA3 hg3 hs3; have HA3 := Lib.hid hA3; have HG3 := Lib.hid hg3; clear hA3 hg3 hs3)
    refine bodyPost_ret (results_cell_tmp Tryz.results59 _ (by rfl) (run_load_blk 74 HA3.out _ Tryz.underlying74 rfl line_info_size)) rfl ⟨⟨⟨⟨#[]⟩, ⟨#[]⟩, false⟩, by rw [HNO.out]; rfl, fun x hx => by rw [HNO.out] at hx; cases hx⟩, ext_only HB2.out HG3.out (by have := HVB.out; omega)⟩
  case true =>
    by_cases h3 : P.length = 3
    · obtain ⟨sa, sb, sh, rfl⟩ : ∃ sa sb sh, P = [sa, sb, sh] := by
        match P, h3 with
        | [a, b, c], _ => exact ⟨a, b, c, rfl⟩
      have hval := HVAL.out
      simp only [if_true] at hval
      have x0 : w2.cell? ⟨pb, 0, none⟩ = some (.string sa) := HP2.out.cell 0
      have x1 : w2.cell? ⟨pb, 1, none⟩ = some (.string sb) := HP2.out.cell 1
      have x2 : w2.cell? ⟨pb, 2, none⟩ = some (.string sh) := HP2.out.cell 2
      cases hh : (sh.data.toList == heldW)
      case true =>
        have q1 := held_yes hh
        have hval2 : readV s = if okA sa.data.toList && okB sb.data.toList then some ⟨sa, sb, true⟩ else none := by rw [hval]; unfold how; rw [hh]; simp
        have HV2 := Lib.hid hval2
        clear hval hval2 HVAL
        go_wp2_with fail
        refine (ParseBig sa w2 (HEV.out.keep HB2.out)).mono ?_
        rintro e w3 ⟨⟨pi, pe, rfl, hpe⟩, hb3⟩
        have HA3 := Lib.hid (HA2.out.keep hb3)
        have HP3 := Lib.hid (HP2.out.keep hb3)
        have HB3 := Lib.hid (ext_trans HB2.out hb3)
        have x0 : w3.cell? ⟨pb, 0, none⟩ = some (.string sa) := HP3.out.cell 0
        have x1 : w3.cell? ⟨pb, 1, none⟩ = some (.string sb) := HP3.out.cell 1
        have x2 : w3.cell? ⟨pb, 2, none⟩ = some (.string sh) := HP3.out.cell 2
        clear hb3
        go_wp2_with fail
        refine (CodParse sb w3 (HTB.out.keep HB3.out)).mono ?_
        rintro e w4 ⟨⟨ci, cj, ce, rfl, hce⟩, hb4⟩
        have HA4 := Lib.hid (HA3.out.keep hb4)
        have HP4 := Lib.hid (HP3.out.keep hb4)
        have HB4 := Lib.hid (ext_trans HB3.out hb4)
        have x0 : w4.cell? ⟨pb, 0, none⟩ = some (.string sa) := HP4.out.cell 0
        have x1 : w4.cell? ⟨pb, 1, none⟩ = some (.string sb) := HP4.out.cell 1
        have x2 : w4.cell? ⟨pb, 2, none⟩ = some (.string sh) := HP4.out.cell 2
        clear hb4
        go_wp2_with fail
        cases ha : okA sa.data.toList
        case false =>
          rw [ha] at hpe HV2
          have HNO := Lib.hid (show readV s = none from HV2.out)
          refine region_any_drew (by kernel_rfl) ?_
          refine AnyTill.any (S := (fun w' => w'.cell? ⟨pb, 0, none⟩ = some (.string sa) ∧ w'.cell? ⟨pb, 1, none⟩ = some (.string sb) ∧ w'.cell? ⟨pb, 2, none⟩ = some (.string sh))) (t := 17) _ _ _ _ ?_
          have hHeld := (show (fun w' => w'.cell? ⟨pb, 0, none⟩ = some (.string sa) ∧ w'.cell? ⟨pb, 1, none⟩ = some (.string sb) ∧ w'.cell? ⟨pb, 2, none⟩ = some (.string sh)) w4.drew from ⟨x0, x1, x2⟩)
          refine till_take (i := 0) (oi := ?o1) (d := (some 54)) (v := ?v1) ?hi1 (by kernel_rfl) (by kernel_rfl) (by kernel_rfl) (by kernel_rfl) (by kernel_rfl) (fun _ _ _ h => h) ?hd1 ?hw1 ?hy1 hHeld ?_
          case hi1 => (simp only [List.getElem?_toArray, List.getElem?_cons_zero]; exact rfl)
          case hd1 => rfl
          case hw1 => rfl
          case hy1 => (intro w hSw; (try dsimp only at hSw); go_simp; try with_reducible rfl)
          try simp only [Act.put, List.setIfInBounds_toArray, List.set_cons_zero, List.set_cons_succ]
          refine till_take (i := 1) (oi := ?o2) (d := (some 55)) (v := ?v2) ?hi2 (by kernel_rfl) (by kernel_rfl) (by kernel_rfl) (by kernel_rfl) (by kernel_rfl) (fun _ _ _ h => h) ?hd2 ?hw2 ?hy2 hHeld ?_
          case hi2 => (simp only [List.getElem?_toArray, List.getElem?_cons_zero, List.getElem?_cons_succ]; exact rfl)
          case hd2 => rfl
          case hw2 => rfl
          case hy2 => (intro w hSw; (try dsimp only at hSw); go_simp; try with_reducible rfl)
          try simp only [Act.put, List.setIfInBounds_toArray, List.set_cons_zero, List.set_cons_succ]
          refine till_take (i := 2) (oi := ?o3) (d := (some 56)) (v := ?v3) ?hi3 (by kernel_rfl) (by kernel_rfl) (by kernel_rfl) (by kernel_rfl) (by kernel_rfl) (fun _ _ _ h => h) ?hd3 ?hw3 ?hy3 hHeld ?_
          case hi3 => (simp only [List.getElem?_toArray, List.getElem?_cons_zero, List.getElem?_cons_succ]; exact rfl)
          case hd3 => rfl
          case hw3 => rfl
          case hy3 => (intro w hSw; (try dsimp only at hSw); go_simp; try with_reducible rfl)
          try simp only [Act.put, List.setIfInBounds_toArray, List.set_cons_zero, List.set_cons_succ]
          refine till_take (i := 3) (oi := ?o4) (d := (some 57)) (v := ?v4) ?hi4 (by kernel_rfl) (by kernel_rfl) (by kernel_rfl) (by kernel_rfl) (by kernel_rfl) (fun _ _ _ h => h) ?hd4 ?hw4 ?hy4 hHeld ?_
          case hi4 => (simp only [List.getElem?_toArray, List.getElem?_cons_zero, List.getElem?_cons_succ]; exact rfl)
          case hd4 => rfl
          case hw4 => rfl
          case hy4 => (intro w hSw; (try dsimp only at hSw); go_simp; try with_reducible rfl)
          try simp only [Act.put, List.setIfInBounds_toArray, List.set_cons_zero, List.set_cons_succ]
          refine till_take (i := 4) (oi := ?o5) (d := (some 58)) (v := ?v5) ?hi5 (by kernel_rfl) (by kernel_rfl) (by kernel_rfl) (by kernel_rfl) (by kernel_rfl) (fun _ _ _ h => h) ?hd5 ?hw5 ?hy5 hHeld ?_
          case hi5 => (simp only [List.getElem?_toArray, List.getElem?_cons_zero, List.getElem?_cons_succ]; exact rfl)
          case hd5 => rfl
          case hw5 => rfl
          case hy5 => (intro w hSw; (try dsimp only at hSw); go_simp; try with_reducible rfl)
          try simp only [Act.put, List.setIfInBounds_toArray, List.set_cons_zero, List.set_cons_succ]
          refine till_take (i := 5) (oi := ?o6) (d := (some 59)) (v := ?v6) ?hi6 (by kernel_rfl) (by kernel_rfl) (by kernel_rfl) (by kernel_rfl) (by kernel_rfl) (fun _ _ _ h => h) ?hd6 ?hw6 ?hy6 hHeld ?_
          case hi6 => (simp only [List.getElem?_toArray, List.getElem?_cons_zero, List.getElem?_cons_succ]; exact rfl)
          case hd6 => rfl
          case hw6 => rfl
          case hy6 => (intro w hSw; (try dsimp only at hSw); go_simp; try with_reducible rfl)
          try simp only [Act.put, List.setIfInBounds_toArray, List.set_cons_zero, List.set_cons_succ]
          refine till_take (i := 6) (oi := ?o7) (d := (some 60)) (v := ?v7) ?hi7 (by kernel_rfl) (by kernel_rfl) (by kernel_rfl) (by kernel_rfl) (by kernel_rfl) (fun _ _ _ h => h) ?hd7 ?hw7 ?hy7 hHeld ?_
          case hi7 => (simp only [List.getElem?_toArray, List.getElem?_cons_zero, List.getElem?_cons_succ]; exact rfl)
          case hd7 => rfl
          case hw7 => rfl
          case hy7 => (intro w hSw; (try dsimp only at hSw); go_simp; try with_reducible rfl)
          try simp only [Act.put, List.setIfInBounds_toArray, List.set_cons_zero, List.set_cons_succ]
          refine till_take (i := 7) (oi := ?o8) (d := (some 61)) (v := ?v8) ?hi8 (by kernel_rfl) (by kernel_rfl) (by kernel_rfl) (by kernel_rfl) (by kernel_rfl) (fun _ _ _ h => h) ?hd8 ?hw8 ?hy8 hHeld ?_
          case hi8 => (simp only [List.getElem?_toArray, List.getElem?_cons_zero, List.getElem?_cons_succ]; exact rfl)
          case hd8 => rfl
          case hw8 => rfl
          case hy8 => (intro w hSw; (try dsimp only at hSw); go_simp; try with_reducible rfl)
          try simp only [Act.put, List.setIfInBounds_toArray, List.set_cons_zero, List.set_cons_succ]
          refine till_take (i := 8) (oi := ?o9) (d := (some 62)) (v := ?v9) ?hi9 (by kernel_rfl) (by kernel_rfl) (by kernel_rfl) (by kernel_rfl) (by kernel_rfl) (fun _ _ _ h => h) ?hd9 ?hw9 ?hy9 hHeld ?_
          case hi9 => (simp only [List.getElem?_toArray, List.getElem?_cons_zero, List.getElem?_cons_succ]; exact rfl)
          case hd9 => rfl
          case hw9 => rfl
          case hy9 => (intro w hSw; (try dsimp only at hSw); go_simp; try with_reducible rfl)
          try simp only [Act.put, List.setIfInBounds_toArray, List.set_cons_zero, List.set_cons_succ]
          refine till_take (i := 9) (oi := ?o10) (d := (some 63)) (v := ?v10) ?hi10 (by kernel_rfl) (by kernel_rfl) (by kernel_rfl) (by kernel_rfl) (by kernel_rfl) (fun _ _ _ h => h) ?hd10 ?hw10 ?hy10 hHeld ?_
          case hi10 => (simp only [List.getElem?_toArray, List.getElem?_cons_zero, List.getElem?_cons_succ]; exact rfl)
          case hd10 => rfl
          case hw10 => rfl
          case hy10 => (intro w hSw; (try dsimp only at hSw); go_simp; try with_reducible rfl)
          try simp only [Act.put, List.setIfInBounds_toArray, List.set_cons_zero, List.set_cons_succ]
          refine till_take (i := 10) (oi := ?o11) (d := (some 64)) (v := ?v11) ?hi11 (by kernel_rfl) (by kernel_rfl) (by kernel_rfl) (by kernel_rfl) (by kernel_rfl) (fun _ _ _ h => h) ?hd11 ?hw11 ?hy11 hHeld ?_
          case hi11 => (simp only [List.getElem?_toArray, List.getElem?_cons_zero, List.getElem?_cons_succ]; exact rfl)
          case hd11 => rfl
          case hw11 => rfl
          case hy11 => (intro w hSw; (try dsimp only at hSw); go_simp; try with_reducible rfl)
          try simp only [Act.put, List.setIfInBounds_toArray, List.set_cons_zero, List.set_cons_succ]
          refine till_pure (i := 11) (oi := ?o12) (d := (some 65)) (v := ?v12) ?hi12 (by kernel_rfl) (by kernel_rfl) (by kernel_rfl) (by kernel_rfl) (fun _ _ _ h => h) ?hd12 ?hw12 ?hy12 hHeld ?_
          case hi12 => (simp only [List.getElem?_toArray, List.getElem?_cons_zero, List.getElem?_cons_succ]; exact rfl)
          case hd12 => rfl
          case hw12 => rfl
          case hy12 => (intro w; go_simp; try with_reducible rfl)
          try simp only [Act.put, List.setIfInBounds_toArray, List.set_cons_zero, List.set_cons_succ]
          refine till_pure (i := 12) (oi := ?o13) (d := (some 66)) (v := ?v13) ?hi13 (by kernel_rfl) (by kernel_rfl) (by kernel_rfl) (by kernel_rfl) (fun _ _ _ h => h) ?hd13 ?hw13 ?hy13 hHeld ?_
          case hi13 => (simp only [List.getElem?_toArray, List.getElem?_cons_zero, List.getElem?_cons_succ]; exact rfl)
          case hd13 => rfl
          case hw13 => rfl
          case hy13 => (intro w; go_simp; try with_reducible rfl)
          try simp only [Act.put, List.setIfInBounds_toArray, List.set_cons_zero, List.set_cons_succ]
          refine till_pure (i := 13) (oi := ?o14) (d := (some 67)) (v := ?v14) ?hi14 (by kernel_rfl) (by kernel_rfl) (by kernel_rfl) (by kernel_rfl) (fun _ _ _ h => h) ?hd14 ?hw14 ?hy14 hHeld ?_
          case hi14 => (simp only [List.getElem?_toArray, List.getElem?_cons_zero, List.getElem?_cons_succ]; exact rfl)
          case hd14 => rfl
          case hw14 => rfl
          case hy14 => (intro w; go_simp; try with_reducible rfl)
          try simp only [Act.put, List.setIfInBounds_toArray, List.set_cons_zero, List.set_cons_succ]
          refine till_no (i := 14) (oi := ?o15) (d := (some 68)) ?hi15 (by kernel_rfl) (by kernel_rfl) (by kernel_rfl) (by kernel_rfl) (fun _ _ _ h => h) ?hd15 ?hw15 hHeld ?_
          case hi15 => (simp only [List.getElem?_toArray, List.getElem?_cons_zero, List.getElem?_cons_succ]; exact rfl)
          case hd15 => rfl
          case hw15 => rfl
          try simp only [Act.put, List.setIfInBounds_toArray, List.set_cons_zero, List.set_cons_succ]
          refine till_no (i := 15) (oi := ?o16) (d := (some 69)) ?hi16 (by kernel_rfl) (by kernel_rfl) (by kernel_rfl) (by kernel_rfl) (fun _ _ _ h => h) ?hd16 ?hw16 hHeld ?_
          case hi16 => (simp only [List.getElem?_toArray, List.getElem?_cons_zero, List.getElem?_cons_succ]; exact rfl)
          case hd16 => rfl
          case hw16 => rfl
          try simp only [Act.put, List.setIfInBounds_toArray, List.set_cons_zero, List.set_cons_succ]
          refine till_pure (i := 16) (oi := ?o17) (d := (some 70)) (v := ?v17) ?hi17 (by kernel_rfl) (by kernel_rfl) (by kernel_rfl) (by kernel_rfl) (fun _ _ _ h => h) ?hd17 ?hw17 ?hy17 hHeld ?_
          case hi17 => (simp only [List.getElem?_toArray, List.getElem?_cons_zero, List.getElem?_cons_succ]; exact rfl)
          case hd17 => rfl
          case hw17 => rfl
          case hy17 => (intro w; go_simp; try with_reducible rfl)
          try simp only [Act.put, List.setIfInBounds_toArray, List.set_cons_zero, List.set_cons_succ]
          refine AnyTill.last (by kernel_rfl) ?_
          refine any_drop 17 (by kernel_rfl) (by kernel_rfl) ?_
          simp only [List.drop_succ_cons, List.drop_zero]
          go_wp2_with (refine wpList_store_blk rfl 74 _ _ rfl vb 74 _ #[.string sa, .string sb, .bool true] HA4.out rfl rfl rfl line_info_size (by simp [Value.oneCell']) ?_; intro w5 hA5 hg5 hs5; have HA5 := Lib.hid hA5; have HG5 := Lib.hid hg5; clear hA5 hg5 hs5)
          refine bodyPost_ret (results_cell_tmp Tryz.results59 _ (by rfl) (run_load_blk 74 HA5.out _ Tryz.underlying74 rfl line_info_size)) rfl ⟨⟨⟨sa, sb, true⟩, by rw [HNO.out]; rfl, fun x hx => by rw [HNO.out] at hx; cases hx⟩, ext_only (ext_drew HB4.out) HG5.out (by have := HVB.out; omega)⟩
        case true =>
          rw [ha] at hpe HV2
          cases hb : okB sb.data.toList
          case false =>
            rw [hb] at hce HV2
            have HNO := Lib.hid (show readV s = none from HV2.out)
            refine region_any_drew (by kernel_rfl) ?_
            refine AnyTill.any (S := (fun w' => w'.cell? ⟨pb, 0, none⟩ = some (.string sa) ∧ w'.cell? ⟨pb, 1, none⟩ = some (.string sb) ∧ w'.cell? ⟨pb, 2, none⟩ = some (.string sh))) (t := 17) _ _ _ _ ?_
            have hHeld := (show (fun w' => w'.cell? ⟨pb, 0, none⟩ = some (.string sa) ∧ w'.cell? ⟨pb, 1, none⟩ = some (.string sb) ∧ w'.cell? ⟨pb, 2, none⟩ = some (.string sh)) w4.drew from ⟨x0, x1, x2⟩)
            refine till_take (i := 0) (oi := ?o18) (d := (some 54)) (v := ?v18) ?hi18 (by kernel_rfl) (by kernel_rfl) (by kernel_rfl) (by kernel_rfl) (by kernel_rfl) (fun _ _ _ h => h) ?hd18 ?hw18 ?hy18 hHeld ?_
            case hi18 => (simp only [List.getElem?_toArray, List.getElem?_cons_zero]; exact rfl)
            case hd18 => rfl
            case hw18 => rfl
            case hy18 => (intro w hSw; (try dsimp only at hSw); go_simp; try with_reducible rfl)
            try simp only [Act.put, List.setIfInBounds_toArray, List.set_cons_zero, List.set_cons_succ]
            refine till_take (i := 1) (oi := ?o19) (d := (some 55)) (v := ?v19) ?hi19 (by kernel_rfl) (by kernel_rfl) (by kernel_rfl) (by kernel_rfl) (by kernel_rfl) (fun _ _ _ h => h) ?hd19 ?hw19 ?hy19 hHeld ?_
            case hi19 => (simp only [List.getElem?_toArray, List.getElem?_cons_zero, List.getElem?_cons_succ]; exact rfl)
            case hd19 => rfl
            case hw19 => rfl
            case hy19 => (intro w hSw; (try dsimp only at hSw); go_simp; try with_reducible rfl)
            try simp only [Act.put, List.setIfInBounds_toArray, List.set_cons_zero, List.set_cons_succ]
            refine till_take (i := 2) (oi := ?o20) (d := (some 56)) (v := ?v20) ?hi20 (by kernel_rfl) (by kernel_rfl) (by kernel_rfl) (by kernel_rfl) (by kernel_rfl) (fun _ _ _ h => h) ?hd20 ?hw20 ?hy20 hHeld ?_
            case hi20 => (simp only [List.getElem?_toArray, List.getElem?_cons_zero, List.getElem?_cons_succ]; exact rfl)
            case hd20 => rfl
            case hw20 => rfl
            case hy20 => (intro w hSw; (try dsimp only at hSw); go_simp; try with_reducible rfl)
            try simp only [Act.put, List.setIfInBounds_toArray, List.set_cons_zero, List.set_cons_succ]
            refine till_take (i := 3) (oi := ?o21) (d := (some 57)) (v := ?v21) ?hi21 (by kernel_rfl) (by kernel_rfl) (by kernel_rfl) (by kernel_rfl) (by kernel_rfl) (fun _ _ _ h => h) ?hd21 ?hw21 ?hy21 hHeld ?_
            case hi21 => (simp only [List.getElem?_toArray, List.getElem?_cons_zero, List.getElem?_cons_succ]; exact rfl)
            case hd21 => rfl
            case hw21 => rfl
            case hy21 => (intro w hSw; (try dsimp only at hSw); go_simp; try with_reducible rfl)
            try simp only [Act.put, List.setIfInBounds_toArray, List.set_cons_zero, List.set_cons_succ]
            refine till_take (i := 4) (oi := ?o22) (d := (some 58)) (v := ?v22) ?hi22 (by kernel_rfl) (by kernel_rfl) (by kernel_rfl) (by kernel_rfl) (by kernel_rfl) (fun _ _ _ h => h) ?hd22 ?hw22 ?hy22 hHeld ?_
            case hi22 => (simp only [List.getElem?_toArray, List.getElem?_cons_zero, List.getElem?_cons_succ]; exact rfl)
            case hd22 => rfl
            case hw22 => rfl
            case hy22 => (intro w hSw; (try dsimp only at hSw); go_simp; try with_reducible rfl)
            try simp only [Act.put, List.setIfInBounds_toArray, List.set_cons_zero, List.set_cons_succ]
            refine till_take (i := 5) (oi := ?o23) (d := (some 59)) (v := ?v23) ?hi23 (by kernel_rfl) (by kernel_rfl) (by kernel_rfl) (by kernel_rfl) (by kernel_rfl) (fun _ _ _ h => h) ?hd23 ?hw23 ?hy23 hHeld ?_
            case hi23 => (simp only [List.getElem?_toArray, List.getElem?_cons_zero, List.getElem?_cons_succ]; exact rfl)
            case hd23 => rfl
            case hw23 => rfl
            case hy23 => (intro w hSw; (try dsimp only at hSw); go_simp; try with_reducible rfl)
            try simp only [Act.put, List.setIfInBounds_toArray, List.set_cons_zero, List.set_cons_succ]
            refine till_take (i := 6) (oi := ?o24) (d := (some 60)) (v := ?v24) ?hi24 (by kernel_rfl) (by kernel_rfl) (by kernel_rfl) (by kernel_rfl) (by kernel_rfl) (fun _ _ _ h => h) ?hd24 ?hw24 ?hy24 hHeld ?_
            case hi24 => (simp only [List.getElem?_toArray, List.getElem?_cons_zero, List.getElem?_cons_succ]; exact rfl)
            case hd24 => rfl
            case hw24 => rfl
            case hy24 => (intro w hSw; (try dsimp only at hSw); go_simp; try with_reducible rfl)
            try simp only [Act.put, List.setIfInBounds_toArray, List.set_cons_zero, List.set_cons_succ]
            refine till_take (i := 7) (oi := ?o25) (d := (some 61)) (v := ?v25) ?hi25 (by kernel_rfl) (by kernel_rfl) (by kernel_rfl) (by kernel_rfl) (by kernel_rfl) (fun _ _ _ h => h) ?hd25 ?hw25 ?hy25 hHeld ?_
            case hi25 => (simp only [List.getElem?_toArray, List.getElem?_cons_zero, List.getElem?_cons_succ]; exact rfl)
            case hd25 => rfl
            case hw25 => rfl
            case hy25 => (intro w hSw; (try dsimp only at hSw); go_simp; try with_reducible rfl)
            try simp only [Act.put, List.setIfInBounds_toArray, List.set_cons_zero, List.set_cons_succ]
            refine till_take (i := 8) (oi := ?o26) (d := (some 62)) (v := ?v26) ?hi26 (by kernel_rfl) (by kernel_rfl) (by kernel_rfl) (by kernel_rfl) (by kernel_rfl) (fun _ _ _ h => h) ?hd26 ?hw26 ?hy26 hHeld ?_
            case hi26 => (simp only [List.getElem?_toArray, List.getElem?_cons_zero, List.getElem?_cons_succ]; exact rfl)
            case hd26 => rfl
            case hw26 => rfl
            case hy26 => (intro w hSw; (try dsimp only at hSw); go_simp; try with_reducible rfl)
            try simp only [Act.put, List.setIfInBounds_toArray, List.set_cons_zero, List.set_cons_succ]
            refine till_take (i := 9) (oi := ?o27) (d := (some 63)) (v := ?v27) ?hi27 (by kernel_rfl) (by kernel_rfl) (by kernel_rfl) (by kernel_rfl) (by kernel_rfl) (fun _ _ _ h => h) ?hd27 ?hw27 ?hy27 hHeld ?_
            case hi27 => (simp only [List.getElem?_toArray, List.getElem?_cons_zero, List.getElem?_cons_succ]; exact rfl)
            case hd27 => rfl
            case hw27 => rfl
            case hy27 => (intro w hSw; (try dsimp only at hSw); go_simp; try with_reducible rfl)
            try simp only [Act.put, List.setIfInBounds_toArray, List.set_cons_zero, List.set_cons_succ]
            refine till_take (i := 10) (oi := ?o28) (d := (some 64)) (v := ?v28) ?hi28 (by kernel_rfl) (by kernel_rfl) (by kernel_rfl) (by kernel_rfl) (by kernel_rfl) (fun _ _ _ h => h) ?hd28 ?hw28 ?hy28 hHeld ?_
            case hi28 => (simp only [List.getElem?_toArray, List.getElem?_cons_zero, List.getElem?_cons_succ]; exact rfl)
            case hd28 => rfl
            case hw28 => rfl
            case hy28 => (intro w hSw; (try dsimp only at hSw); go_simp; try with_reducible rfl)
            try simp only [Act.put, List.setIfInBounds_toArray, List.set_cons_zero, List.set_cons_succ]
            refine till_pure (i := 11) (oi := ?o29) (d := (some 65)) (v := ?v29) ?hi29 (by kernel_rfl) (by kernel_rfl) (by kernel_rfl) (by kernel_rfl) (fun _ _ _ h => h) ?hd29 ?hw29 ?hy29 hHeld ?_
            case hi29 => (simp only [List.getElem?_toArray, List.getElem?_cons_zero, List.getElem?_cons_succ]; exact rfl)
            case hd29 => rfl
            case hw29 => rfl
            case hy29 => (intro w; go_simp; try with_reducible rfl)
            try simp only [Act.put, List.setIfInBounds_toArray, List.set_cons_zero, List.set_cons_succ]
            refine till_pure (i := 12) (oi := ?o30) (d := (some 66)) (v := ?v30) ?hi30 (by kernel_rfl) (by kernel_rfl) (by kernel_rfl) (by kernel_rfl) (fun _ _ _ h => h) ?hd30 ?hw30 ?hy30 hHeld ?_
            case hi30 => (simp only [List.getElem?_toArray, List.getElem?_cons_zero, List.getElem?_cons_succ]; exact rfl)
            case hd30 => rfl
            case hw30 => rfl
            case hy30 => (intro w; go_simp; try with_reducible rfl)
            try simp only [Act.put, List.setIfInBounds_toArray, List.set_cons_zero, List.set_cons_succ]
            refine till_pure (i := 13) (oi := ?o31) (d := (some 67)) (v := ?v31) ?hi31 (by kernel_rfl) (by kernel_rfl) (by kernel_rfl) (by kernel_rfl) (fun _ _ _ h => h) ?hd31 ?hw31 ?hy31 hHeld ?_
            case hi31 => (simp only [List.getElem?_toArray, List.getElem?_cons_zero, List.getElem?_cons_succ]; exact rfl)
            case hd31 => rfl
            case hw31 => rfl
            case hy31 => (intro w; go_simp; try with_reducible rfl)
            try simp only [Act.put, List.setIfInBounds_toArray, List.set_cons_zero, List.set_cons_succ]
            refine till_pure (i := 14) (oi := ?o32) (d := (some 68)) (v := ?v32) ?hi32 (by kernel_rfl) (by kernel_rfl) (by kernel_rfl) (by kernel_rfl) (fun _ _ _ h => h) ?hd32 ?hw32 ?hy32 hHeld ?_
            case hi32 => (simp only [List.getElem?_toArray, List.getElem?_cons_zero, List.getElem?_cons_succ]; exact rfl)
            case hd32 => rfl
            case hw32 => rfl
            case hy32 => (intro w; go_simp; try with_reducible rfl)
            try simp only [Act.put, List.setIfInBounds_toArray, List.set_cons_zero, List.set_cons_succ]
            refine till_pure (i := 15) (oi := ?o33) (d := (some 69)) (v := ?v33) ?hi33 (by kernel_rfl) (by kernel_rfl) (by kernel_rfl) (by kernel_rfl) (fun _ _ _ h => h) ?hd33 ?hw33 ?hy33 hHeld ?_
            case hi33 => (simp only [List.getElem?_toArray, List.getElem?_cons_zero, List.getElem?_cons_succ]; exact rfl)
            case hd33 => rfl
            case hw33 => rfl
            case hy33 => (intro w; go_simp; try with_reducible rfl)
            try simp only [Act.put, List.setIfInBounds_toArray, List.set_cons_zero, List.set_cons_succ]
            refine till_pure (i := 16) (oi := ?o34) (d := (some 70)) (v := ?v34) ?hi34 (by kernel_rfl) (by kernel_rfl) (by kernel_rfl) (by kernel_rfl) (fun _ _ _ h => h) ?hd34 ?hw34 ?hy34 hHeld ?_
            case hi34 => (simp only [List.getElem?_toArray, List.getElem?_cons_zero, List.getElem?_cons_succ]; exact rfl)
            case hd34 => rfl
            case hw34 => rfl
            case hy34 => (intro w; go_simp; try with_reducible rfl)
            try simp only [Act.put, List.setIfInBounds_toArray, List.set_cons_zero, List.set_cons_succ]
            refine AnyTill.last (by kernel_rfl) ?_
            refine any_drop 17 (by kernel_rfl) (by kernel_rfl) ?_
            simp only [List.drop_succ_cons, List.drop_zero]
            go_wp2_with (refine wpList_store_blk rfl 74 _ _ rfl vb 74 _ #[.string sa, .string sb, .bool true] HA4.out rfl rfl rfl line_info_size (by simp [Value.oneCell']) ?_; intro w5 hA5 hg5 hs5; have HA5 := Lib.hid hA5; have HG5 := Lib.hid hg5; clear hA5 hg5 hs5)
            refine bodyPost_ret (results_cell_tmp Tryz.results59 _ (by rfl) (run_load_blk 74 HA5.out _ Tryz.underlying74 rfl line_info_size)) rfl ⟨⟨⟨sa, sb, true⟩, by rw [HNO.out]; rfl, fun x hx => by rw [HNO.out] at hx; cases hx⟩, ext_only (ext_drew HB4.out) HG5.out (by have := HVB.out; omega)⟩
          case true =>
            rw [hb] at hce HV2
            have HNO := Lib.hid (show readV s = some ⟨sa, sb, true⟩ from HV2.out)
            refine region_any_drew (by kernel_rfl) ?_
            refine AnyTill.any (S := (fun w' => w'.cell? ⟨pb, 0, none⟩ = some (.string sa) ∧ w'.cell? ⟨pb, 1, none⟩ = some (.string sb) ∧ w'.cell? ⟨pb, 2, none⟩ = some (.string sh))) (t := 17) _ _ _ _ ?_
            have hHeld := (show (fun w' => w'.cell? ⟨pb, 0, none⟩ = some (.string sa) ∧ w'.cell? ⟨pb, 1, none⟩ = some (.string sb) ∧ w'.cell? ⟨pb, 2, none⟩ = some (.string sh)) w4.drew from ⟨x0, x1, x2⟩)
            refine till_take (i := 0) (oi := ?o35) (d := (some 54)) (v := ?v35) ?hi35 (by kernel_rfl) (by kernel_rfl) (by kernel_rfl) (by kernel_rfl) (by kernel_rfl) (fun _ _ _ h => h) ?hd35 ?hw35 ?hy35 hHeld ?_
            case hi35 => (simp only [List.getElem?_toArray, List.getElem?_cons_zero]; exact rfl)
            case hd35 => rfl
            case hw35 => rfl
            case hy35 => (intro w hSw; (try dsimp only at hSw); go_simp; try with_reducible rfl)
            try simp only [Act.put, List.setIfInBounds_toArray, List.set_cons_zero, List.set_cons_succ]
            refine till_take (i := 1) (oi := ?o36) (d := (some 55)) (v := ?v36) ?hi36 (by kernel_rfl) (by kernel_rfl) (by kernel_rfl) (by kernel_rfl) (by kernel_rfl) (fun _ _ _ h => h) ?hd36 ?hw36 ?hy36 hHeld ?_
            case hi36 => (simp only [List.getElem?_toArray, List.getElem?_cons_zero, List.getElem?_cons_succ]; exact rfl)
            case hd36 => rfl
            case hw36 => rfl
            case hy36 => (intro w hSw; (try dsimp only at hSw); go_simp; try with_reducible rfl)
            try simp only [Act.put, List.setIfInBounds_toArray, List.set_cons_zero, List.set_cons_succ]
            refine till_take (i := 2) (oi := ?o37) (d := (some 56)) (v := ?v37) ?hi37 (by kernel_rfl) (by kernel_rfl) (by kernel_rfl) (by kernel_rfl) (by kernel_rfl) (fun _ _ _ h => h) ?hd37 ?hw37 ?hy37 hHeld ?_
            case hi37 => (simp only [List.getElem?_toArray, List.getElem?_cons_zero, List.getElem?_cons_succ]; exact rfl)
            case hd37 => rfl
            case hw37 => rfl
            case hy37 => (intro w hSw; (try dsimp only at hSw); go_simp; try with_reducible rfl)
            try simp only [Act.put, List.setIfInBounds_toArray, List.set_cons_zero, List.set_cons_succ]
            refine till_take (i := 3) (oi := ?o38) (d := (some 57)) (v := ?v38) ?hi38 (by kernel_rfl) (by kernel_rfl) (by kernel_rfl) (by kernel_rfl) (by kernel_rfl) (fun _ _ _ h => h) ?hd38 ?hw38 ?hy38 hHeld ?_
            case hi38 => (simp only [List.getElem?_toArray, List.getElem?_cons_zero, List.getElem?_cons_succ]; exact rfl)
            case hd38 => rfl
            case hw38 => rfl
            case hy38 => (intro w hSw; (try dsimp only at hSw); go_simp; try with_reducible rfl)
            try simp only [Act.put, List.setIfInBounds_toArray, List.set_cons_zero, List.set_cons_succ]
            refine till_take (i := 4) (oi := ?o39) (d := (some 58)) (v := ?v39) ?hi39 (by kernel_rfl) (by kernel_rfl) (by kernel_rfl) (by kernel_rfl) (by kernel_rfl) (fun _ _ _ h => h) ?hd39 ?hw39 ?hy39 hHeld ?_
            case hi39 => (simp only [List.getElem?_toArray, List.getElem?_cons_zero, List.getElem?_cons_succ]; exact rfl)
            case hd39 => rfl
            case hw39 => rfl
            case hy39 => (intro w hSw; (try dsimp only at hSw); go_simp; try with_reducible rfl)
            try simp only [Act.put, List.setIfInBounds_toArray, List.set_cons_zero, List.set_cons_succ]
            refine till_take (i := 5) (oi := ?o40) (d := (some 59)) (v := ?v40) ?hi40 (by kernel_rfl) (by kernel_rfl) (by kernel_rfl) (by kernel_rfl) (by kernel_rfl) (fun _ _ _ h => h) ?hd40 ?hw40 ?hy40 hHeld ?_
            case hi40 => (simp only [List.getElem?_toArray, List.getElem?_cons_zero, List.getElem?_cons_succ]; exact rfl)
            case hd40 => rfl
            case hw40 => rfl
            case hy40 => (intro w hSw; (try dsimp only at hSw); go_simp; try with_reducible rfl)
            try simp only [Act.put, List.setIfInBounds_toArray, List.set_cons_zero, List.set_cons_succ]
            refine till_take (i := 6) (oi := ?o41) (d := (some 60)) (v := ?v41) ?hi41 (by kernel_rfl) (by kernel_rfl) (by kernel_rfl) (by kernel_rfl) (by kernel_rfl) (fun _ _ _ h => h) ?hd41 ?hw41 ?hy41 hHeld ?_
            case hi41 => (simp only [List.getElem?_toArray, List.getElem?_cons_zero, List.getElem?_cons_succ]; exact rfl)
            case hd41 => rfl
            case hw41 => rfl
            case hy41 => (intro w hSw; (try dsimp only at hSw); go_simp; try with_reducible rfl)
            try simp only [Act.put, List.setIfInBounds_toArray, List.set_cons_zero, List.set_cons_succ]
            refine till_take (i := 7) (oi := ?o42) (d := (some 61)) (v := ?v42) ?hi42 (by kernel_rfl) (by kernel_rfl) (by kernel_rfl) (by kernel_rfl) (by kernel_rfl) (fun _ _ _ h => h) ?hd42 ?hw42 ?hy42 hHeld ?_
            case hi42 => (simp only [List.getElem?_toArray, List.getElem?_cons_zero, List.getElem?_cons_succ]; exact rfl)
            case hd42 => rfl
            case hw42 => rfl
            case hy42 => (intro w hSw; (try dsimp only at hSw); go_simp; try with_reducible rfl)
            try simp only [Act.put, List.setIfInBounds_toArray, List.set_cons_zero, List.set_cons_succ]
            refine till_take (i := 8) (oi := ?o43) (d := (some 62)) (v := ?v43) ?hi43 (by kernel_rfl) (by kernel_rfl) (by kernel_rfl) (by kernel_rfl) (by kernel_rfl) (fun _ _ _ h => h) ?hd43 ?hw43 ?hy43 hHeld ?_
            case hi43 => (simp only [List.getElem?_toArray, List.getElem?_cons_zero, List.getElem?_cons_succ]; exact rfl)
            case hd43 => rfl
            case hw43 => rfl
            case hy43 => (intro w hSw; (try dsimp only at hSw); go_simp; try with_reducible rfl)
            try simp only [Act.put, List.setIfInBounds_toArray, List.set_cons_zero, List.set_cons_succ]
            refine till_take (i := 9) (oi := ?o44) (d := (some 63)) (v := ?v44) ?hi44 (by kernel_rfl) (by kernel_rfl) (by kernel_rfl) (by kernel_rfl) (by kernel_rfl) (fun _ _ _ h => h) ?hd44 ?hw44 ?hy44 hHeld ?_
            case hi44 => (simp only [List.getElem?_toArray, List.getElem?_cons_zero, List.getElem?_cons_succ]; exact rfl)
            case hd44 => rfl
            case hw44 => rfl
            case hy44 => (intro w hSw; (try dsimp only at hSw); go_simp; try with_reducible rfl)
            try simp only [Act.put, List.setIfInBounds_toArray, List.set_cons_zero, List.set_cons_succ]
            refine till_take (i := 10) (oi := ?o45) (d := (some 64)) (v := ?v45) ?hi45 (by kernel_rfl) (by kernel_rfl) (by kernel_rfl) (by kernel_rfl) (by kernel_rfl) (fun _ _ _ h => h) ?hd45 ?hw45 ?hy45 hHeld ?_
            case hi45 => (simp only [List.getElem?_toArray, List.getElem?_cons_zero, List.getElem?_cons_succ]; exact rfl)
            case hd45 => rfl
            case hw45 => rfl
            case hy45 => (intro w hSw; (try dsimp only at hSw); go_simp; try with_reducible rfl)
            try simp only [Act.put, List.setIfInBounds_toArray, List.set_cons_zero, List.set_cons_succ]
            refine till_pure (i := 11) (oi := ?o46) (d := (some 65)) (v := ?v46) ?hi46 (by kernel_rfl) (by kernel_rfl) (by kernel_rfl) (by kernel_rfl) (fun _ _ _ h => h) ?hd46 ?hw46 ?hy46 hHeld ?_
            case hi46 => (simp only [List.getElem?_toArray, List.getElem?_cons_zero, List.getElem?_cons_succ]; exact rfl)
            case hd46 => rfl
            case hw46 => rfl
            case hy46 => (intro w; go_simp; try with_reducible rfl)
            try simp only [Act.put, List.setIfInBounds_toArray, List.set_cons_zero, List.set_cons_succ]
            refine till_pure (i := 12) (oi := ?o47) (d := (some 66)) (v := ?v47) ?hi47 (by kernel_rfl) (by kernel_rfl) (by kernel_rfl) (by kernel_rfl) (fun _ _ _ h => h) ?hd47 ?hw47 ?hy47 hHeld ?_
            case hi47 => (simp only [List.getElem?_toArray, List.getElem?_cons_zero, List.getElem?_cons_succ]; exact rfl)
            case hd47 => rfl
            case hw47 => rfl
            case hy47 => (intro w; go_simp; try with_reducible rfl)
            try simp only [Act.put, List.setIfInBounds_toArray, List.set_cons_zero, List.set_cons_succ]
            refine till_pure (i := 13) (oi := ?o48) (d := (some 67)) (v := ?v48) ?hi48 (by kernel_rfl) (by kernel_rfl) (by kernel_rfl) (by kernel_rfl) (fun _ _ _ h => h) ?hd48 ?hw48 ?hy48 hHeld ?_
            case hi48 => (simp only [List.getElem?_toArray, List.getElem?_cons_zero, List.getElem?_cons_succ]; exact rfl)
            case hd48 => rfl
            case hw48 => rfl
            case hy48 => (intro w; go_simp; try with_reducible rfl)
            try simp only [Act.put, List.setIfInBounds_toArray, List.set_cons_zero, List.set_cons_succ]
            refine till_pure (i := 14) (oi := ?o49) (d := (some 68)) (v := ?v49) ?hi49 (by kernel_rfl) (by kernel_rfl) (by kernel_rfl) (by kernel_rfl) (fun _ _ _ h => h) ?hd49 ?hw49 ?hy49 hHeld ?_
            case hi49 => (simp only [List.getElem?_toArray, List.getElem?_cons_zero, List.getElem?_cons_succ]; exact rfl)
            case hd49 => rfl
            case hw49 => rfl
            case hy49 => (intro w; go_simp; try with_reducible rfl)
            try simp only [Act.put, List.setIfInBounds_toArray, List.set_cons_zero, List.set_cons_succ]
            refine till_pure (i := 15) (oi := ?o50) (d := (some 69)) (v := ?v50) ?hi50 (by kernel_rfl) (by kernel_rfl) (by kernel_rfl) (by kernel_rfl) (fun _ _ _ h => h) ?hd50 ?hw50 ?hy50 hHeld ?_
            case hi50 => (simp only [List.getElem?_toArray, List.getElem?_cons_zero, List.getElem?_cons_succ]; exact rfl)
            case hd50 => rfl
            case hw50 => rfl
            case hy50 => (intro w; go_simp; try with_reducible rfl)
            try simp only [Act.put, List.setIfInBounds_toArray, List.set_cons_zero, List.set_cons_succ]
            refine till_pure (i := 16) (oi := ?o51) (d := (some 70)) (v := ?v51) ?hi51 (by kernel_rfl) (by kernel_rfl) (by kernel_rfl) (by kernel_rfl) (fun _ _ _ h => h) ?hd51 ?hw51 ?hy51 hHeld ?_
            case hi51 => (simp only [List.getElem?_toArray, List.getElem?_cons_zero, List.getElem?_cons_succ]; exact rfl)
            case hd51 => rfl
            case hw51 => rfl
            case hy51 => (intro w; go_simp; try with_reducible rfl)
            try simp only [Act.put, List.setIfInBounds_toArray, List.set_cons_zero, List.set_cons_succ]
            refine AnyTill.last (by kernel_rfl) ?_
            refine any_drop 17 (by kernel_rfl) (by kernel_rfl) ?_
            simp only [List.drop_succ_cons, List.drop_zero]
            go_wp2_with (refine wpList_store_blk rfl 74 _ _ rfl vb 74 _ #[.string sa, .string sb, .bool true] HA4.out rfl rfl rfl line_info_size (by simp [Value.oneCell']) ?_; intro w5 hA5 hg5 hs5; have HA5 := Lib.hid hA5; have HG5 := Lib.hid hg5; clear hA5 hg5 hs5)
            refine bodyPost_ret (results_cell_tmp Tryz.results59 _ (by rfl) (run_load_blk 74 HA5.out _ Tryz.underlying74 rfl line_info_size)) rfl ⟨⟨⟨sa, sb, true⟩, by rw [HNO.out]; rfl, fun x hx => by rw [HNO.out] at hx; cases hx; rfl⟩, ext_only (ext_drew HB4.out) HG5.out (by have := HVB.out; omega)⟩
      case false =>
        cases hc : (sh.data.toList == confW)
        case true =>
          have q1 := held_no hh
          have q3 := beq_no q1
          have q2 := conf_yes hc
          have hval2 : readV s = if okA sa.data.toList && okB sb.data.toList then some ⟨sa, sb, false⟩ else none := by rw [hval]; unfold how; rw [hh, hc]; simp
          have HV2 := Lib.hid hval2
          clear hval hval2 HVAL
          go_wp2_with fail
          refine (ParseBig sa w2 (HEV.out.keep HB2.out)).mono ?_
          rintro e w3 ⟨⟨pi, pe, rfl, hpe⟩, hb3⟩
          have HA3 := Lib.hid (HA2.out.keep hb3)
          have HP3 := Lib.hid (HP2.out.keep hb3)
          have HB3 := Lib.hid (ext_trans HB2.out hb3)
          have x0 : w3.cell? ⟨pb, 0, none⟩ = some (.string sa) := HP3.out.cell 0
          have x1 : w3.cell? ⟨pb, 1, none⟩ = some (.string sb) := HP3.out.cell 1
          have x2 : w3.cell? ⟨pb, 2, none⟩ = some (.string sh) := HP3.out.cell 2
          clear hb3
          go_wp2_with fail
          refine (CodParse sb w3 (HTB.out.keep HB3.out)).mono ?_
          rintro e w4 ⟨⟨ci, cj, ce, rfl, hce⟩, hb4⟩
          have HA4 := Lib.hid (HA3.out.keep hb4)
          have HP4 := Lib.hid (HP3.out.keep hb4)
          have HB4 := Lib.hid (ext_trans HB3.out hb4)
          have x0 : w4.cell? ⟨pb, 0, none⟩ = some (.string sa) := HP4.out.cell 0
          have x1 : w4.cell? ⟨pb, 1, none⟩ = some (.string sb) := HP4.out.cell 1
          have x2 : w4.cell? ⟨pb, 2, none⟩ = some (.string sh) := HP4.out.cell 2
          clear hb4
          go_wp2_with fail
          cases ha : okA sa.data.toList
          case false =>
            rw [ha] at hpe HV2
            have HNO := Lib.hid (show readV s = none from HV2.out)
            refine region_any_drew (by kernel_rfl) ?_
            refine AnyTill.any (S := (fun w' => w'.cell? ⟨pb, 0, none⟩ = some (.string sa) ∧ w'.cell? ⟨pb, 1, none⟩ = some (.string sb) ∧ w'.cell? ⟨pb, 2, none⟩ = some (.string sh))) (t := 17) _ _ _ _ ?_
            have hHeld := (show (fun w' => w'.cell? ⟨pb, 0, none⟩ = some (.string sa) ∧ w'.cell? ⟨pb, 1, none⟩ = some (.string sb) ∧ w'.cell? ⟨pb, 2, none⟩ = some (.string sh)) w4.drew from ⟨x0, x1, x2⟩)
            refine till_take (i := 0) (oi := ?o52) (d := (some 54)) (v := ?v52) ?hi52 (by kernel_rfl) (by kernel_rfl) (by kernel_rfl) (by kernel_rfl) (by kernel_rfl) (fun _ _ _ h => h) ?hd52 ?hw52 ?hy52 hHeld ?_
            case hi52 => (simp only [List.getElem?_toArray, List.getElem?_cons_zero]; exact rfl)
            case hd52 => rfl
            case hw52 => rfl
            case hy52 => (intro w hSw; (try dsimp only at hSw); go_simp; try with_reducible rfl)
            try simp only [Act.put, List.setIfInBounds_toArray, List.set_cons_zero, List.set_cons_succ]
            refine till_take (i := 1) (oi := ?o53) (d := (some 55)) (v := ?v53) ?hi53 (by kernel_rfl) (by kernel_rfl) (by kernel_rfl) (by kernel_rfl) (by kernel_rfl) (fun _ _ _ h => h) ?hd53 ?hw53 ?hy53 hHeld ?_
            case hi53 => (simp only [List.getElem?_toArray, List.getElem?_cons_zero, List.getElem?_cons_succ]; exact rfl)
            case hd53 => rfl
            case hw53 => rfl
            case hy53 => (intro w hSw; (try dsimp only at hSw); go_simp; try with_reducible rfl)
            try simp only [Act.put, List.setIfInBounds_toArray, List.set_cons_zero, List.set_cons_succ]
            refine till_take (i := 2) (oi := ?o54) (d := (some 56)) (v := ?v54) ?hi54 (by kernel_rfl) (by kernel_rfl) (by kernel_rfl) (by kernel_rfl) (by kernel_rfl) (fun _ _ _ h => h) ?hd54 ?hw54 ?hy54 hHeld ?_
            case hi54 => (simp only [List.getElem?_toArray, List.getElem?_cons_zero, List.getElem?_cons_succ]; exact rfl)
            case hd54 => rfl
            case hw54 => rfl
            case hy54 => (intro w hSw; (try dsimp only at hSw); go_simp; try with_reducible rfl)
            try simp only [Act.put, List.setIfInBounds_toArray, List.set_cons_zero, List.set_cons_succ]
            refine till_take (i := 3) (oi := ?o55) (d := (some 57)) (v := ?v55) ?hi55 (by kernel_rfl) (by kernel_rfl) (by kernel_rfl) (by kernel_rfl) (by kernel_rfl) (fun _ _ _ h => h) ?hd55 ?hw55 ?hy55 hHeld ?_
            case hi55 => (simp only [List.getElem?_toArray, List.getElem?_cons_zero, List.getElem?_cons_succ]; exact rfl)
            case hd55 => rfl
            case hw55 => rfl
            case hy55 => (intro w hSw; (try dsimp only at hSw); go_simp; try with_reducible rfl)
            try simp only [Act.put, List.setIfInBounds_toArray, List.set_cons_zero, List.set_cons_succ]
            refine till_take (i := 4) (oi := ?o56) (d := (some 58)) (v := ?v56) ?hi56 (by kernel_rfl) (by kernel_rfl) (by kernel_rfl) (by kernel_rfl) (by kernel_rfl) (fun _ _ _ h => h) ?hd56 ?hw56 ?hy56 hHeld ?_
            case hi56 => (simp only [List.getElem?_toArray, List.getElem?_cons_zero, List.getElem?_cons_succ]; exact rfl)
            case hd56 => rfl
            case hw56 => rfl
            case hy56 => (intro w hSw; (try dsimp only at hSw); go_simp; try with_reducible rfl)
            try simp only [Act.put, List.setIfInBounds_toArray, List.set_cons_zero, List.set_cons_succ]
            refine till_take (i := 5) (oi := ?o57) (d := (some 59)) (v := ?v57) ?hi57 (by kernel_rfl) (by kernel_rfl) (by kernel_rfl) (by kernel_rfl) (by kernel_rfl) (fun _ _ _ h => h) ?hd57 ?hw57 ?hy57 hHeld ?_
            case hi57 => (simp only [List.getElem?_toArray, List.getElem?_cons_zero, List.getElem?_cons_succ]; exact rfl)
            case hd57 => rfl
            case hw57 => rfl
            case hy57 => (intro w hSw; (try dsimp only at hSw); go_simp; try with_reducible rfl)
            try simp only [Act.put, List.setIfInBounds_toArray, List.set_cons_zero, List.set_cons_succ]
            refine till_take (i := 6) (oi := ?o58) (d := (some 60)) (v := ?v58) ?hi58 (by kernel_rfl) (by kernel_rfl) (by kernel_rfl) (by kernel_rfl) (by kernel_rfl) (fun _ _ _ h => h) ?hd58 ?hw58 ?hy58 hHeld ?_
            case hi58 => (simp only [List.getElem?_toArray, List.getElem?_cons_zero, List.getElem?_cons_succ]; exact rfl)
            case hd58 => rfl
            case hw58 => rfl
            case hy58 => (intro w hSw; (try dsimp only at hSw); go_simp; try with_reducible rfl)
            try simp only [Act.put, List.setIfInBounds_toArray, List.set_cons_zero, List.set_cons_succ]
            refine till_take (i := 7) (oi := ?o59) (d := (some 61)) (v := ?v59) ?hi59 (by kernel_rfl) (by kernel_rfl) (by kernel_rfl) (by kernel_rfl) (by kernel_rfl) (fun _ _ _ h => h) ?hd59 ?hw59 ?hy59 hHeld ?_
            case hi59 => (simp only [List.getElem?_toArray, List.getElem?_cons_zero, List.getElem?_cons_succ]; exact rfl)
            case hd59 => rfl
            case hw59 => rfl
            case hy59 => (intro w hSw; (try dsimp only at hSw); go_simp; try with_reducible rfl)
            try simp only [Act.put, List.setIfInBounds_toArray, List.set_cons_zero, List.set_cons_succ]
            refine till_take (i := 8) (oi := ?o60) (d := (some 62)) (v := ?v60) ?hi60 (by kernel_rfl) (by kernel_rfl) (by kernel_rfl) (by kernel_rfl) (by kernel_rfl) (fun _ _ _ h => h) ?hd60 ?hw60 ?hy60 hHeld ?_
            case hi60 => (simp only [List.getElem?_toArray, List.getElem?_cons_zero, List.getElem?_cons_succ]; exact rfl)
            case hd60 => rfl
            case hw60 => rfl
            case hy60 => (intro w hSw; (try dsimp only at hSw); go_simp; try with_reducible rfl)
            try simp only [Act.put, List.setIfInBounds_toArray, List.set_cons_zero, List.set_cons_succ]
            refine till_take (i := 9) (oi := ?o61) (d := (some 63)) (v := ?v61) ?hi61 (by kernel_rfl) (by kernel_rfl) (by kernel_rfl) (by kernel_rfl) (by kernel_rfl) (fun _ _ _ h => h) ?hd61 ?hw61 ?hy61 hHeld ?_
            case hi61 => (simp only [List.getElem?_toArray, List.getElem?_cons_zero, List.getElem?_cons_succ]; exact rfl)
            case hd61 => rfl
            case hw61 => rfl
            case hy61 => (intro w hSw; (try dsimp only at hSw); go_simp; try with_reducible rfl)
            try simp only [Act.put, List.setIfInBounds_toArray, List.set_cons_zero, List.set_cons_succ]
            refine till_take (i := 10) (oi := ?o62) (d := (some 64)) (v := ?v62) ?hi62 (by kernel_rfl) (by kernel_rfl) (by kernel_rfl) (by kernel_rfl) (by kernel_rfl) (fun _ _ _ h => h) ?hd62 ?hw62 ?hy62 hHeld ?_
            case hi62 => (simp only [List.getElem?_toArray, List.getElem?_cons_zero, List.getElem?_cons_succ]; exact rfl)
            case hd62 => rfl
            case hw62 => rfl
            case hy62 => (intro w hSw; (try dsimp only at hSw); go_simp; try with_reducible rfl)
            try simp only [Act.put, List.setIfInBounds_toArray, List.set_cons_zero, List.set_cons_succ]
            refine till_pure (i := 11) (oi := ?o63) (d := (some 65)) (v := ?v63) ?hi63 (by kernel_rfl) (by kernel_rfl) (by kernel_rfl) (by kernel_rfl) (fun _ _ _ h => h) ?hd63 ?hw63 ?hy63 hHeld ?_
            case hi63 => (simp only [List.getElem?_toArray, List.getElem?_cons_zero, List.getElem?_cons_succ]; exact rfl)
            case hd63 => rfl
            case hw63 => rfl
            case hy63 => (intro w; go_simp; try with_reducible rfl)
            try simp only [Act.put, List.setIfInBounds_toArray, List.set_cons_zero, List.set_cons_succ]
            refine till_pure (i := 12) (oi := ?o64) (d := (some 66)) (v := ?v64) ?hi64 (by kernel_rfl) (by kernel_rfl) (by kernel_rfl) (by kernel_rfl) (fun _ _ _ h => h) ?hd64 ?hw64 ?hy64 hHeld ?_
            case hi64 => (simp only [List.getElem?_toArray, List.getElem?_cons_zero, List.getElem?_cons_succ]; exact rfl)
            case hd64 => rfl
            case hw64 => rfl
            case hy64 => (intro w; go_simp; try with_reducible rfl)
            try simp only [Act.put, List.setIfInBounds_toArray, List.set_cons_zero, List.set_cons_succ]
            refine till_pure (i := 13) (oi := ?o65) (d := (some 67)) (v := ?v65) ?hi65 (by kernel_rfl) (by kernel_rfl) (by kernel_rfl) (by kernel_rfl) (fun _ _ _ h => h) ?hd65 ?hw65 ?hy65 hHeld ?_
            case hi65 => (simp only [List.getElem?_toArray, List.getElem?_cons_zero, List.getElem?_cons_succ]; exact rfl)
            case hd65 => rfl
            case hw65 => rfl
            case hy65 => (intro w; go_simp; try with_reducible rfl)
            try simp only [Act.put, List.setIfInBounds_toArray, List.set_cons_zero, List.set_cons_succ]
            refine till_no (i := 14) (oi := ?o66) (d := (some 68)) ?hi66 (by kernel_rfl) (by kernel_rfl) (by kernel_rfl) (by kernel_rfl) (fun _ _ _ h => h) ?hd66 ?hw66 hHeld ?_
            case hi66 => (simp only [List.getElem?_toArray, List.getElem?_cons_zero, List.getElem?_cons_succ]; exact rfl)
            case hd66 => rfl
            case hw66 => rfl
            try simp only [Act.put, List.setIfInBounds_toArray, List.set_cons_zero, List.set_cons_succ]
            refine till_no (i := 15) (oi := ?o67) (d := (some 69)) ?hi67 (by kernel_rfl) (by kernel_rfl) (by kernel_rfl) (by kernel_rfl) (fun _ _ _ h => h) ?hd67 ?hw67 hHeld ?_
            case hi67 => (simp only [List.getElem?_toArray, List.getElem?_cons_zero, List.getElem?_cons_succ]; exact rfl)
            case hd67 => rfl
            case hw67 => rfl
            try simp only [Act.put, List.setIfInBounds_toArray, List.set_cons_zero, List.set_cons_succ]
            refine till_pure (i := 16) (oi := ?o68) (d := (some 70)) (v := ?v68) ?hi68 (by kernel_rfl) (by kernel_rfl) (by kernel_rfl) (by kernel_rfl) (fun _ _ _ h => h) ?hd68 ?hw68 ?hy68 hHeld ?_
            case hi68 => (simp only [List.getElem?_toArray, List.getElem?_cons_zero, List.getElem?_cons_succ]; exact rfl)
            case hd68 => rfl
            case hw68 => rfl
            case hy68 => (intro w; go_simp; try with_reducible rfl)
            try simp only [Act.put, List.setIfInBounds_toArray, List.set_cons_zero, List.set_cons_succ]
            refine AnyTill.last (by kernel_rfl) ?_
            refine any_drop 17 (by kernel_rfl) (by kernel_rfl) ?_
            simp only [List.drop_succ_cons, List.drop_zero]
            go_wp2_with (refine wpList_store_blk rfl 74 _ _ rfl vb 74 _ #[.string sa, .string sb, .bool false] HA4.out rfl rfl rfl line_info_size (by simp [Value.oneCell']) ?_; intro w5 hA5 hg5 hs5; have HA5 := Lib.hid hA5; have HG5 := Lib.hid hg5; clear hA5 hg5 hs5)
            refine bodyPost_ret (results_cell_tmp Tryz.results59 _ (by rfl) (run_load_blk 74 HA5.out _ Tryz.underlying74 rfl line_info_size)) rfl ⟨⟨⟨sa, sb, false⟩, by rw [HNO.out]; rfl, fun x hx => by rw [HNO.out] at hx; cases hx⟩, ext_only (ext_drew HB4.out) HG5.out (by have := HVB.out; omega)⟩
          case true =>
            rw [ha] at hpe HV2
            cases hb : okB sb.data.toList
            case false =>
              rw [hb] at hce HV2
              have HNO := Lib.hid (show readV s = none from HV2.out)
              refine region_any_drew (by kernel_rfl) ?_
              refine AnyTill.any (S := (fun w' => w'.cell? ⟨pb, 0, none⟩ = some (.string sa) ∧ w'.cell? ⟨pb, 1, none⟩ = some (.string sb) ∧ w'.cell? ⟨pb, 2, none⟩ = some (.string sh))) (t := 17) _ _ _ _ ?_
              have hHeld := (show (fun w' => w'.cell? ⟨pb, 0, none⟩ = some (.string sa) ∧ w'.cell? ⟨pb, 1, none⟩ = some (.string sb) ∧ w'.cell? ⟨pb, 2, none⟩ = some (.string sh)) w4.drew from ⟨x0, x1, x2⟩)
              refine till_take (i := 0) (oi := ?o69) (d := (some 54)) (v := ?v69) ?hi69 (by kernel_rfl) (by kernel_rfl) (by kernel_rfl) (by kernel_rfl) (by kernel_rfl) (fun _ _ _ h => h) ?hd69 ?hw69 ?hy69 hHeld ?_
              case hi69 => (simp only [List.getElem?_toArray, List.getElem?_cons_zero]; exact rfl)
              case hd69 => rfl
              case hw69 => rfl
              case hy69 => (intro w hSw; (try dsimp only at hSw); go_simp; try with_reducible rfl)
              try simp only [Act.put, List.setIfInBounds_toArray, List.set_cons_zero, List.set_cons_succ]
              refine till_take (i := 1) (oi := ?o70) (d := (some 55)) (v := ?v70) ?hi70 (by kernel_rfl) (by kernel_rfl) (by kernel_rfl) (by kernel_rfl) (by kernel_rfl) (fun _ _ _ h => h) ?hd70 ?hw70 ?hy70 hHeld ?_
              case hi70 => (simp only [List.getElem?_toArray, List.getElem?_cons_zero, List.getElem?_cons_succ]; exact rfl)
              case hd70 => rfl
              case hw70 => rfl
              case hy70 => (intro w hSw; (try dsimp only at hSw); go_simp; try with_reducible rfl)
              try simp only [Act.put, List.setIfInBounds_toArray, List.set_cons_zero, List.set_cons_succ]
              refine till_take (i := 2) (oi := ?o71) (d := (some 56)) (v := ?v71) ?hi71 (by kernel_rfl) (by kernel_rfl) (by kernel_rfl) (by kernel_rfl) (by kernel_rfl) (fun _ _ _ h => h) ?hd71 ?hw71 ?hy71 hHeld ?_
              case hi71 => (simp only [List.getElem?_toArray, List.getElem?_cons_zero, List.getElem?_cons_succ]; exact rfl)
              case hd71 => rfl
              case hw71 => rfl
              case hy71 => (intro w hSw; (try dsimp only at hSw); go_simp; try with_reducible rfl)
              try simp only [Act.put, List.setIfInBounds_toArray, List.set_cons_zero, List.set_cons_succ]
              refine till_take (i := 3) (oi := ?o72) (d := (some 57)) (v := ?v72) ?hi72 (by kernel_rfl) (by kernel_rfl) (by kernel_rfl) (by kernel_rfl) (by kernel_rfl) (fun _ _ _ h => h) ?hd72 ?hw72 ?hy72 hHeld ?_
              case hi72 => (simp only [List.getElem?_toArray, List.getElem?_cons_zero, List.getElem?_cons_succ]; exact rfl)
              case hd72 => rfl
              case hw72 => rfl
              case hy72 => (intro w hSw; (try dsimp only at hSw); go_simp; try with_reducible rfl)
              try simp only [Act.put, List.setIfInBounds_toArray, List.set_cons_zero, List.set_cons_succ]
              refine till_take (i := 4) (oi := ?o73) (d := (some 58)) (v := ?v73) ?hi73 (by kernel_rfl) (by kernel_rfl) (by kernel_rfl) (by kernel_rfl) (by kernel_rfl) (fun _ _ _ h => h) ?hd73 ?hw73 ?hy73 hHeld ?_
              case hi73 => (simp only [List.getElem?_toArray, List.getElem?_cons_zero, List.getElem?_cons_succ]; exact rfl)
              case hd73 => rfl
              case hw73 => rfl
              case hy73 => (intro w hSw; (try dsimp only at hSw); go_simp; try with_reducible rfl)
              try simp only [Act.put, List.setIfInBounds_toArray, List.set_cons_zero, List.set_cons_succ]
              refine till_take (i := 5) (oi := ?o74) (d := (some 59)) (v := ?v74) ?hi74 (by kernel_rfl) (by kernel_rfl) (by kernel_rfl) (by kernel_rfl) (by kernel_rfl) (fun _ _ _ h => h) ?hd74 ?hw74 ?hy74 hHeld ?_
              case hi74 => (simp only [List.getElem?_toArray, List.getElem?_cons_zero, List.getElem?_cons_succ]; exact rfl)
              case hd74 => rfl
              case hw74 => rfl
              case hy74 => (intro w hSw; (try dsimp only at hSw); go_simp; try with_reducible rfl)
              try simp only [Act.put, List.setIfInBounds_toArray, List.set_cons_zero, List.set_cons_succ]
              refine till_take (i := 6) (oi := ?o75) (d := (some 60)) (v := ?v75) ?hi75 (by kernel_rfl) (by kernel_rfl) (by kernel_rfl) (by kernel_rfl) (by kernel_rfl) (fun _ _ _ h => h) ?hd75 ?hw75 ?hy75 hHeld ?_
              case hi75 => (simp only [List.getElem?_toArray, List.getElem?_cons_zero, List.getElem?_cons_succ]; exact rfl)
              case hd75 => rfl
              case hw75 => rfl
              case hy75 => (intro w hSw; (try dsimp only at hSw); go_simp; try with_reducible rfl)
              try simp only [Act.put, List.setIfInBounds_toArray, List.set_cons_zero, List.set_cons_succ]
              refine till_take (i := 7) (oi := ?o76) (d := (some 61)) (v := ?v76) ?hi76 (by kernel_rfl) (by kernel_rfl) (by kernel_rfl) (by kernel_rfl) (by kernel_rfl) (fun _ _ _ h => h) ?hd76 ?hw76 ?hy76 hHeld ?_
              case hi76 => (simp only [List.getElem?_toArray, List.getElem?_cons_zero, List.getElem?_cons_succ]; exact rfl)
              case hd76 => rfl
              case hw76 => rfl
              case hy76 => (intro w hSw; (try dsimp only at hSw); go_simp; try with_reducible rfl)
              try simp only [Act.put, List.setIfInBounds_toArray, List.set_cons_zero, List.set_cons_succ]
              refine till_take (i := 8) (oi := ?o77) (d := (some 62)) (v := ?v77) ?hi77 (by kernel_rfl) (by kernel_rfl) (by kernel_rfl) (by kernel_rfl) (by kernel_rfl) (fun _ _ _ h => h) ?hd77 ?hw77 ?hy77 hHeld ?_
              case hi77 => (simp only [List.getElem?_toArray, List.getElem?_cons_zero, List.getElem?_cons_succ]; exact rfl)
              case hd77 => rfl
              case hw77 => rfl
              case hy77 => (intro w hSw; (try dsimp only at hSw); go_simp; try with_reducible rfl)
              try simp only [Act.put, List.setIfInBounds_toArray, List.set_cons_zero, List.set_cons_succ]
              refine till_take (i := 9) (oi := ?o78) (d := (some 63)) (v := ?v78) ?hi78 (by kernel_rfl) (by kernel_rfl) (by kernel_rfl) (by kernel_rfl) (by kernel_rfl) (fun _ _ _ h => h) ?hd78 ?hw78 ?hy78 hHeld ?_
              case hi78 => (simp only [List.getElem?_toArray, List.getElem?_cons_zero, List.getElem?_cons_succ]; exact rfl)
              case hd78 => rfl
              case hw78 => rfl
              case hy78 => (intro w hSw; (try dsimp only at hSw); go_simp; try with_reducible rfl)
              try simp only [Act.put, List.setIfInBounds_toArray, List.set_cons_zero, List.set_cons_succ]
              refine till_take (i := 10) (oi := ?o79) (d := (some 64)) (v := ?v79) ?hi79 (by kernel_rfl) (by kernel_rfl) (by kernel_rfl) (by kernel_rfl) (by kernel_rfl) (fun _ _ _ h => h) ?hd79 ?hw79 ?hy79 hHeld ?_
              case hi79 => (simp only [List.getElem?_toArray, List.getElem?_cons_zero, List.getElem?_cons_succ]; exact rfl)
              case hd79 => rfl
              case hw79 => rfl
              case hy79 => (intro w hSw; (try dsimp only at hSw); go_simp; try with_reducible rfl)
              try simp only [Act.put, List.setIfInBounds_toArray, List.set_cons_zero, List.set_cons_succ]
              refine till_pure (i := 11) (oi := ?o80) (d := (some 65)) (v := ?v80) ?hi80 (by kernel_rfl) (by kernel_rfl) (by kernel_rfl) (by kernel_rfl) (fun _ _ _ h => h) ?hd80 ?hw80 ?hy80 hHeld ?_
              case hi80 => (simp only [List.getElem?_toArray, List.getElem?_cons_zero, List.getElem?_cons_succ]; exact rfl)
              case hd80 => rfl
              case hw80 => rfl
              case hy80 => (intro w; go_simp; try with_reducible rfl)
              try simp only [Act.put, List.setIfInBounds_toArray, List.set_cons_zero, List.set_cons_succ]
              refine till_pure (i := 12) (oi := ?o81) (d := (some 66)) (v := ?v81) ?hi81 (by kernel_rfl) (by kernel_rfl) (by kernel_rfl) (by kernel_rfl) (fun _ _ _ h => h) ?hd81 ?hw81 ?hy81 hHeld ?_
              case hi81 => (simp only [List.getElem?_toArray, List.getElem?_cons_zero, List.getElem?_cons_succ]; exact rfl)
              case hd81 => rfl
              case hw81 => rfl
              case hy81 => (intro w; go_simp; try with_reducible rfl)
              try simp only [Act.put, List.setIfInBounds_toArray, List.set_cons_zero, List.set_cons_succ]
              refine till_pure (i := 13) (oi := ?o82) (d := (some 67)) (v := ?v82) ?hi82 (by kernel_rfl) (by kernel_rfl) (by kernel_rfl) (by kernel_rfl) (fun _ _ _ h => h) ?hd82 ?hw82 ?hy82 hHeld ?_
              case hi82 => (simp only [List.getElem?_toArray, List.getElem?_cons_zero, List.getElem?_cons_succ]; exact rfl)
              case hd82 => rfl
              case hw82 => rfl
              case hy82 => (intro w; go_simp; try with_reducible rfl)
              try simp only [Act.put, List.setIfInBounds_toArray, List.set_cons_zero, List.set_cons_succ]
              refine till_pure (i := 14) (oi := ?o83) (d := (some 68)) (v := ?v83) ?hi83 (by kernel_rfl) (by kernel_rfl) (by kernel_rfl) (by kernel_rfl) (fun _ _ _ h => h) ?hd83 ?hw83 ?hy83 hHeld ?_
              case hi83 => (simp only [List.getElem?_toArray, List.getElem?_cons_zero, List.getElem?_cons_succ]; exact rfl)
              case hd83 => rfl
              case hw83 => rfl
              case hy83 => (intro w; go_simp; try with_reducible rfl)
              try simp only [Act.put, List.setIfInBounds_toArray, List.set_cons_zero, List.set_cons_succ]
              refine till_pure (i := 15) (oi := ?o84) (d := (some 69)) (v := ?v84) ?hi84 (by kernel_rfl) (by kernel_rfl) (by kernel_rfl) (by kernel_rfl) (fun _ _ _ h => h) ?hd84 ?hw84 ?hy84 hHeld ?_
              case hi84 => (simp only [List.getElem?_toArray, List.getElem?_cons_zero, List.getElem?_cons_succ]; exact rfl)
              case hd84 => rfl
              case hw84 => rfl
              case hy84 => (intro w; go_simp; try with_reducible rfl)
              try simp only [Act.put, List.setIfInBounds_toArray, List.set_cons_zero, List.set_cons_succ]
              refine till_pure (i := 16) (oi := ?o85) (d := (some 70)) (v := ?v85) ?hi85 (by kernel_rfl) (by kernel_rfl) (by kernel_rfl) (by kernel_rfl) (fun _ _ _ h => h) ?hd85 ?hw85 ?hy85 hHeld ?_
              case hi85 => (simp only [List.getElem?_toArray, List.getElem?_cons_zero, List.getElem?_cons_succ]; exact rfl)
              case hd85 => rfl
              case hw85 => rfl
              case hy85 => (intro w; go_simp; try with_reducible rfl)
              try simp only [Act.put, List.setIfInBounds_toArray, List.set_cons_zero, List.set_cons_succ]
              refine AnyTill.last (by kernel_rfl) ?_
              refine any_drop 17 (by kernel_rfl) (by kernel_rfl) ?_
              simp only [List.drop_succ_cons, List.drop_zero]
              go_wp2_with (refine wpList_store_blk rfl 74 _ _ rfl vb 74 _ #[.string sa, .string sb, .bool false] HA4.out rfl rfl rfl line_info_size (by simp [Value.oneCell']) ?_; intro w5 hA5 hg5 hs5; have HA5 := Lib.hid hA5; have HG5 := Lib.hid hg5; clear hA5 hg5 hs5)
              refine bodyPost_ret (results_cell_tmp Tryz.results59 _ (by rfl) (run_load_blk 74 HA5.out _ Tryz.underlying74 rfl line_info_size)) rfl ⟨⟨⟨sa, sb, false⟩, by rw [HNO.out]; rfl, fun x hx => by rw [HNO.out] at hx; cases hx⟩, ext_only (ext_drew HB4.out) HG5.out (by have := HVB.out; omega)⟩
            case true =>
              rw [hb] at hce HV2
              have HNO := Lib.hid (show readV s = some ⟨sa, sb, false⟩ from HV2.out)
              refine region_any_drew (by kernel_rfl) ?_
              refine AnyTill.any (S := (fun w' => w'.cell? ⟨pb, 0, none⟩ = some (.string sa) ∧ w'.cell? ⟨pb, 1, none⟩ = some (.string sb) ∧ w'.cell? ⟨pb, 2, none⟩ = some (.string sh))) (t := 17) _ _ _ _ ?_
              have hHeld := (show (fun w' => w'.cell? ⟨pb, 0, none⟩ = some (.string sa) ∧ w'.cell? ⟨pb, 1, none⟩ = some (.string sb) ∧ w'.cell? ⟨pb, 2, none⟩ = some (.string sh)) w4.drew from ⟨x0, x1, x2⟩)
              refine till_take (i := 0) (oi := ?o86) (d := (some 54)) (v := ?v86) ?hi86 (by kernel_rfl) (by kernel_rfl) (by kernel_rfl) (by kernel_rfl) (by kernel_rfl) (fun _ _ _ h => h) ?hd86 ?hw86 ?hy86 hHeld ?_
              case hi86 => (simp only [List.getElem?_toArray, List.getElem?_cons_zero]; exact rfl)
              case hd86 => rfl
              case hw86 => rfl
              case hy86 => (intro w hSw; (try dsimp only at hSw); go_simp; try with_reducible rfl)
              try simp only [Act.put, List.setIfInBounds_toArray, List.set_cons_zero, List.set_cons_succ]
              refine till_take (i := 1) (oi := ?o87) (d := (some 55)) (v := ?v87) ?hi87 (by kernel_rfl) (by kernel_rfl) (by kernel_rfl) (by kernel_rfl) (by kernel_rfl) (fun _ _ _ h => h) ?hd87 ?hw87 ?hy87 hHeld ?_
              case hi87 => (simp only [List.getElem?_toArray, List.getElem?_cons_zero, List.getElem?_cons_succ]; exact rfl)
              case hd87 => rfl
              case hw87 => rfl
              case hy87 => (intro w hSw; (try dsimp only at hSw); go_simp; try with_reducible rfl)
              try simp only [Act.put, List.setIfInBounds_toArray, List.set_cons_zero, List.set_cons_succ]
              refine till_take (i := 2) (oi := ?o88) (d := (some 56)) (v := ?v88) ?hi88 (by kernel_rfl) (by kernel_rfl) (by kernel_rfl) (by kernel_rfl) (by kernel_rfl) (fun _ _ _ h => h) ?hd88 ?hw88 ?hy88 hHeld ?_
              case hi88 => (simp only [List.getElem?_toArray, List.getElem?_cons_zero, List.getElem?_cons_succ]; exact rfl)
              case hd88 => rfl
              case hw88 => rfl
              case hy88 => (intro w hSw; (try dsimp only at hSw); go_simp; try with_reducible rfl)
              try simp only [Act.put, List.setIfInBounds_toArray, List.set_cons_zero, List.set_cons_succ]
              refine till_take (i := 3) (oi := ?o89) (d := (some 57)) (v := ?v89) ?hi89 (by kernel_rfl) (by kernel_rfl) (by kernel_rfl) (by kernel_rfl) (by kernel_rfl) (fun _ _ _ h => h) ?hd89 ?hw89 ?hy89 hHeld ?_
              case hi89 => (simp only [List.getElem?_toArray, List.getElem?_cons_zero, List.getElem?_cons_succ]; exact rfl)
              case hd89 => rfl
              case hw89 => rfl
              case hy89 => (intro w hSw; (try dsimp only at hSw); go_simp; try with_reducible rfl)
              try simp only [Act.put, List.setIfInBounds_toArray, List.set_cons_zero, List.set_cons_succ]
              refine till_take (i := 4) (oi := ?o90) (d := (some 58)) (v := ?v90) ?hi90 (by kernel_rfl) (by kernel_rfl) (by kernel_rfl) (by kernel_rfl) (by kernel_rfl) (fun _ _ _ h => h) ?hd90 ?hw90 ?hy90 hHeld ?_
              case hi90 => (simp only [List.getElem?_toArray, List.getElem?_cons_zero, List.getElem?_cons_succ]; exact rfl)
              case hd90 => rfl
              case hw90 => rfl
              case hy90 => (intro w hSw; (try dsimp only at hSw); go_simp; try with_reducible rfl)
              try simp only [Act.put, List.setIfInBounds_toArray, List.set_cons_zero, List.set_cons_succ]
              refine till_take (i := 5) (oi := ?o91) (d := (some 59)) (v := ?v91) ?hi91 (by kernel_rfl) (by kernel_rfl) (by kernel_rfl) (by kernel_rfl) (by kernel_rfl) (fun _ _ _ h => h) ?hd91 ?hw91 ?hy91 hHeld ?_
              case hi91 => (simp only [List.getElem?_toArray, List.getElem?_cons_zero, List.getElem?_cons_succ]; exact rfl)
              case hd91 => rfl
              case hw91 => rfl
              case hy91 => (intro w hSw; (try dsimp only at hSw); go_simp; try with_reducible rfl)
              try simp only [Act.put, List.setIfInBounds_toArray, List.set_cons_zero, List.set_cons_succ]
              refine till_take (i := 6) (oi := ?o92) (d := (some 60)) (v := ?v92) ?hi92 (by kernel_rfl) (by kernel_rfl) (by kernel_rfl) (by kernel_rfl) (by kernel_rfl) (fun _ _ _ h => h) ?hd92 ?hw92 ?hy92 hHeld ?_
              case hi92 => (simp only [List.getElem?_toArray, List.getElem?_cons_zero, List.getElem?_cons_succ]; exact rfl)
              case hd92 => rfl
              case hw92 => rfl
              case hy92 => (intro w hSw; (try dsimp only at hSw); go_simp; try with_reducible rfl)
              try simp only [Act.put, List.setIfInBounds_toArray, List.set_cons_zero, List.set_cons_succ]
              refine till_take (i := 7) (oi := ?o93) (d := (some 61)) (v := ?v93) ?hi93 (by kernel_rfl) (by kernel_rfl) (by kernel_rfl) (by kernel_rfl) (by kernel_rfl) (fun _ _ _ h => h) ?hd93 ?hw93 ?hy93 hHeld ?_
              case hi93 => (simp only [List.getElem?_toArray, List.getElem?_cons_zero, List.getElem?_cons_succ]; exact rfl)
              case hd93 => rfl
              case hw93 => rfl
              case hy93 => (intro w hSw; (try dsimp only at hSw); go_simp; try with_reducible rfl)
              try simp only [Act.put, List.setIfInBounds_toArray, List.set_cons_zero, List.set_cons_succ]
              refine till_take (i := 8) (oi := ?o94) (d := (some 62)) (v := ?v94) ?hi94 (by kernel_rfl) (by kernel_rfl) (by kernel_rfl) (by kernel_rfl) (by kernel_rfl) (fun _ _ _ h => h) ?hd94 ?hw94 ?hy94 hHeld ?_
              case hi94 => (simp only [List.getElem?_toArray, List.getElem?_cons_zero, List.getElem?_cons_succ]; exact rfl)
              case hd94 => rfl
              case hw94 => rfl
              case hy94 => (intro w hSw; (try dsimp only at hSw); go_simp; try with_reducible rfl)
              try simp only [Act.put, List.setIfInBounds_toArray, List.set_cons_zero, List.set_cons_succ]
              refine till_take (i := 9) (oi := ?o95) (d := (some 63)) (v := ?v95) ?hi95 (by kernel_rfl) (by kernel_rfl) (by kernel_rfl) (by kernel_rfl) (by kernel_rfl) (fun _ _ _ h => h) ?hd95 ?hw95 ?hy95 hHeld ?_
              case hi95 => (simp only [List.getElem?_toArray, List.getElem?_cons_zero, List.getElem?_cons_succ]; exact rfl)
              case hd95 => rfl
              case hw95 => rfl
              case hy95 => (intro w hSw; (try dsimp only at hSw); go_simp; try with_reducible rfl)
              try simp only [Act.put, List.setIfInBounds_toArray, List.set_cons_zero, List.set_cons_succ]
              refine till_take (i := 10) (oi := ?o96) (d := (some 64)) (v := ?v96) ?hi96 (by kernel_rfl) (by kernel_rfl) (by kernel_rfl) (by kernel_rfl) (by kernel_rfl) (fun _ _ _ h => h) ?hd96 ?hw96 ?hy96 hHeld ?_
              case hi96 => (simp only [List.getElem?_toArray, List.getElem?_cons_zero, List.getElem?_cons_succ]; exact rfl)
              case hd96 => rfl
              case hw96 => rfl
              case hy96 => (intro w hSw; (try dsimp only at hSw); go_simp; try with_reducible rfl)
              try simp only [Act.put, List.setIfInBounds_toArray, List.set_cons_zero, List.set_cons_succ]
              refine till_pure (i := 11) (oi := ?o97) (d := (some 65)) (v := ?v97) ?hi97 (by kernel_rfl) (by kernel_rfl) (by kernel_rfl) (by kernel_rfl) (fun _ _ _ h => h) ?hd97 ?hw97 ?hy97 hHeld ?_
              case hi97 => (simp only [List.getElem?_toArray, List.getElem?_cons_zero, List.getElem?_cons_succ]; exact rfl)
              case hd97 => rfl
              case hw97 => rfl
              case hy97 => (intro w; go_simp; try with_reducible rfl)
              try simp only [Act.put, List.setIfInBounds_toArray, List.set_cons_zero, List.set_cons_succ]
              refine till_pure (i := 12) (oi := ?o98) (d := (some 66)) (v := ?v98) ?hi98 (by kernel_rfl) (by kernel_rfl) (by kernel_rfl) (by kernel_rfl) (fun _ _ _ h => h) ?hd98 ?hw98 ?hy98 hHeld ?_
              case hi98 => (simp only [List.getElem?_toArray, List.getElem?_cons_zero, List.getElem?_cons_succ]; exact rfl)
              case hd98 => rfl
              case hw98 => rfl
              case hy98 => (intro w; go_simp; try with_reducible rfl)
              try simp only [Act.put, List.setIfInBounds_toArray, List.set_cons_zero, List.set_cons_succ]
              refine till_pure (i := 13) (oi := ?o99) (d := (some 67)) (v := ?v99) ?hi99 (by kernel_rfl) (by kernel_rfl) (by kernel_rfl) (by kernel_rfl) (fun _ _ _ h => h) ?hd99 ?hw99 ?hy99 hHeld ?_
              case hi99 => (simp only [List.getElem?_toArray, List.getElem?_cons_zero, List.getElem?_cons_succ]; exact rfl)
              case hd99 => rfl
              case hw99 => rfl
              case hy99 => (intro w; go_simp; try with_reducible rfl)
              try simp only [Act.put, List.setIfInBounds_toArray, List.set_cons_zero, List.set_cons_succ]
              refine till_pure (i := 14) (oi := ?o100) (d := (some 68)) (v := ?v100) ?hi100 (by kernel_rfl) (by kernel_rfl) (by kernel_rfl) (by kernel_rfl) (fun _ _ _ h => h) ?hd100 ?hw100 ?hy100 hHeld ?_
              case hi100 => (simp only [List.getElem?_toArray, List.getElem?_cons_zero, List.getElem?_cons_succ]; exact rfl)
              case hd100 => rfl
              case hw100 => rfl
              case hy100 => (intro w; go_simp; try with_reducible rfl)
              try simp only [Act.put, List.setIfInBounds_toArray, List.set_cons_zero, List.set_cons_succ]
              refine till_pure (i := 15) (oi := ?o101) (d := (some 69)) (v := ?v101) ?hi101 (by kernel_rfl) (by kernel_rfl) (by kernel_rfl) (by kernel_rfl) (fun _ _ _ h => h) ?hd101 ?hw101 ?hy101 hHeld ?_
              case hi101 => (simp only [List.getElem?_toArray, List.getElem?_cons_zero, List.getElem?_cons_succ]; exact rfl)
              case hd101 => rfl
              case hw101 => rfl
              case hy101 => (intro w; go_simp; try with_reducible rfl)
              try simp only [Act.put, List.setIfInBounds_toArray, List.set_cons_zero, List.set_cons_succ]
              refine till_pure (i := 16) (oi := ?o102) (d := (some 70)) (v := ?v102) ?hi102 (by kernel_rfl) (by kernel_rfl) (by kernel_rfl) (by kernel_rfl) (fun _ _ _ h => h) ?hd102 ?hw102 ?hy102 hHeld ?_
              case hi102 => (simp only [List.getElem?_toArray, List.getElem?_cons_zero, List.getElem?_cons_succ]; exact rfl)
              case hd102 => rfl
              case hw102 => rfl
              case hy102 => (intro w; go_simp; try with_reducible rfl)
              try simp only [Act.put, List.setIfInBounds_toArray, List.set_cons_zero, List.set_cons_succ]
              refine AnyTill.last (by kernel_rfl) ?_
              refine any_drop 17 (by kernel_rfl) (by kernel_rfl) ?_
              simp only [List.drop_succ_cons, List.drop_zero]
              go_wp2_with (refine wpList_store_blk rfl 74 _ _ rfl vb 74 _ #[.string sa, .string sb, .bool false] HA4.out rfl rfl rfl line_info_size (by simp [Value.oneCell']) ?_; intro w5 hA5 hg5 hs5; have HA5 := Lib.hid hA5; have HG5 := Lib.hid hg5; clear hA5 hg5 hs5)
              refine bodyPost_ret (results_cell_tmp Tryz.results59 _ (by rfl) (run_load_blk 74 HA5.out _ Tryz.underlying74 rfl line_info_size)) rfl ⟨⟨⟨sa, sb, false⟩, by rw [HNO.out]; rfl, fun x hx => by rw [HNO.out] at hx; cases hx; rfl⟩, ext_only (ext_drew HB4.out) HG5.out (by have := HVB.out; omega)⟩
        case false =>
          have q1 := held_no hh
          have q3 := beq_no q1
          have q2 := conf_no hc
          have q4 := beq_no q2
          have HNO := Lib.hid (show readV s = none from by rw [hval]; unfold how; rw [hh, hc]; simp)
          clear HVAL hval
          go_wp2_with (refine wpList_store_blk rfl 74 _ _ rfl vb 74 _ #[.string ⟨#[]⟩, .string ⟨#[]⟩, .bool false] HA2.out rfl rfl rfl line_info_size (by simp [Value.oneCell']) ?_; intro w5 hA5 hg5 hs5; have HA5 := Lib.hid hA5; have HG5 := Lib.hid hg5; clear hA5 hg5 hs5)
          refine bodyPost_ret (results_cell_tmp Tryz.results59 _ (by rfl) (run_load_blk 74 HA5.out _ Tryz.underlying74 rfl line_info_size)) rfl ⟨⟨⟨⟨#[]⟩, ⟨#[]⟩, false⟩, by rw [HNO.out]; rfl, fun x hx => by rw [HNO.out] at hx; cases hx⟩, ext_only HB2.out HG5.out (by have := HVB.out; omega)⟩
    · have HNO := Lib.hid (show readV s = none from by
        rw [HVAL.out, if_pos rfl]
        match P, h3 with
        | [], _ => rfl
        | [_], _ => rfl
        | [_, _], _ => rfl
        | [_, _, _], h => exact absurd rfl h
        | _ :: _ :: _ :: _ :: _, _ => rfl)
      clear HVAL
      have hne : ((P.length : Int) != 3) = true := by simp; omega
      go_wp2_with (refine wpList_store_blk rfl 74 _ _ rfl vb 74 _ #[.string ⟨#[]⟩, .string ⟨#[]⟩, .bool false] HA2.out rfl rfl rfl line_info_size (by simp [Value.oneCell']) ?_; intro w3 hA3 hg3 hs3; have HA3 := Lib.hid hA3; have HG3 := Lib.hid hg3; clear hA3 hg3 hs3)
      refine bodyPost_ret (results_cell_tmp Tryz.results59 _ (by rfl) (run_load_blk 74 HA3.out _ Tryz.underlying74 rfl line_info_size)) rfl ⟨⟨⟨⟨#[]⟩, ⟨#[]⟩, false⟩, by rw [HNO.out]; rfl, fun x hx => by rw [HNO.out] at hx; cases hx⟩, ext_only HB2.out HG3.out (by have := HVB.out; omega)⟩

end Go.Proofs.YtpoijhjjbmaedaaGreatDoor.Man
