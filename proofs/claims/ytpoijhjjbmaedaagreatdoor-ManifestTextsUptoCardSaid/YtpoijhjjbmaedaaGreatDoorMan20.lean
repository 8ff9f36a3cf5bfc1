/- The reference's Line, Text; the law of texts of any lines. -/
import Derived.Test.YtpoijhjjbmaedaaGreatDoorMan18
import Derived.Test.YtpoijhjjbmaedaaGreatDoorManB
import Derived.Lib.AppendStr
import Derived.Laws.BytesArg
set_option linter.unusedVariables false
set_option linter.unusedSimpArgs false
namespace Go.Proofs.YtpoijhjjbmaedaaGreatDoor.Man
open Go.RowKit

theorem app_bytes (a b : List UInt8) : (⟨a.toArray⟩ : ByteArray) ++ ⟨b.toArray⟩ = ⟨(a ++ b).toArray⟩ := by
  apply ByteArray.ext
  rw [ByteArray.data_append]
  simp
theorem str_mk (s : ByteArray) : s = ⟨s.data.toList.toArray⟩ := by apply ByteArray.ext; simp
theorem lineT_held (s cd : ByteArray) : (s ++ ⟨#[32]⟩ ++ cd ++ ⟨#[32, 104, 101, 108, 100, 10]⟩ : ByteArray) = ⟨(lineT ⟨s, cd, true⟩).toArray⟩ := by
  apply ByteArray.ext
  simp only [ByteArray.data_append, lineT, howB]
  apply Array.toList_inj.1
  simp
theorem lineT_conf (s cd : ByteArray) : (s ++ ⟨#[32]⟩ ++ cd ++ ⟨#[32, 99, 111, 110, 102, 105, 114, 109, 101, 100, 10]⟩ : ByteArray) = ⟨(lineT ⟨s, cd, false⟩).toArray⟩ := by
  apply ByteArray.ext
  simp only [ByteArray.data_append, lineT, howB]
  apply Array.toList_inj.1
  simp
set_option maxRecDepth 100000 in
set_option maxHeartbeats 1000000 in
theorem rLine_in (s cd : ByteArray) (h : Bool) (w : World) (hs : s.size ≤ 4000000) (hc : cd.size ≤ 4000000) :
    Calls Tryz.prog 57 #[.agg #[.string s, .string cd, .bool h]] w fun e w' => e = .returned (.string ⟨(lineT ⟨s, cd, h⟩).toArray⟩) ∧ Below w.heap.size w w' := by
  have e1 := lineT_held s cd
  have e2 := lineT_conf s cd
  have s1 : (s ++ (⟨#[32]⟩ : ByteArray)).size = s.size + 1 := by simp [ByteArray.size_append]; rfl
  have s2 : (s ++ (⟨#[32]⟩ : ByteArray) ++ cd).size = s.size + 1 + cd.size := by rw [ByteArray.size_append, s1]
  have a1 : ¬ 9223372036854775807 < s.size + 1 := by omega
  have a2 : ¬ 9223372036854775807 < s.size + 1 + cd.size := by omega
  have a3 : ¬ 9223372036854775807 < s.size + 1 + cd.size + 6 := by omega
  have a4 : ¬ 9223372036854775807 < s.size + 1 + cd.size + 11 := by omega
  have E1 := Lib.hid e1; have E2 := Lib.hid e2
  clear e1 e2
  cases h with
  | true =>
    go_enter Tryz.func57, Tryz.ntmps57
    go_wp2_with fail
    go_ret
    exact ⟨by rw [← E1.out]; rfl, by repeat (first | with_reducible exact Below.refl _ _ | with_reducible refine ext_alloc ?_ _ | with_reducible refine ext_drew ?_ | with_reducible refine ext_drewN ?_ _ | (refine ext_setCell ?_ (by simp at *; omega) _) | with_reducible refine ext_trans ?_ (by assumption))⟩
  | false =>
    go_enter Tryz.func57, Tryz.ntmps57
    go_wp2_with fail
    go_ret
    exact ⟨by rw [← E2.out]; rfl, by repeat (first | with_reducible exact Below.refl _ _ | with_reducible refine ext_alloc ?_ _ | with_reducible refine ext_drew ?_ | with_reducible refine ext_drewN ?_ _ | (refine ext_setCell ?_ (by simp at *; omega) _) | with_reducible refine ext_trans ?_ (by assumption))⟩

theorem u8_info2 : (Tryz.prog.info? 5).map (fun i => (i.zero, i.size, i.bytes)) = some (some (.int .u8 0), 1, 1) := by kernel_rfl
theorem txt_take (l : List Ln) (k : Nat) (hk : k < l.length) : txtL (l.take (k + 1)) = txtL (l.take k) ++ lineT (l.getD k ⟨⟨#[]⟩, ⟨#[]⟩, false⟩) := by
  rw [List.take_succ_eq_append_getElem hk, txtL_snoc]; simp [List.getD_eq_getElem?_getD, hk]

set_option maxRecDepth 100000 in
set_option maxHeartbeats 2000000 in
theorem rText_in (l : List Ln) (A : Option Addr) (c : Nat) (w : World) (h : Lines w A l) (hbk : bulk l ≤ 4000000) : Calls Tryz.prog 21 #[.slice A l.length c] w (TextOut l w) := by
  obtain ⟨i0, hi, hz0, hz1, hz2⟩ := info_parts u8_info2
  have hll : l.length ≤ 4000000 := by
    have : ∀ m : List Ln, m.length ≤ bulk m := fun m => by
      induction m with
      | nil => simp
      | cons x m ih => simp only [bulk, List.map_cons, List.sum_cons, List.length_cons] at ih ⊢; omega
    have := this l
    omega
  have HH := Lib.hid h
  have HBK := Lib.hid hbk
  clear h hbk
  go_enter Tryz.func21, Tryz.ntmps21
  go_wp2_with fail
  go_loopw [3, 4] (fun v iv wr => ∃ (k : Nat) (VA : Option Addr) (vc : Nat), k ≤ l.length ∧ iv = .int .i64 k ∧ v = .slice VA (txtL (l.take k)).length vc ∧ wr.ownsRow w.heap.size 5 1 (.slice VA (txtL (l.take k)).length vc) (txtL (l.take k)).length (Lib.byteCells (txtL (l.take k))) ∧ Below w.heap.size w wr) (fun _ iv _ => (l.length - intOf iv).toNat)
  case atStart => exact ⟨0, none, 0, Nat.zero_le _, rfl, rfl, own_nil _ _ _ _, Below.refl _ _⟩
  case round =>
    obtain ⟨k, VA, vc, hk, rfl, rfl, hO, hB⟩ := hrel
    have HO := Lib.hid hO; have HB := Lib.hid hB
    clear hO hB
    by_cases hkl : k < l.length
    · have hk1 : (k : Int) < (l.length : Int) := by omega
      have hk0 : (0 : Int) ≤ (k : Int) := by omega
      have hne : l ≠ [] := fun e => by rw [e] at hkl; simp at hkl
      obtain ⟨g, off, hA, hgl, hrng⟩ := HH.out hne
      subst hA
      have hrg : wr.rangeAt g (off + k * 3) (lineL (l.getD k ⟨⟨#[]⟩, ⟨#[]⟩, false⟩)) := fun j v hj => (HB.out.cell (p := ⟨g, off + k * 3 + j, none⟩) hgl).trans (hrng k hkl j v hj)
      have hbt := bulk_take l k hkl
      have hsn := txt_take l k hkl
      obtain ⟨x, hx⟩ : ∃ x, l.getD k ⟨⟨#[]⟩, ⟨#[]⟩, false⟩ = x := ⟨_, rfl⟩
      rw [hx] at hrg hbt hsn
      obtain ⟨s, cd, hd⟩ := x
      have hbt' : (txtL (l.take k)).length + (s.size + cd.size + 12) ≤ bulk l := hbt
      have hlt := lineT_len ⟨s, cd, hd⟩
      have hlt' : (lineT ⟨s, cd, hd⟩).length ≤ s.size + cd.size + 12 := hlt
      obtain ⟨T, hT⟩ : ∃ T, txtL (l.take k) = T := ⟨_, rfl⟩
      rw [hT] at hsn hbt' HO ⊢
      obtain ⟨X, hX⟩ : ∃ X, lineT ⟨s, cd, hd⟩ = X := ⟨_, rfl⟩
      have hbk := HBK.out
      have HL := Lib.hid (fun W => rLine_in s cd hd W (by omega) (by omega))
      rw [hX] at hsn hlt' HL
      have hsum : T.length + X.length ≤ 4000000 := by omega
      have hrg' : wr.rangeAt g (off + k * 3) [.string s, .string cd, .bool hd] := hrg
      have HRG := Lib.hid hrg'; have HSN := Lib.hid hsn
      clear hrg hrg' hbt hbt' hsn hrng hx hne hT hX hlt hlt' hbk
      go_wp2_with (refine wpList_load_mid rfl 74 _ rfl g (off + k * 3) rfl [.string s, .string cd, .bool hd] _ HRG.out Tryz.underlying74 rfl rfl ?_)
      refine (HL.out _).mono ?_
      rintro e w4 ⟨rfl, hb4⟩
      have HB4 := Lib.hid (ext_trans HB.out hb4)
      have HO4 := Lib.hid (own_keep HO.out hb4)
      clear hb4
      have hxs : (⟨X.toArray⟩ : ByteArray).size = X.length := by rw [Lib.size_eq]
      have HXS := Lib.hid hxs
      clear hxs
      go_wp2_with (at_builtin; refine Lib.wpList_append_own_string _ rfl (.tmp 11) (.tmp 16) 96 9 rfl w.heap.size 5 i0 Tryz.underlying96 Tryz.underlying9 hi hz0 hz1 hz2 (.slice VA T.length vc) T.length _ rfl HO4.out ⟨X.toArray⟩ rfl (by rw [HXS.out]; unfold maxLen; omega) (by rw [HXS.out]; omega) (HB4.out.size) ?_; intro v' w5 ho5 hg5 hn5; obtain ⟨A5, c5, rfl⟩ := own_slice ho5; have HO5 := Lib.hid ho5; have HB5 := Lib.hid (HB4.out.grown hg5 HB4.out.size (fun j hj => (own_lt HO4.out hj).2)); clear ho5 hg5 hn5)
      go_roundw
      case rel =>
        have e1 : Lib.byteCells T ++ Lib.strCells ⟨X.toArray⟩ = Lib.byteCells (T ++ X) := by rw [Lib.strCells_eq, Lib.byteCells_append]
        have ho5 := HO5.out
        rw [e1, HXS.out] at ho5
        refine ⟨k + 1, A5, c5, by omega, by go_num, ?_, ?_, HB5.out⟩
        · rw [HSN.out, List.length_append]
        · rw [HSN.out, List.length_append]; exact ho5
      case measure => simp [intOf]; omega
    · obtain rfl : k = l.length := by omega
      rw [List.take_length] at HO ⊢
      have hcv : (convert 96 9 (.slice VA (txtL l).length vc)).run Tryz.prog wr = .ok (.string ⟨(txtL l).toArray⟩) wr := by
        rcases HO.out.2 with ⟨hv, h0⟩ | ⟨g, cap, cur, hv, _, hh, _⟩
        · injection hv with e1 e2 e3
          subst e1 e3
          have hT : txtL l = [] := List.eq_nil_of_length_eq_zero e2
          rw [hT]
          exact run_convert_bytes_nil (P := Tryz.prog) wr 96 5 Tryz.underlying96 Tryz.underlying5 0 0 9 Tryz.underlying9
        · injection hv with e1 _ e3
          subst e1 e3
          refine run_convert_bytes_back (P := Tryz.prog) wr 96 9 5 ⟨g, 0, none⟩ vc (txtL l) Tryz.underlying96 Tryz.underlying5 Tryz.underlying9 (fun j hj => ?_)
          have := HO.out.cells (g := g) rfl j (.int .u8 ((txtL l)[j].toNat : Int)) (by simp [Lib.byteCells, hj])
          exact this
      go_wp2_with fail
      go_ret
      exact ⟨rfl, HB.out⟩

set_option maxRecDepth 100000 in
set_option maxHeartbeats 2000000 in
theorem Texts_in (l : List Ln) (A : Option Addr) (c : Nat) (w : World) (hw : Wd w) (h : Lines w A l) (hA : A = none → l = [] ∧ c = 0) (hbk : bulk l ≤ 4000000) (hl40 : l.length * 40 ≤ 140737488351232) :
    Calls Tryz.prog 4 #[.slice A l.length c] w fun e w' => e = .returned (.bool true) ∧ Below w.heap.size w w' := by
  have hll : l.length ≤ 17592186043904 := by omega
  have HW := Lib.hid hw
  have HH := Lib.hid h
  have HAA := Lib.hid hA
  have HBK := Lib.hid hbk
  clear hw h hA hbk
  go_enter Tryz.func4, Tryz.ntmps4
  go_wp2_with fail
  refine (awake_in w HW.out).mono ?_
  rintro e w1 ⟨rfl, hb1⟩
  have HB1 := Lib.hid hb1
  clear hb1
  go_wp2_with fail
  refine (LentLines_in l A c w1 (HH.out.keep HB1.out) HAA.out hl40).mono ?_
  rintro e w2 ⟨g, cap, rfl, hr2, hb2⟩
  have HB2 := Lib.hid (ext_trans HB1.out hb2)
  have HR2 := Lib.hid hr2
  have hl2 : Lines w2 (some ⟨g, 0, none⟩) l := fun _ => ⟨g, 0, rfl, (own_lt hr2.own rfl).1, fun k hk => by
    have := hr2.range (rowC_len _) (i := k) (by omega)
    rw [rowC_left hk] at this
    rw [Nat.zero_add]; exact this⟩
  have HL2 := Lib.hid hl2
  clear hb2 hr2 hl2
  go_wp2_with fail
  refine (Text_in l _ cap w2 HL2.out hll (by have := HBK.out; omega)).mono ?_
  rintro e w3 ⟨rfl, hb3⟩
  have HB3 := Lib.hid (ext_trans HB2.out hb3)
  have HR3 := Lib.hid (HR2.out.keep hb3)
  clear hb3
  go_wp2_with fail
  refine (rText_in l A c w3 (HH.out.keep HB3.out) HBK.out).mono ?_
  rintro e w4 ⟨rfl, hb4⟩
  have HB4 := Lib.hid (ext_trans HB3.out hb4)
  have HR4 := Lib.hid (HR3.out.keep hb4)
  clear hb4
  go_wp2_with fail
  refine (KeptLines_in _ l g cap A c w4 HR4.out (HH.out.keep HB4.out) hl40).mono ?_
  rintro e w5 ⟨rfl, hb5⟩
  go_wp2_with fail
  go_ret
  exact ⟨rfl, ext_trans HB4.out hb5⟩

end Go.Proofs.YtpoijhjjbmaedaaGreatDoor.Man
