/- Packed: CutsLaw, CutsOpen. -/
import Derived.Test.YtkmpchffflemcaaGreatDoorPk12
import Derived.Test.YtkmpchffflemcaaGreatDoorPk15
import Derived.Test.YtkmpchffflemcaaGreatDoorPk18
import Derived.Test.YtkmpchffflemcaaGreatDoorRows
import Derived.ProofKit
import Derived.Lib.LaidTab
import Derived.Stop.LaidErr
import Derived.OpenShut
import Derived.ShutString
import Derived.ChangeOld
import Derived.Below
import Derived.ChangeSlices
import Derived.Lib.SmallJoins
import Derived.Deep.Slices
import Derived.Deep.Fields
import Derived.SizedLaws
import Derived.MakeChecks
import Derived.Lay
import Derived.Deep.DeepHandedRow
set_option linter.unusedVariables false
set_option linter.unusedSimpArgs false
/- Law ServerCuts: any bytes. -/
section
set_option linter.unusedVariables false
set_option linter.unusedSimpArgs false
namespace Go.Proofs.YtkmpchffflemcaaGreatDoor.Rf
open Go.RowKit
open Go.Proofs.YtkmpchffflemcaaGreatDoor.En (By RpTab Cut_in CutOut Cut0_in Cut0Out cutP cutF cutF_le RowsAt)
open Go.Proofs.YtkmpchffflemcaaGreatDoor.Oc (le val Bs Buf bytesV byteV okA)
open Go.Proofs.YtkmpchffflemcaaGreatDoor.Fl (SameR_in LentB_in LbOut mks KeptB_in ApartRows1 Rws)

theorem cutF_rows : ∀ (k : Nat) (b : By), 2 * (cutF k b).1.length ≤ (cutF k b).2.1 ∧ ∀ x ∈ (cutF k b).1, x.length ≤ 64
  | 0, _ => ⟨Nat.le_refl _, fun x hx => by simp [cutF] at hx⟩
  | k + 1, b => by
    rw [cutF]
    split
    · exact ⟨Nat.le_refl _, fun x hx => by simp at hx⟩
    · split
      · exact ⟨Nat.le_refl _, fun x hx => by simp at hx⟩
      · split
        · exact ⟨Nat.le_refl _, fun x hx => by simp at hx⟩
        · rename_i q1 q2 q3
          obtain ⟨h1, h2⟩ := cutF_rows k ((b.drop 2).drop (val (b.take 2)))
          refine ⟨by simp only [List.length_cons]; omega, fun x hx => ?_⟩
          rcases List.mem_cons.1 hx with rfl | hx
          · rw [List.length_take]; omega
          · exact h2 x hx
set_option maxRecDepth 100000 in
set_option maxHeartbeats 4000000 in
theorem cuts_in (b : By) (A : Option Addr) (c : Nat) (w : World) (hB : Bs w A b) (hc : b.length ≤ c) (hl : b.length ≤ 1048576) (ht : RpTab w) : Calls Tryz.prog 3 #[.slice A b.length c] w fun e w' => e = .returned (.bool true) ∧ Below w.heap.size w w' := by
  obtain ⟨hr1, hr2⟩ := cutF_rows (b.length + 1) b
  have hr3 := cutF_le (b.length + 1) b
  obtain ⟨L, hL⟩ : ∃ L, (cutP b).1 = L := ⟨_, rfl⟩
  have HLL := Lib.hid (show L.length ≤ 600000 ∧ ∀ x ∈ L, x.length ≤ 64 by
    rw [← hL]; unfold cutP; exact ⟨by omega, hr2⟩)
  have HLD := Lib.hid (show ∀ i, (L.getD i []).length ≤ 600000 from fun i => by
    rw [List.getD_eq_getElem?_getD]
    rcases Nat.lt_or_ge i L.length with h | h
    · rw [List.getElem?_eq_getElem h]
      have := HLL.out.2 L[i] (List.getElem_mem h)
      show L[i].length ≤ 600000; omega
    · rw [List.getElem?_eq_none h]; exact Nat.zero_le _)
  have HLB := Lib.hid (LentB_in b A c w hB (by omega))
  have HB := Lib.hid hB; have HC := Lib.hid hc; have HN := Lib.hid hl; have HT := Lib.hid ht; have HL := Lib.hid hL
  clear hB hc hl ht hL hr1 hr2 hr3
  go_enter Tryz.func3, Tryz.ntmps3
  go_wp2_with fail
  refine HLB.out.mono ?_
  rintro e w1 ⟨A1, c1, rfl, hbuf, hb1⟩
  have HBF1 := Lib.hid hbuf; have HB1 := Lib.hid hb1
  have HCU := Lib.hid (Cut_in b A1 c1 w1 (fun hne => by
    obtain ⟨g, off, e1, e2, e3⟩ := hbuf.bs (by intro e; have := congrArg List.length e; simp [Fl.mks_len] at this)
    refine ⟨g, off, e1, e2, fun i u hi => e3 i u ?_⟩
    have hi2 := (List.getElem?_eq_some_iff.1 hi).1
    rw [Oc.bytesV_app, List.getElem?_append_left hi2]
    exact hi) hbuf.okA (by have := HN.out; omega))
  clear hbuf hb1 HLB
  go_wp2_with fail
  refine HCU.out.mono ?_
  rintro e w2 ⟨v, A2, C2, rfl, hR2, hb2⟩
  rw [HL.out] at hR2
  obtain ⟨Av, cv, rfl⟩ := hR2.row.any
  have HR2 := Lib.hid hR2; have HB2 := Lib.hid hb2
  have HC0 := Lib.hid (Cut0_in b A c w2 (HB.out.keep (ext_trans HB1.out hb2)) HC.out (by have := HN.out; omega))
  obtain ⟨n2, hn2⟩ : ∃ n2, (cutP b).2.1 = n2 := ⟨_, rfl⟩
  obtain ⟨e2, he2⟩ : ∃ e2, (cutP b).2.2 = e2 := ⟨_, rfl⟩
  unfold Cut0Out at HC0
  rw [hn2, he2] at HC0 ⊢
  clear hR2 hb2 HCU hn2 he2
  go_wp2_with fail
  refine HC0.out.mono ?_
  rintro e w3 ⟨v3, rfl, hR3, hb3⟩
  rw [HL.out] at hR3
  have HSR := Lib.hid (SameR_in L _ _ w3 (HR2.out.keep hb3).rws hR3 (fun x hx => by have := HLL.out.2 x hx; omega) (by have := HLL.out.1; omega))
  have HR3 := Lib.hid (HR2.out.keep hb3); have HB3 := Lib.hid (ext_trans HB2.out hb3)
  obtain ⟨A3, c3, rfl, _⟩ := hR3
  clear hb3 HC0 HR2 HB2
  go_wp2_with fail
  refine HSR.out.mono ?_
  rintro e w4 ⟨rfl, hb4⟩
  have HR4 := Lib.hid (HR3.out.keep hb4); have HB4 := Lib.hid (ext_trans HB3.out hb4)
  clear hb4 HSR HR3 HB3
  have HKB := Lib.hid (KeptB_in b A1 A c1 c w4 (HBF1.out.same fun g _ hg => HB4.out.block g hg) (HB.out.keep (ext_trans HB1.out HB4.out)) (by have := HN.out; omega))
  go_wp2_with fail
  refine HKB.out.mono ?_
  rintro e w5 ⟨rfl, hb5⟩
  have HR5 := Lib.hid (HR4.out.keep hb5); have HB5 := Lib.hid (ext_trans HB4.out hb5)
  clear hb5 HKB HR4 HB4
  obtain ⟨hd, hhd⟩ : ∃ hd, w5.heap.size = hd := ⟨_, rfl⟩
  obtain ⟨w6, hw6⟩ : ∃ w6, w5.alloc (.cells #[.slice Av L.length cv] 24) = w6 := ⟨_, rfl⟩
  have HH6 := Lib.hid (show Arr w6 hd 24 #[.slice Av L.length cv] by rw [← hw6, ← hhd]; exact Arr.fresh w5 _ _)
  have hb6 : Below w5.heap.size w5 w6 := by rw [← hw6]; exact ext_alloc (Below.refl _ _) _
  have HAP := Lib.hid (ApartRows1 (HR5.out.keep hb6) (by have := HB5.out.size; have := hb6.size; omega) HLL.out.1 HLD.out HH6.out 1)
  have HB6 := Lib.hid (ext_trans HB5.out hb6)
  clear hb6
  go_wp2_with fail
  refine HAP.out.mono ?_
  rintro e w7 ⟨rfl, ht7⟩
  have HB7 := Lib.hid (show Below w.heap.size w w7 from Tch.fresh ht7 (ext_trans HB1.out HB6.out) (fun j hj => Nat.le_trans HB1.out.size hj))
  clear ht7 HAP hw6 hhd
  go_wp2_with fail
  refine (awake31_in w7 (HT.out.keep HB7.out)).mono ?_
  rintro e w8 ⟨rfl, hb8⟩
  have HF := Lib.hid (ext_trans HB7.out hb8)
  clear hb8
  go_wp2_with fail
  go_ret
  exact ⟨rfl, HF.out⟩

end Go.Proofs.YtkmpchffflemcaaGreatDoor.Rf
end

/- What law ServerCuts' row lists, opened for the walks; bytes that came in as an argument. -/
section
set_option linter.unusedVariables false
set_option linter.unusedSimpArgs false
namespace Go.Proofs.YtkmpchffflemcaaGreatDoor.Cuo
open Go.RowKit Go.ChangeShapes Go.WideShapes Go.ChangeAt Go.Joins Go.Deep
open Go.Proofs.YtkmpchffflemcaaGreatDoor.En (By RpTab rpT)
open Go.Proofs.YtkmpchffflemcaaGreatDoor.Oc (Bs bytesV byteV okA okA_none okA_some)

/-- there is an input that fits: a world whose listed variables were laid by the law -/
theorem witness_zip {H : Type} {enc : TypeId × Value → H} {C : Checked} {os : Os} {f : FuncId} {fn : Func} {s : OpenSpec} {conds : List PathCond} {apart : Bool} {laid : List (String × DataW Unit)} (modest : Bool) (w0 : World) (args : Array Value) (hos : w0.os = os)
    (hv : (w0.forCall (fun _ _ => 0) ⟨#[], args, []⟩).variablesZipB C.prog = true)
    (hr : ((w0.forCall (fun _ _ => 0) ⟨#[], args, []⟩).heap.toList.drop C.prog.globals.size).take ((begin C.prog (fun _ _ => 0) default).world.heap.size - C.prog.globals.size) =
      (begin C.prog (fun _ _ => 0) default).world.heap.toList.drop C.prog.globals.size)
    (hok : Input.okWideB C.prog (w0.forCall (fun _ _ => 0) ⟨#[], args, []⟩) f ⟨#[], args, []⟩ = true)
    (hrow : s.preRow enc C.prog fn conds apart laid (w0.forCall (fun _ _ => 0) ⟨#[], args, []⟩).memory args) :
    ∃ (w : World) (tape : Tape) (i : Input), w.os = os ∧ (w.forCall tape i).Shaped C.prog ∧ i.vars = [] ∧ Input.okWide C.prog (w.forCall tape i) .any w.heap.size f i ∧
      s.preRow enc C.prog fn conds apart laid (w.forCall tape i).memory i.args ∧ ({ modest := modest } : Assume).holds C.prog (lone (Frame.enter C.prog f i.args .normal) [] (w.forCall tape i)) :=
  ⟨w0, fun _ _ => 0, ⟨#[], args, []⟩, hos, World.shaped_of_ZipB hv hr, (Input.okWide_of_okWideB (base := 0) hok).1, (Input.okWide_of_okWideB hok).2, hrow, by
    simp only [Assume.holds]
    exact ⟨by simp, by simp, fun _ => Modest.zero, by simp, by simp⟩⟩

theorem gTab : Tryz.prog.globalNamed "gangway/replies.fields" = some 0 := by kernel_rfl
theorem gTabType : (Tryz.prog.globals[0]?).map (·.type) = some 384 := by kernel_rfl
theorem cellsT : Tryz.prog.cellsOf 384 = 11 := by kernel_rfl
theorem cellsE : Tryz.prog.cellsOf 3 = 1 := by kernel_rfl
def laid2 : List (String × DataW Unit) := [("gangway/crc.table", Rows.laid_gangway_crc_table), ("gangway/replies.fields", Rows.laid_gangway_replies_fields)]
theorem plain2 : (laid2.all fun x => x.2.handleName?.isNone) = true := by kernel_rfl
theorem table {W : World} (h : laidMetH Tryz.prog laid2 W) : Lib.TabIs Tryz.prog W "gangway/replies.fields" .i64 [0, 5, 0, 0, 2, 6, 5, 4, 8, 8, 8] := by
  rw [MakeChecks.laidMetH_plain _ _ _ plain2] at h
  exact Lib.tabIs_of_head (rest := []) gTab gTabType Tryz.underlying384 Tryz.underlying3 cellsE cellsT h.tail
theorem tab_is : ∀ i : Fin 11, ([0, 5, 0, 0, 2, 6, 5, 4, 8, 8, 8] : List Int).getD i.val 0 = (rpT.getD i.val 0 : Nat) := by decide
theorem tab {W : World} (h : laidMetH Tryz.prog laid2 W) : RpTab W := fun i hi => by
  rw [(table h).cell gTab i hi, tab_is ⟨i, hi⟩]
theorem bulk_pos {H : Type} (d : DataW H) : 1 ≤ Rows.uptoBulk d := by
  cases d with
  | lit l => cases l <;> simp [Rows.uptoBulk]
  | _ => simp [Rows.uptoBulk]
theorem bulk_len {H : Type} : ∀ l : List (DataW H), l.length ≤ Rows.uptoBulkAll l
  | [] => Nat.zero_le _
  | d :: l => by
    have h1 := bulk_pos d
    have h2 := bulk_len l
    simp only [Rows.uptoBulkAll, List.length_cons]
    omega
theorem one_cell : Tryz.prog.cellsOf 5 = 1 := by kernel_rfl
set_option maxRecDepth 100000 in
theorem bytes_open {H : Type} {enc : TypeId × Value → H} {W : World} {base b0 : Nat} {r : Reach} {v : Value} {d : DataW H} {p : List MemPlace}
    (hv : Value.okWide Tryz.prog W r b0 22 v) (h : DataW.Trod enc Tryz.prog W base (fun _ => true) true 22 v d p) :
    ∃ (l : By) (A : Option Addr) (c : Nat), v = .slice A l.length c ∧ Bs W A l ∧ l.length ≤ c ∧ l.length ≤ Rows.uptoBulk d := by
  obtain ⟨a0, len0, cap0, rfl⟩ := okWide_slice Tryz.underlying22 hv
  obtain ⟨fuel, hf⟩ := h
  rcases open_slice Tryz.underlying22 (show DataW.trod enc Tryz.prog W base (fun _ => true) true fuel 22 [.slice a0 len0 cap0] = some (d, p) from by simpa [Value.cells] using hf) with ⟨e1, e2⟩ | ⟨ad, len, cap, m, n, D, Pl, e1, hb, hl, hm, hmm, e2, hx⟩
  · simp at e1
    obtain ⟨rfl, rfl, rfl⟩ := e1
    exact ⟨[], none, 0, rfl, fun h => absurd rfl h, Nat.le_refl _, Nat.zero_le _⟩
  · simp at e1
    obtain ⟨rfl, rfl, rfl⟩ := e1
    simp only [if_true] at hmm
    subst hmm
    injection e2 with e2 _
    subst e2
    rw [one_cell] at hx
    have each : ∀ i, i < len0 → ∃ x : UInt8, W.cell? (ad.add i) = some (.int .u8 (x.toNat : Int)) := by
      intro i hi
      obtain ⟨cs', h1, h2⟩ := hx i (by omega)
      obtain ⟨_, hlen, hcell⟩ := World.cells?_some h1
      match cs', hlen with
      | [v0], _ =>
        obtain ⟨s0, r0, _, hwf⟩ := DataW.trod_int Tryz.underlying5 h2
        simp at r0
        subst r0
        have hwf : 0 ≤ s0 ∧ s0 < 256 := by
          simp only [Lit.wf, Bool.and_eq_true, decide_eq_true_eq] at hwf
          have e1 : IntKind.u8.min = 0 := by decide
          have e2 : IntKind.u8.max = 255 := by decide
          rw [e1, e2] at hwf
          omega
        have c0 := hcell 0 (by omega)
        rw [add_add, Nat.add_zero, Nat.mul_one] at c0
        refine ⟨UInt8.ofNat s0.toNat, ?_⟩
        rw [show (((UInt8.ofNat s0.toNat).toNat : Nat) : Int) = s0 by rw [UInt8.toNat_ofNat']; omega]
        exact c0
    obtain ⟨F, hF⟩ := choose_lt each
    refine ⟨(List.range len0).map F, some ad, m, by simp, fun hne => ?_, by simpa using hl, ?_⟩
    · obtain ⟨b, off, spot⟩ := ad
      have hlen : 0 < len0 := by
        rcases Nat.eq_zero_or_pos len0 with h | h
        · subst h; simp at hne
        · exact h
      have hc0 := hF 0 hlen
      have hspot : spot = none := by simpa [Addr.add] using World.cell?_spot hc0
      subst hspot
      refine ⟨b, off, rfl, block_lt_of_cell (a := ⟨b, off, none⟩) (by simpa [Addr.add] using hc0), fun i u hi => ?_⟩
      have hi2 : i < len0 := by
        have := (List.getElem?_eq_some_iff.1 hi).1
        simpa [bytesV] using this
      have h3 : (bytesV ((List.range len0).map F))[i]? = some (.int .u8 ((F i).toNat : Int)) := by
        simp [bytesV, byteV, List.getElem?_map, List.getElem?_range hi2]
      rw [h3] at hi
      injection hi with hi
      subst hi
      have := hF i hi2
      rwa [add_plain] at this
    · have h5 := bulk_len ((List.range len0).map D)
      simp only [List.length_map, List.length_range] at h5 ⊢
      simp only [Rows.uptoBulk]
      omega

end Go.Proofs.YtkmpchffflemcaaGreatDoor.Cuo
end
