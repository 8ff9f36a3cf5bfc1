/- What the rows' list says of the listed variables, opened for the walks. -/
import Derived.Test.YtpoijhjjbmaedaaGreatDoorManB
import Derived.Test.YtpoijhjjbmaedaaGreatDoorRows
import Derived.ProofKit
import Derived.OpenShut
import Derived.ShutString
import Derived.ChangeOld
import Derived.Below
import Derived.ChangeSlices
import Derived.Lib.SmallJoins
import Derived.Lib.LaidTab
import Derived.Deep.Slices
import Derived.Deep.Fields
import Derived.Stop.LaidErr
import Derived.SizedLaws
import Derived.MakeChecks
import Derived.Lay
import Derived.Deep.DeepHandedRow
import Derived.Shelf.Vars
set_option linter.unusedVariables false
set_option linter.unusedSimpArgs false
namespace Go.Proofs.YtpoijhjjbmaedaaGreatDoor.Man
open Go.ChangeShapes Go.WideShapes Go.ChangeAt Go.RowKit Go.Joins

/-- there is an input that fits: a world whose listed variables were laid by the law -/
theorem witness_zip {H : Type} {enc : TypeId × Value → H} {C : Checked} {os : Os} {f : FuncId} {fn : Func} {s : OpenSpec} {conds : List PathCond} {apart : Bool} {laid : List (String × DataW Unit)} (modest : Bool) (w0 : World) (args : Array Value) (hos : w0.os = os)
    (hv : (w0.forCall (fun _ _ => 0) ⟨#[], args, []⟩).variablesZipB C.prog = true)
    (hr : ((w0.forCall (fun _ _ => 0) ⟨#[], args, []⟩).heap.toList.drop C.prog.globals.size).take ((begin C.prog (fun _ _ => 0) default).world.heap.size - C.prog.globals.size) =
      (begin C.prog (fun _ _ => 0) default).world.heap.toList.drop C.prog.globals.size)
    (hok : Input.okWideB C.prog (w0.forCall (fun _ _ => 0) ⟨#[], args, []⟩) f ⟨#[], args, []⟩ = true)
    (hrow : s.preRow enc C.prog fn conds apart laid (w0.forCall (fun _ _ => 0) ⟨#[], args, []⟩).memory args) :
    ∃ (w : World) (tape : Tape) (i : Input), w.os = os ∧ (w.forCall tape i).Shaped C.prog ∧ i.vars = [] ∧ Input.okWide C.prog (w.forCall tape i) .any w.heap.size f i ∧
      s.preRow enc C.prog fn conds apart laid (w.forCall tape i).memory i.args ∧ ({ modest := modest } : Assume).holds C.prog (lone (Frame.enter C.prog f i.args .normal) [] (w.forCall tape i)) :=
  ⟨w0, fun _ _ => 0, ⟨#[], args, []⟩, hos, World.shaped_of_ZipB hv hr, (Input.okWide_of_okWideB (base := 0) hok).1, (Input.okWide_of_okWideB hok).2, hrow, by
    simp only [Assume.holds]
    exact ⟨by simp, by simp, fun _ => Modest.zero, by simp, by simp⟩⟩

theorem gErr : Tryz.prog.globalNamed "strconv.ErrSyntax" = some 2 := by kernel_rfl
theorem gErrType : (Tryz.prog.globals[2]?).map (·.type) = some 135 := by kernel_rfl
theorem star : "*" ++ "errors.errorString" = "*errors.errorString" := by decide
theorem rowE (u : TypeId) (h : Tryz.prog.typeName? 3 u = some "*errors.errorString") : u = 312 :=
  typeName_ptr_named (nm := "errors.errorString") (by rw [star]; kernel_rfl) (by kernel_rfl) (by decide) u (by rw [star]; exact h)
/-- the rows' list -/
def laid8 : List (String × DataW Unit) := [("math/bits.deBruijn32tab", Rows.laid_math_bits_deBruijn32tab), ("math/bits.deBruijn64tab", Rows.laid_math_bits_deBruijn64tab), ("internal/strconv.uint64pow10", Rows.laid_internal_strconv_uint64pow10), ("unicode/utf8.acceptRanges", Rows.laid_unicode_utf8_acceptRanges), ("strconv.ErrRange", Rows.laid_strconv_ErrRange), ("strconv.ErrSyntax", Rows.laid_strconv_ErrSyntax), ("gangway/codes.doubles", Rows.laid_gangway_codes_doubles), ("unicode/utf8.first", Rows.laid_unicode_utf8_first)]
theorem plain8 : (laid8.all fun x => x.2.handleName?.isNone) = true := by kernel_rfl
theorem ev_of {W : World} (h : laidMetH Tryz.prog laid8 W) : Cab.EV W := by
  rw [MakeChecks.laidMetH_plain _ _ _ plain8] at h
  obtain ⟨a, s, hv, _⟩ := laid_sentinel (show laidMet Tryz.prog (("strconv.ErrSyntax", Rows.laid_strconv_ErrSyntax) :: _) W from h.tail.tail.tail.tail.tail) gErr gErrType Tryz.underlying135 rowE Tryz.underlying312 Tryz.underlying314 rfl rfl Tryz.underlying9 (by kernel_rfl) (by kernel_rfl)
  exact ⟨312, .pointer (some a), by simpa using World.var?_cell gErr hv 0⟩
theorem gTab : Tryz.prog.globalNamed "gangway/codes.doubles" = some 0 := by kernel_rfl
theorem gTabType : (Tryz.prog.globals[0]?).map (·.type) = some 202 := by kernel_rfl
theorem cellsT : Tryz.prog.cellsOf 202 = 32 := by kernel_rfl
theorem cellsE : Tryz.prog.cellsOf 5 = 1 := by kernel_rfl
theorem table {W : World} (h : laidMetH Tryz.prog laid8 W) : Lib.TabIs Tryz.prog W "gangway/codes.doubles" .u8 [0, 2, 4, 6, 8, 10, 12, 14, 16, 18, 20, 22, 24, 26, 28, 30, 5, 7, 1, 3, 13, 15, 9, 11, 21, 23, 17, 19, 29, 31, 25, 27] := by
  rw [MakeChecks.laidMetH_plain _ _ _ plain8] at h
  exact Lib.tabIs_of_head (rest := [("unicode/utf8.first", Rows.laid_unicode_utf8_first)]) gTab gTabType Tryz.underlying202 Tryz.underlying5 cellsE cellsT h.tail.tail.tail.tail.tail.tail
theorem dbl_tab : ∀ i : Fin 32, ([0, 2, 4, 6, 8, 10, 12, 14, 16, 18, 20, 22, 24, 26, 28, 30, 5, 7, 1, 3, 13, 15, 9, 11, 21, 23, 17, 19, 29, 31, 25, 27] : List Int).getD i.val 0 = (Cod.dbl i.val : Nat) := by decide
theorem tab_of {W : World} (h : laidMetH Tryz.prog laid8 W) : Cod.Tab W := fun i hi => by
  rw [(table h).cell gTab i hi, dbl_tab ⟨i, hi⟩]
theorem max_of {W : World} (h : W.ShapedOpen Tryz.prog) : ∃ m, W.cell? ⟨1, 0, none⟩ = some (.int .i64 m) :=
  cell_of_shapedOpen_int (g := 1) (t := 3) (zero := #[.int .i64 0]) h (of_decide_eq_true (by kernel_rfl)) (by kernel_rfl) rfl (by kernel_rfl) (by kernel_rfl) Tryz.underlying3
theorem wd_of {W : World} (h : laidMetH Tryz.prog laid8 W) (hs : W.ShapedOpen Tryz.prog) : Wd W := ⟨ev_of h, tab_of h, max_of hs⟩
/-- a string argument is no longer than the form's reach -/
theorem str_reach {H : Type} {l : List UInt8} {a : ByteArray} (h : ∀ n ∈ (DataW.lit (.string l) : DataW H).weights Tryz.prog 9, n ≤ reachBytes) (e : l = a.data.toList) : a.size ≤ 140737488355328 := by
  have h1 := h l.length (by unfold DataW.weights; exact List.mem_cons_self)
  have h2 : reachBytes = 140737488351232 := rfl
  rw [e, ← Lib.size_eq] at h1
  omega

end Go.Proofs.YtpoijhjjbmaedaaGreatDoor.Man
