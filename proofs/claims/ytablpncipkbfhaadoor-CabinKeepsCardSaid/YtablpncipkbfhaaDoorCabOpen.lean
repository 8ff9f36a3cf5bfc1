/- A cabin that came in as an argument, opened; what the rows' list says of strconv.ErrSyntax. -/
import Derived.Test.YtablpncipkbfhaaDoorCab9
import Derived.Test.YtablpncipkbfhaaDoorRows
import Derived.ProofKit
import Derived.OpenShut
import Derived.ShutString
import Derived.ChangeOld
import Derived.Below
import Derived.ChangeSlices
import Derived.Lib.SmallJoins
import Derived.Deep.Slices
import Derived.Deep.Fields
import Derived.Stop.LaidErr
import Derived.SizedLaws
import Derived.MakeChecks
import Derived.Lay
import Derived.Deep.DeepHandedRow
namespace Go.Proofs.YtablpncipkbfhaaDoor.Cab
open Go.ChangeShapes Go.WideShapes Go.ChangeAt Go.RowKit Go.Joins

set_option maxRecDepth 100000 in
theorem cabin_open {H : Type} {enc : TypeId × Value → H} {W : World} {base b0 : Nat} {r : Reach} {v : Value} {d : DataW H} {p : List MemPlace}
    (hv : Value.okWide Tryd.prog W r b0 24 v) (h : DataW.Trod enc Tryd.prog W base (fun _ => true) true 24 v d p)
    (hs : ∀ n ∈ d.weights Tryd.prog 24, n ≤ reachBytes) :
    ∃ (r wd : Int) (zs : List Int) (A : Option Addr) (c : Nat), v = .agg #[.int .i64 r, .int .i64 wd, .slice A zs.length c] ∧ Ints W A zs ∧ (A = none → zs = [] ∧ c = 0) ∧ zs.length ≤ 17592186043904 := by
  obtain ⟨v0, v1, v2, y0, y1, y2, n, rfl, rfl, rfl, h0, h1, h2⟩ := open_agg3 Tryd.underlying24 (by kernel_rfl) (by kernel_rfl) hv h
  obtain ⟨r0, e0, _, _⟩ := DataW.trod_int Tryd.underlying3 h0
  obtain ⟨r1, e1, _, _⟩ := DataW.trod_int Tryd.underlying3 h1
  simp at e0 e1
  subst e0 e1
  rcases open_ints Tryd.underlying22 Tryd.underlying3 (by kernel_rfl) h2 with ⟨e2, hx⟩ | ⟨a, len, cap, zs, e2, hb, hl, hm, hzl, hx, hcell, hwf⟩
  · simp at e2
    subst e2
    exact ⟨r0, r1, [], none, 0, rfl, fun h => absurd rfl h, fun _ => ⟨rfl, rfl⟩, by simp⟩
  · simp at e2
    subst e2
    have hzl' : zs.length = cap := by rw [hzl]; rfl
    have htl : (zs.take len).length = len := by rw [List.length_take]; omega
    have hw := hs ((zs.take len).length * 8 + (zs.drop len).length * 8) (by
      have hu : Tryd.prog.underlying 24 = _ := Tryd.underlying24
      simp only [DataW.weights, hu]
      refine DataW.weights_mem_each (j := 2) (t := 22) rfl rfl _ ?_
      rw [hx]
      have hb8 : Tryd.prog.bytesOf 3 = 8 := by kernel_rfl
      simp only [DataW.weights, Tryd.underlying22, hb8, lits, List.length_map, ← Nat.add_mul]
      exact List.mem_cons_self)
    have hr : reachBytes = 140737488351232 := rfl
    refine ⟨r0, r1, zs.take len, some a, cap, by rw [htl], fun hne => ?_, (fun h => by cases h), by omega⟩
    obtain ⟨b, off, spot⟩ := a
    have hlen : 0 < len := by rcases Nat.eq_zero_or_pos len with h | h; · subst h; simp at hne
                              · exact h
    have hc0 := hcell 0 (by omega)
    have hspot : spot = none := by simpa [Addr.add] using World.cell?_spot hc0
    subst hspot
    refine ⟨b, off, rfl, block_lt_of_cell (a := ⟨b, off, none⟩) (by simpa [Addr.add] using hc0), fun j hj => ?_⟩
    have hcj := hcell j (by omega)
    have e : (zs.take len).getD j 0 = zs.getD j 0 := by
      rw [List.getD_eq_getElem?_getD, List.getD_eq_getElem?_getD, List.getElem?_take, if_pos (by omega)]
    rw [e, ← hcj]
    congr 1
    unfold Addr.add; split
    · subst_vars; rfl
    · rfl

/-- there is an input that fits: a world whose listed variables were laid by the law -/
theorem witness_zip {H : Type} {enc : TypeId × Value → H} {C : Checked} {os : Os} {f : FuncId} {fn : Func} {s : OpenSpec} {conds : List PathCond} {apart : Bool} {laid : List (String × DataW Unit)} (modest : Bool) (w0 : World) (args : Array Value) (hos : w0.os = os)
    (hv : (w0.forCall (fun _ _ => 0) ⟨#[], args, []⟩).variablesZipB C.prog = true)
    (hr : ((w0.forCall (fun _ _ => 0) ⟨#[], args, []⟩).heap.toList.drop C.prog.globals.size).take ((begin C.prog (fun _ _ => 0) default).world.heap.size - C.prog.globals.size) =
      (begin C.prog (fun _ _ => 0) default).world.heap.toList.drop C.prog.globals.size)
    (hok : Input.okWideB C.prog (w0.forCall (fun _ _ => 0) ⟨#[], args, []⟩) f ⟨#[], args, []⟩ = true)
    (hrow : s.preRow enc C.prog fn conds apart laid (w0.forCall (fun _ _ => 0) ⟨#[], args, []⟩).memory args) :
    ∃ (w : World) (tape : Tape) (i : Input), w.os = os ∧ (w.forCall tape i).Shaped C.prog ∧ i.vars = [] ∧ Input.okWide C.prog (w.forCall tape i) .any w.heap.size f i ∧
      s.preRow enc C.prog fn conds apart laid (w.forCall tape i).memory i.args ∧ ({ modest := modest } : Assume).holds C.prog (lone (Frame.enter C.prog f i.args .normal) [] (w.forCall tape i)) :=
  ⟨w0, fun _ _ => 0, ⟨#[], args, []⟩, hos, World.shaped_of_ZipB hv hr, (Input.okWide_of_okWideB (base := 0) hok).1, (Input.okWide_of_okWideB hok).2, hrow, by
    simp only [Assume.holds]
    exact ⟨by simp, by simp, fun _ => Modest.zero, by simp, by simp⟩⟩

theorem gErr : Tryd.prog.globalNamed "strconv.ErrSyntax" = some 1 := by kernel_rfl
theorem gErrType : (Tryd.prog.globals[1]?).map (·.type) = some 63 := by kernel_rfl
theorem star : "*" ++ "errors.errorString" = "*errors.errorString" := by decide
theorem rowE (u : TypeId) (h : Tryd.prog.typeName? 3 u = some "*errors.errorString") : u = 206 :=
  typeName_ptr_named (nm := "errors.errorString") (by rw [star]; kernel_rfl) (by kernel_rfl) (by decide) u (by rw [star]; exact h)
/-- the rows' list -/
def laid5 : List (String × DataW Unit) := [("math/bits.deBruijn32tab", Rows.laid_math_bits_deBruijn32tab), ("math/bits.deBruijn64tab", Rows.laid_math_bits_deBruijn64tab), ("internal/strconv.uint64pow10", Rows.laid_internal_strconv_uint64pow10), ("strconv.ErrRange", Rows.laid_strconv_ErrRange), ("strconv.ErrSyntax", Rows.laid_strconv_ErrSyntax)]
theorem plain5 : (laid5.all fun x => x.2.handleName?.isNone) = true := by kernel_rfl
/-- what the rows' list gives: strconv.ErrSyntax holds an interface value -/
theorem ev_of {W : World} (h : laidMetH Tryd.prog laid5 W) : EV W := by
  rw [MakeChecks.laidMetH_plain _ _ _ plain5] at h
  obtain ⟨a, s, hv, _⟩ := laid_sentinel (show laidMet Tryd.prog [("strconv.ErrSyntax", Rows.laid_strconv_ErrSyntax)] W from h.tail.tail.tail.tail) gErr gErrType Tryd.underlying63 rowE Tryd.underlying206 Tryd.underlying208 rfl rfl Tryd.underlying9 (by kernel_rfl) (by kernel_rfl)
  exact ⟨206, .pointer (some a), by simpa using World.var?_cell gErr hv 0⟩

end Go.Proofs.YtablpncipkbfhaaDoor.Cab
