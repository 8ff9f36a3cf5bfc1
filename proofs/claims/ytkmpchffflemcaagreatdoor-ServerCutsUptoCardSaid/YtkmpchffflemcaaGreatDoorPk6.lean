/- Packed: Kit23. -/
import Derived.Test.YtkmpchffflemcaaGreatDoorPk1
import Derived.Lib.SliceRun
import Derived.OrdersHeld
import Derived.Deep.RegionHeld
import Derived.OrdersIn
import Derived.Deep.MidRow
import Derived.RangeFuncCalls
set_option linter.unusedVariables false
set_option linter.unusedSimpArgs false
/- A drawn region in a round of a range over a function: what is shown outside of a round holds in it. No program in sight. -/
section
set_option linter.unusedVariables false
set_option linter.unusedSimpArgs false
namespace Go.Proofs.YtkmpchffflemcaaGreatDoor
open Go.RowKit

section
variable {P : Program} {md : Region.Mode} {ops : Array Oper} {Q : Exit → Act → World → Prop} {l n : Nat}
theorem tk_load {S : World → Prop} {fuel : Nat} {listed : Array Bool} {a : Act} {w : World} {oi : Oper} (i : Nat) (d : Option Tmp) (hS : S w) (ty : TypeId) (x : Operand) (b o : Nat) (cs : List Value) (ds : TypeDesc) (hR : ∀ w, S w → w.rangeAt b o cs)
    (hu : P.underlying ty = some ds) (hdr : ds.isRow = true) (hsz : (P.info? ty).map (·.size) = some cs.length)
    (h : wpAnyH P md ops Q S fuel (listed.setIfInBounds i true) (a.put d (.agg cs.toArray)) w)
    (hi : ops[i]? = some oi := by (simp only [List.getElem?_toArray, List.getElem?_cons_zero, List.getElem?_cons_succ]; exact rfl)) (ho : oi.op = .load ty x := by rfl) (hx : a.eval x = .pointer (some ⟨b, o, none⟩) := by rfl)
    (hs : Region.noSelect ops = true := by kernel_rfl) (hf : Region.free md ops listed i = true := by kernel_rfl) (hr : (Region.ready md ops listed).contains i = true := by kernel_rfl)
    (hQ : ∀ c a w, Q (.panic c) (a.put d (.agg cs.toArray)) w → Q (.panic c) a w := by exact (fun _ _ _ h => h)) (hd : oi.dst = d := by rfl) (hw : Region.wanted oi (yielded ops a.tmps) = true := by rfl) :
    wpAnyH P md ops Q S (fuel + 1) listed a w := by
  subst hd
  exact wpAnyH_take hi hs hf hr hQ (yieldsIf_load_mid hw ty x ho b o hx cs ds hR hu hdr hsz) hS h
end

end Go.Proofs.YtkmpchffflemcaaGreatDoor
end
