/-
  No cell of these rows narrows 'for every input' (looked for: loops, veiled, ifaces, maps, wideKeys, modest, calm, conditions, laid).
  DERIVED. THE GIVEN ROWS OF THIS SEAT. 6 by the template 'for every input the law returns true; each argument reads behind the call as it read before'; 0 by the template 'total and deterministic' (their statements: YtkgobemiggbaaaaTotals.lean).
  GIVEN WITH THE SEED: the statements are not yours to turn. If you find one false, say at which input.
  Laid BY PROGRAM, IN A SANDBOX (cutbox-rows.mjs): the forced cells as the released guide's own fill.sh prints them over the translation 293a3bce927220f1… (all of the seat's roots in one cut). By AI agents, Wed Nov 11 2026. No macro, syntax, notation, axiom, sorry.
-/
import Derived.Test.YtkgobemiggbaaaaChecked
import GoSem.Claim
import GoSem.ClaimJoined
import GoSem.ClaimMapViews
import Derived.JoinedTies
import Derived.KernelRfl
namespace Go.Proofs.Ytkgobemiggbaaaa
/- THE CELL 'sum', in the pinned program and in every row, IS THE sha256 OF THE DUMP (.gsa) THAT YtkgobemiggbaaaaProg.lean LOADS. Nothing in Lean hashes anything: it is a label: what it is worth is what the hold of that sum in a sandbox is worth. -/
noncomputable def Try.pinned : Pinned := { name := "ytkgobemiggbaaaa", sum := "293a3bce927220f1aef9b8b42ed5ea7a1d349e9c2d3c990c380b674f4b8fd665", checked := Try.checked }
namespace Rows
def none {H : Type} : Left H := { results := [], args := [] }

/-- 'gangwaylaw09.GeometryNeeds': WHATEVER THE INPUT: true; the input reads as it did. -/
def geometryNeedsSpec : ChangeSpec := { name := "geometryNeeds", fn := fun _ => fun
  | [d1, d2] => { results := [.lit (.bool true)], args := [d1, d2] }
  | _ => none }
def geometryNeedsRow : OpenClaim := { program := "ytkgobemiggbaaaa", sum := "293a3bce927220f1aef9b8b42ed5ea7a1d349e9c2d3c990c380b674f4b8fd665", func := "gangway/gangwaylaw09.GeometryNeeds", spec := "geometryNeeds", unfollowed := true, recurses := true, apart := false }
def GeometryNeedsSaid : Prop := geometryNeedsRow.holds Try.pinned (OpenSpec.ofChange geometryNeedsSpec)

/-- ITS FALSE NEIGHBOUR: 'it returns false'. Refute it at one input. -/
def geometryNeedsWrong : ChangeSpec := { name := "geometryNeeds", fn := fun _ => fun
  | [d1, d2] => { results := [.lit (.bool false)], args := [d1, d2] }
  | _ => none }
def GeometryNeedsWrongFalsely : Prop := geometryNeedsRow.holds Try.pinned (OpenSpec.ofChange geometryNeedsWrong)

/-- 'gangwaylaw09.GeometryPlans': WHATEVER THE INPUT: true; the input reads as it did. -/
def geometryPlansSpec : ChangeSpec := { name := "geometryPlans", fn := fun _ => fun
  | [d1, d2, d3] => { results := [.lit (.bool true)], args := [d1, d2, d3] }
  | _ => none }
def geometryPlansRow : OpenClaim := { program := "ytkgobemiggbaaaa", sum := "293a3bce927220f1aef9b8b42ed5ea7a1d349e9c2d3c990c380b674f4b8fd665", func := "gangway/gangwaylaw09.GeometryPlans", spec := "geometryPlans", unfollowed := true, recurses := true, apart := false }
def GeometryPlansSaid : Prop := geometryPlansRow.holds Try.pinned (OpenSpec.ofChange geometryPlansSpec)

/-- ITS FALSE NEIGHBOUR: 'it returns false'. Refute it at one input. -/
def geometryPlansWrong : ChangeSpec := { name := "geometryPlans", fn := fun _ => fun
  | [d1, d2, d3] => { results := [.lit (.bool false)], args := [d1, d2, d3] }
  | _ => none }
def GeometryPlansWrongFalsely : Prop := geometryPlansRow.holds Try.pinned (OpenSpec.ofChange geometryPlansWrong)

/-- 'gangwaylaw09.GeometryGrows': WHATEVER THE INPUT: true; the input reads as it did. -/
def geometryGrowsSpec : ChangeSpec := { name := "geometryGrows", fn := fun _ => fun
  | [d1, d2, d3, d4] => { results := [.lit (.bool true)], args := [d1, d2, d3, d4] }
  | _ => none }
def geometryGrowsRow : OpenClaim := { program := "ytkgobemiggbaaaa", sum := "293a3bce927220f1aef9b8b42ed5ea7a1d349e9c2d3c990c380b674f4b8fd665", func := "gangway/gangwaylaw09.GeometryGrows", spec := "geometryGrows", unfollowed := true, recurses := true, apart := false }
def GeometryGrowsSaid : Prop := geometryGrowsRow.holds Try.pinned (OpenSpec.ofChange geometryGrowsSpec)

/-- ITS FALSE NEIGHBOUR: 'it returns false'. Refute it at one input. -/
def geometryGrowsWrong : ChangeSpec := { name := "geometryGrows", fn := fun _ => fun
  | [d1, d2, d3, d4] => { results := [.lit (.bool false)], args := [d1, d2, d3, d4] }
  | _ => none }
def GeometryGrowsWrongFalsely : Prop := geometryGrowsRow.holds Try.pinned (OpenSpec.ofChange geometryGrowsWrong)

/-- 'gangwaylaw09.GeometryShapes': WHATEVER THE INPUT: true; the input reads as it did. -/
def geometryShapesSpec : ChangeSpec := { name := "geometryShapes", fn := fun _ => fun
  | [d] => { results := [.lit (.bool true)], args := [d] }
  | _ => none }
def geometryShapesRow : OpenClaim := { program := "ytkgobemiggbaaaa", sum := "293a3bce927220f1aef9b8b42ed5ea7a1d349e9c2d3c990c380b674f4b8fd665", func := "gangway/gangwaylaw09.GeometryShapes", spec := "geometryShapes", unfollowed := true, recurses := true, apart := false }
def GeometryShapesSaid : Prop := geometryShapesRow.holds Try.pinned (OpenSpec.ofChange geometryShapesSpec)

/-- ITS FALSE NEIGHBOUR: 'it returns false'. Refute it at one input. -/
def geometryShapesWrong : ChangeSpec := { name := "geometryShapes", fn := fun _ => fun
  | [d] => { results := [.lit (.bool false)], args := [d] }
  | _ => none }
def GeometryShapesWrongFalsely : Prop := geometryShapesRow.holds Try.pinned (OpenSpec.ofChange geometryShapesWrong)

/-- 'gangwaylaw09.GeometryNumbers': WHATEVER THE INPUT: true; the input reads as it did. -/
def geometryNumbersSpec : ChangeSpec := { name := "geometryNumbers", fn := fun _ => fun
  | [] => { results := [.lit (.bool true)], args := [] }
  | _ => none }
def geometryNumbersRow : OpenClaim := { program := "ytkgobemiggbaaaa", sum := "293a3bce927220f1aef9b8b42ed5ea7a1d349e9c2d3c990c380b674f4b8fd665", func := "gangway/gangwaylaw09.GeometryNumbers", spec := "geometryNumbers", unfollowed := true, recurses := true, apart := false }
def GeometryNumbersSaid : Prop := geometryNumbersRow.holds Try.pinned (OpenSpec.ofChange geometryNumbersSpec)

/-- ITS FALSE NEIGHBOUR: 'it returns false'. Refute it at one input. -/
def geometryNumbersWrong : ChangeSpec := { name := "geometryNumbers", fn := fun _ => fun
  | [] => { results := [.lit (.bool false)], args := [] }
  | _ => none }
def GeometryNumbersWrongFalsely : Prop := geometryNumbersRow.holds Try.pinned (OpenSpec.ofChange geometryNumbersWrong)

/-- 'gangwaylaw09.GeometryLies': WHATEVER THE INPUT: true; the input reads as it did. -/
def geometryLiesSpec : ChangeSpec := { name := "geometryLies", fn := fun _ => fun
  | [d1, d2, d3] => { results := [.lit (.bool true)], args := [d1, d2, d3] }
  | _ => none }
def geometryLiesRow : OpenClaim := { program := "ytkgobemiggbaaaa", sum := "293a3bce927220f1aef9b8b42ed5ea7a1d349e9c2d3c990c380b674f4b8fd665", func := "gangway/gangwaylaw09.GeometryLies", spec := "geometryLies", unfollowed := true, recurses := true, apart := false }
def GeometryLiesSaid : Prop := geometryLiesRow.holds Try.pinned (OpenSpec.ofChange geometryLiesSpec)

/-- ITS FALSE NEIGHBOUR: 'it returns false'. Refute it at one input. -/
def geometryLiesWrong : ChangeSpec := { name := "geometryLies", fn := fun _ => fun
  | [d1, d2, d3] => { results := [.lit (.bool false)], args := [d1, d2, d3] }
  | _ => none }
def GeometryLiesWrongFalsely : Prop := geometryLiesRow.holds Try.pinned (OpenSpec.ofChange geometryLiesWrong)

/- THE SECOND FORM. 'bulk': how many values and letters a reading holds, each counted each time it is reached (what is shared counts as often as it is met; a slice's spare places count too). A statement '..UptoSaid' is the law's where the arguments, and the package variables that the reading takes, are together of bulk at most 1048576: NARROWER than '..Said'. Prove '..Said' where nothing that the law and all that it calls make is longer than what came in: it says more and counts as full. Else prove '..UptoSaid'. A law counts once. -/
mutual
def uptoBulk {H : Type} : DataW H → Nat
  | .lit (.string bytes) => bytes.length + 1
  | .lit _ => 1
  | .nil => 1
  | .ptr d => uptoBulk d + 1
  | .slice elems spare => uptoBulkAll elems + uptoBulkAll spare + 1
  | .agg parts => uptoBulkAll parts + 1
  | .iface _ d => uptoBulk d + 1
  | .map entries => uptoBulkEntries entries + 1
  | .held _ => 1
def uptoBulkAll {H : Type} : List (DataW H) → Nat
  | [] => 0
  | d :: r => uptoBulk d + uptoBulkAll r
def uptoBulkEntries {H : Type} : List (Lit × DataW H) → Nat
  | [] => 0
  | x :: r => uptoBulkEntry x + uptoBulkEntries r
def uptoBulkEntry {H : Type} : Lit × DataW H → Nat
  | (.string bytes, d) => bytes.length + uptoBulk d + 1
  | (_, d) => uptoBulk d + 1
 end
def uptoSmall : (H : Type) → List (DataW H) → Bool := fun _ ds => decide (uptoBulkAll ds ≤ 1048576)
def OpenSpec.upto (s : _root_.Go.ChangeSpec) : _root_.Go.OpenSpec := { _root_.Go.OpenSpec.ofChange s with cond := some uptoSmall }

/-- 'gangwaylaw09.GeometryNeeds', WHERE WHAT IT READS IS OF BULK AT MOST 1048576: true; the input reads as it did. -/
def geometryNeedsUptoRow : OpenClaim := { program := "ytkgobemiggbaaaa", sum := "293a3bce927220f1aef9b8b42ed5ea7a1d349e9c2d3c990c380b674f4b8fd665", func := "gangway/gangwaylaw09.GeometryNeeds", spec := "geometryNeeds", unfollowed := true, recurses := true, apart := false, narrowed := true }
def GeometryNeedsUptoSaid : Prop := geometryNeedsUptoRow.holds Try.pinned (OpenSpec.upto geometryNeedsSpec)

/-- 'gangwaylaw09.GeometryPlans', WHERE WHAT IT READS IS OF BULK AT MOST 1048576: true; the input reads as it did. -/
def geometryPlansUptoRow : OpenClaim := { program := "ytkgobemiggbaaaa", sum := "293a3bce927220f1aef9b8b42ed5ea7a1d349e9c2d3c990c380b674f4b8fd665", func := "gangway/gangwaylaw09.GeometryPlans", spec := "geometryPlans", unfollowed := true, recurses := true, apart := false, narrowed := true }
def GeometryPlansUptoSaid : Prop := geometryPlansUptoRow.holds Try.pinned (OpenSpec.upto geometryPlansSpec)

/-- 'gangwaylaw09.GeometryGrows', WHERE WHAT IT READS IS OF BULK AT MOST 1048576: true; the input reads as it did. -/
def geometryGrowsUptoRow : OpenClaim := { program := "ytkgobemiggbaaaa", sum := "293a3bce927220f1aef9b8b42ed5ea7a1d349e9c2d3c990c380b674f4b8fd665", func := "gangway/gangwaylaw09.GeometryGrows", spec := "geometryGrows", unfollowed := true, recurses := true, apart := false, narrowed := true }
def GeometryGrowsUptoSaid : Prop := geometryGrowsUptoRow.holds Try.pinned (OpenSpec.upto geometryGrowsSpec)

/-- 'gangwaylaw09.GeometryShapes', WHERE WHAT IT READS IS OF BULK AT MOST 1048576: true; the input reads as it did. -/
def geometryShapesUptoRow : OpenClaim := { program := "ytkgobemiggbaaaa", sum := "293a3bce927220f1aef9b8b42ed5ea7a1d349e9c2d3c990c380b674f4b8fd665", func := "gangway/gangwaylaw09.GeometryShapes", spec := "geometryShapes", unfollowed := true, recurses := true, apart := false, narrowed := true }
def GeometryShapesUptoSaid : Prop := geometryShapesUptoRow.holds Try.pinned (OpenSpec.upto geometryShapesSpec)

/-- 'gangwaylaw09.GeometryNumbers', WHERE WHAT IT READS IS OF BULK AT MOST 1048576: true; the input reads as it did. -/
def geometryNumbersUptoRow : OpenClaim := { program := "ytkgobemiggbaaaa", sum := "293a3bce927220f1aef9b8b42ed5ea7a1d349e9c2d3c990c380b674f4b8fd665", func := "gangway/gangwaylaw09.GeometryNumbers", spec := "geometryNumbers", unfollowed := true, recurses := true, apart := false, narrowed := true }
def GeometryNumbersUptoSaid : Prop := geometryNumbersUptoRow.holds Try.pinned (OpenSpec.upto geometryNumbersSpec)

/-- 'gangwaylaw09.GeometryLies', WHERE WHAT IT READS IS OF BULK AT MOST 1048576: true; the input reads as it did. -/
def geometryLiesUptoRow : OpenClaim := { program := "ytkgobemiggbaaaa", sum := "293a3bce927220f1aef9b8b42ed5ea7a1d349e9c2d3c990c380b674f4b8fd665", func := "gangway/gangwaylaw09.GeometryLies", spec := "geometryLies", unfollowed := true, recurses := true, apart := false, narrowed := true }
def GeometryLiesUptoSaid : Prop := geometryLiesUptoRow.holds Try.pinned (OpenSpec.upto geometryLiesSpec)

end Rows
end Go.Proofs.Ytkgobemiggbaaaa
