/-
  NARROWER THAN 'FOR EVERY INPUT', by the rows' own cells (each row's printed sentence says how): EngineKeeps: laid · EngineNone: laid · EngineSaves: laid · EngineOrder: laid.
  DERIVED. THE GIVEN ROWS OF THIS SEAT. 4 by the template 'for every input the law returns true; each argument reads behind the call as it read before'; 0 by the template 'total and deterministic' (their statements: YtemighjbfanenaaGreatDoorTotals.lean).
  GIVEN WITH THE SEED: the statements are not yours to turn. If you find one false, say at which input.
  Laid BY PROGRAM, IN A SANDBOX (cutbox-rows.mjs): the forced cells as the released guide's own fill.sh prints them over the translation 7e9d5d7e8fdef781… (all of the seat's roots in one cut). By AI agents, Wed Nov 11 2026. No macro, syntax, notation, axiom, sorry.
-/
import Derived.Test.YtemighjbfanenaaGreatDoorChecked
import GoSem.Claim
import GoSem.ClaimJoined
import GoSem.ClaimMapViews
import Derived.JoinedTies
import Derived.KernelRfl
namespace Go.Proofs.YtemighjbfanenaaGreatDoor
/- THE CELL 'sum', in the pinned program and in every row, IS THE sha256 OF THE DUMP (.gsa) THAT YtemighjbfanenaaGreatDoorProg.lean LOADS. Nothing in Lean hashes anything: it is a label: what it is worth is what the hold of that sum in a sandbox is worth. -/
noncomputable def Tryz.pinned : Pinned := { name := "ytemighjbfanenaagreatdoor", sum := "7e9d5d7e8fdef78165883e5eeb03cb07c034f40102997fb463c7a778f87f0a72", checked := Tryz.checked }
namespace Rows
def none {H : Type} : Left H := { results := [], args := [] }

/- WHAT THE LISTED PACKAGE-LEVEL VARIABLES READ AS WHEN THE CALL BEGINS. Each datum BY PROGRAM (the guide's laid-datum.mjs) off the statement by which the dump's own 'gosem.cut.vars' lays the variable. In a bare row this is a premise. The card (YtemighjbfanenaaGreatDoorCards.lean) ties it to the program's text. -/
def laid_gangway_crc_table {H : Type} : DataW H := .agg [.lit (.int .u32 0), .lit (.int .u32 498536548), .lit (.int .u32 997073096), .lit (.int .u32 651767980), .lit (.int .u32 1994146192), .lit (.int .u32 1802195444), .lit (.int .u32 1303535960), .lit (.int .u32 1342533948), .lit (.int .u32 3988292384), .lit (.int .u32 4027552580), .lit (.int .u32 3604390888), .lit (.int .u32 3412177804), .lit (.int .u32 2607071920), .lit (.int .u32 2262029012), .lit (.int .u32 2685067896), .lit (.int .u32 3183342108)]
def laid_gangway_replies_fields {H : Type} : DataW H := .agg [.lit (.int .i64 0), .lit (.int .i64 5), .lit (.int .i64 0), .lit (.int .i64 0), .lit (.int .i64 2), .lit (.int .i64 6), .lit (.int .i64 5), .lit (.int .i64 4), .lit (.int .i64 8), .lit (.int .i64 8), .lit (.int .i64 8)]

/-- 'gangwaylaw23.EngineKeeps': WHATEVER THE INPUT: true; the input reads as it did. -/
def engineKeepsSpec : ChangeSpec := { name := "engineKeeps", fn := fun _ => fun
  | [d1, d2] => { results := [.lit (.bool true)], args := [d1, d2] }
  | _ => none }
def engineKeepsRow : OpenClaim := { program := "ytemighjbfanenaagreatdoor", sum := "7e9d5d7e8fdef78165883e5eeb03cb07c034f40102997fb463c7a778f87f0a72", func := "gangway/gangwaylaw23.EngineKeeps", spec := "engineKeeps", unfollowed := true, recurses := true, named := ["gangway/crc.table", "gangway/replies.fields"], apart := false, laid := [("gangway/crc.table", laid_gangway_crc_table), ("gangway/replies.fields", laid_gangway_replies_fields)] }
def EngineKeepsSaid : Prop := engineKeepsRow.holds Tryz.pinned (OpenSpec.ofChange engineKeepsSpec)

/-- ITS FALSE NEIGHBOUR: 'it returns false'. Refute it at one input. -/
def engineKeepsWrong : ChangeSpec := { name := "engineKeeps", fn := fun _ => fun
  | [d1, d2] => { results := [.lit (.bool false)], args := [d1, d2] }
  | _ => none }
def EngineKeepsWrongFalsely : Prop := engineKeepsRow.holds Tryz.pinned (OpenSpec.ofChange engineKeepsWrong)

/-- 'gangwaylaw23.EngineNone': WHATEVER THE INPUT: true; the input reads as it did. -/
def engineNoneSpec : ChangeSpec := { name := "engineNone", fn := fun _ => fun
  | [d1, d2] => { results := [.lit (.bool true)], args := [d1, d2] }
  | _ => none }
def engineNoneRow : OpenClaim := { program := "ytemighjbfanenaagreatdoor", sum := "7e9d5d7e8fdef78165883e5eeb03cb07c034f40102997fb463c7a778f87f0a72", func := "gangway/gangwaylaw23.EngineNone", spec := "engineNone", unfollowed := true, recurses := true, named := ["gangway/crc.table", "gangway/replies.fields"], apart := false, laid := [("gangway/crc.table", laid_gangway_crc_table), ("gangway/replies.fields", laid_gangway_replies_fields)] }
def EngineNoneSaid : Prop := engineNoneRow.holds Tryz.pinned (OpenSpec.ofChange engineNoneSpec)

/-- ITS FALSE NEIGHBOUR: 'it returns false'. Refute it at one input. -/
def engineNoneWrong : ChangeSpec := { name := "engineNone", fn := fun _ => fun
  | [d1, d2] => { results := [.lit (.bool false)], args := [d1, d2] }
  | _ => none }
def EngineNoneWrongFalsely : Prop := engineNoneRow.holds Tryz.pinned (OpenSpec.ofChange engineNoneWrong)

/-- 'gangwaylaw23.EngineSaves': WHATEVER THE INPUT: true; the input reads as it did. -/
def engineSavesSpec : ChangeSpec := { name := "engineSaves", fn := fun _ => fun
  | [d1, d2, d3] => { results := [.lit (.bool true)], args := [d1, d2, d3] }
  | _ => none }
def engineSavesRow : OpenClaim := { program := "ytemighjbfanenaagreatdoor", sum := "7e9d5d7e8fdef78165883e5eeb03cb07c034f40102997fb463c7a778f87f0a72", func := "gangway/gangwaylaw23.EngineSaves", spec := "engineSaves", unfollowed := true, recurses := true, named := ["gangway/crc.table", "gangway/replies.fields"], apart := false, laid := [("gangway/crc.table", laid_gangway_crc_table), ("gangway/replies.fields", laid_gangway_replies_fields)] }
def EngineSavesSaid : Prop := engineSavesRow.holds Tryz.pinned (OpenSpec.ofChange engineSavesSpec)

/-- ITS FALSE NEIGHBOUR: 'it returns false'. Refute it at one input. -/
def engineSavesWrong : ChangeSpec := { name := "engineSaves", fn := fun _ => fun
  | [d1, d2, d3] => { results := [.lit (.bool false)], args := [d1, d2, d3] }
  | _ => none }
def EngineSavesWrongFalsely : Prop := engineSavesRow.holds Tryz.pinned (OpenSpec.ofChange engineSavesWrong)

/-- 'gangwaylaw23.EngineOrder': WHATEVER THE INPUT: true; the input reads as it did. -/
def engineOrderSpec : ChangeSpec := { name := "engineOrder", fn := fun _ => fun
  | [d1, d2] => { results := [.lit (.bool true)], args := [d1, d2] }
  | _ => none }
def engineOrderRow : OpenClaim := { program := "ytemighjbfanenaagreatdoor", sum := "7e9d5d7e8fdef78165883e5eeb03cb07c034f40102997fb463c7a778f87f0a72", func := "gangway/gangwaylaw23.EngineOrder", spec := "engineOrder", unfollowed := true, recurses := true, named := ["gangway/crc.table", "gangway/replies.fields"], apart := false, laid := [("gangway/crc.table", laid_gangway_crc_table), ("gangway/replies.fields", laid_gangway_replies_fields)] }
def EngineOrderSaid : Prop := engineOrderRow.holds Tryz.pinned (OpenSpec.ofChange engineOrderSpec)

/-- ITS FALSE NEIGHBOUR: 'it returns false'. Refute it at one input. -/
def engineOrderWrong : ChangeSpec := { name := "engineOrder", fn := fun _ => fun
  | [d1, d2] => { results := [.lit (.bool false)], args := [d1, d2] }
  | _ => none }
def EngineOrderWrongFalsely : Prop := engineOrderRow.holds Tryz.pinned (OpenSpec.ofChange engineOrderWrong)

/- THE SECOND FORM. 'bulk': how many values and letters a reading holds, each counted each time it is reached (what is shared counts as often as it is met; a slice's spare places count too). A statement '..UptoSaid' is the law's where the arguments, and the package variables that the reading takes, are together of bulk at most 1048576: NARROWER than '..Said'. Prove '..Said' where nothing that the law and all that it calls make is longer than what came in: it says more and counts as full. Else prove '..UptoSaid'. A law counts once. -/
mutual
def uptoBulk {H : Type} : DataW H → Nat
  | .lit (.string bytes) => bytes.length + 1
  | .lit _ => 1
  | .nil => 1
  | .ptr d => uptoBulk d + 1
  | .slice elems spare => uptoBulkAll elems + uptoBulkAll spare + 1
  | .agg parts => uptoBulkAll parts + 1
  | .iface _ d => uptoBulk d + 1
  | .map entries => uptoBulkEntries entries + 1
  | .held _ => 1
def uptoBulkAll {H : Type} : List (DataW H) → Nat
  | [] => 0
  | d :: r => uptoBulk d + uptoBulkAll r
def uptoBulkEntries {H : Type} : List (Lit × DataW H) → Nat
  | [] => 0
  | x :: r => uptoBulkEntry x + uptoBulkEntries r
def uptoBulkEntry {H : Type} : Lit × DataW H → Nat
  | (.string bytes, d) => bytes.length + uptoBulk d + 1
  | (_, d) => uptoBulk d + 1
 end
def uptoSmall : (H : Type) → List (DataW H) → Bool := fun _ ds => decide (uptoBulkAll ds ≤ 1048576)
def OpenSpec.upto (s : _root_.Go.ChangeSpec) : _root_.Go.OpenSpec := { _root_.Go.OpenSpec.ofChange s with cond := some uptoSmall }

/-- 'gangwaylaw23.EngineKeeps', WHERE WHAT IT READS IS OF BULK AT MOST 1048576: true; the input reads as it did. -/
def engineKeepsUptoRow : OpenClaim := { program := "ytemighjbfanenaagreatdoor", sum := "7e9d5d7e8fdef78165883e5eeb03cb07c034f40102997fb463c7a778f87f0a72", func := "gangway/gangwaylaw23.EngineKeeps", spec := "engineKeeps", unfollowed := true, recurses := true, named := ["gangway/crc.table", "gangway/replies.fields"], apart := false, laid := [("gangway/crc.table", laid_gangway_crc_table), ("gangway/replies.fields", laid_gangway_replies_fields)], narrowed := true }
def EngineKeepsUptoSaid : Prop := engineKeepsUptoRow.holds Tryz.pinned (OpenSpec.upto engineKeepsSpec)

/-- 'gangwaylaw23.EngineNone', WHERE WHAT IT READS IS OF BULK AT MOST 1048576: true; the input reads as it did. -/
def engineNoneUptoRow : OpenClaim := { program := "ytemighjbfanenaagreatdoor", sum := "7e9d5d7e8fdef78165883e5eeb03cb07c034f40102997fb463c7a778f87f0a72", func := "gangway/gangwaylaw23.EngineNone", spec := "engineNone", unfollowed := true, recurses := true, named := ["gangway/crc.table", "gangway/replies.fields"], apart := false, laid := [("gangway/crc.table", laid_gangway_crc_table), ("gangway/replies.fields", laid_gangway_replies_fields)], narrowed := true }
def EngineNoneUptoSaid : Prop := engineNoneUptoRow.holds Tryz.pinned (OpenSpec.upto engineNoneSpec)

/-- 'gangwaylaw23.EngineSaves', WHERE WHAT IT READS IS OF BULK AT MOST 1048576: true; the input reads as it did. -/
def engineSavesUptoRow : OpenClaim := { program := "ytemighjbfanenaagreatdoor", sum := "7e9d5d7e8fdef78165883e5eeb03cb07c034f40102997fb463c7a778f87f0a72", func := "gangway/gangwaylaw23.EngineSaves", spec := "engineSaves", unfollowed := true, recurses := true, named := ["gangway/crc.table", "gangway/replies.fields"], apart := false, laid := [("gangway/crc.table", laid_gangway_crc_table), ("gangway/replies.fields", laid_gangway_replies_fields)], narrowed := true }
def EngineSavesUptoSaid : Prop := engineSavesUptoRow.holds Tryz.pinned (OpenSpec.upto engineSavesSpec)

/-- 'gangwaylaw23.EngineOrder', WHERE WHAT IT READS IS OF BULK AT MOST 1048576: true; the input reads as it did. -/
def engineOrderUptoRow : OpenClaim := { program := "ytemighjbfanenaagreatdoor", sum := "7e9d5d7e8fdef78165883e5eeb03cb07c034f40102997fb463c7a778f87f0a72", func := "gangway/gangwaylaw23.EngineOrder", spec := "engineOrder", unfollowed := true, recurses := true, named := ["gangway/crc.table", "gangway/replies.fields"], apart := false, laid := [("gangway/crc.table", laid_gangway_crc_table), ("gangway/replies.fields", laid_gangway_replies_fields)], narrowed := true }
def EngineOrderUptoSaid : Prop := engineOrderUptoRow.holds Tryz.pinned (OpenSpec.upto engineOrderSpec)

end Rows
end Go.Proofs.YtemighjbfanenaaGreatDoor
