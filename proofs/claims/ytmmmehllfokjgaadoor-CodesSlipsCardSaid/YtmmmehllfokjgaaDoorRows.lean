/-
  NARROWER THAN 'FOR EVERY INPUT', by the rows' own cells (each row's printed sentence says how): CodesTexts: laid · CodesParses: laid · CodesNears: laid · CodesNumbers: laid · CodesBack: laid · CodesApart: laid · CodesSlips: laid.
  DERIVED. THE GIVEN ROWS OF THIS SEAT. 7 by the template 'for every input the law returns true; each argument reads behind the call as it read before'; 0 by the template 'total and deterministic' (their statements: YtmmmehllfokjgaaDoorTotals.lean).
  GIVEN WITH THE SEED: the statements are not yours to turn. If you find one false, say at which input.
  Laid BY PROGRAM, IN A SANDBOX (cutbox-rows.mjs): the forced cells as the released guide's own fill.sh prints them over the translation bceee24c411d73d9… (all of the seat's roots in one cut). By AI agents, Wed Nov 11 2026. No macro, syntax, notation, axiom, sorry.
-/
import Derived.Test.YtmmmehllfokjgaaDoorChecked
import GoSem.Claim
import GoSem.ClaimJoined
import GoSem.ClaimMapViews
import Derived.JoinedTies
import Derived.KernelRfl
namespace Go.Proofs.YtmmmehllfokjgaaDoor
/- THE CELL 'sum', in the pinned program and in every row, IS THE sha256 OF THE DUMP (.gsa) THAT YtmmmehllfokjgaaDoorProg.lean LOADS. Nothing in Lean hashes anything: it is a label: what it is worth is what the hold of that sum in a sandbox is worth. -/
noncomputable def Tryd.pinned : Pinned := { name := "ytmmmehllfokjgaadoor", sum := "bceee24c411d73d931a5338b0b303ffcd50dcb078872687abb68950577c8d3fb", checked := Tryd.checked }
namespace Rows
def none {H : Type} : Left H := { results := [], args := [] }

/- WHAT THE LISTED PACKAGE-LEVEL VARIABLES READ AS WHEN THE CALL BEGINS. Each datum BY PROGRAM (the guide's laid-datum.mjs) off the statement by which the dump's own 'gosem.cut.vars' lays the variable. In a bare row this is a premise. The card (YtmmmehllfokjgaaDoorCards.lean) ties it to the program's text. -/
def laid_gangway_codes_doubles {H : Type} : DataW H := .agg [.lit (.int .u8 0), .lit (.int .u8 2), .lit (.int .u8 4), .lit (.int .u8 6), .lit (.int .u8 8), .lit (.int .u8 10), .lit (.int .u8 12), .lit (.int .u8 14), .lit (.int .u8 16), .lit (.int .u8 18), .lit (.int .u8 20), .lit (.int .u8 22), .lit (.int .u8 24), .lit (.int .u8 26), .lit (.int .u8 28), .lit (.int .u8 30), .lit (.int .u8 5), .lit (.int .u8 7), .lit (.int .u8 1), .lit (.int .u8 3), .lit (.int .u8 13), .lit (.int .u8 15), .lit (.int .u8 9), .lit (.int .u8 11), .lit (.int .u8 21), .lit (.int .u8 23), .lit (.int .u8 17), .lit (.int .u8 19), .lit (.int .u8 29), .lit (.int .u8 31), .lit (.int .u8 25), .lit (.int .u8 27)]

/-- 'gangwaylaw15.CodesTexts': WHATEVER THE INPUT: true; the input reads as it did. -/
def codesTextsSpec : ChangeSpec := { name := "codesTexts", fn := fun _ => fun
  | [d] => { results := [.lit (.bool true)], args := [d] }
  | _ => none }
def codesTextsRow : OpenClaim := { program := "ytmmmehllfokjgaadoor", sum := "bceee24c411d73d931a5338b0b303ffcd50dcb078872687abb68950577c8d3fb", func := "gangway/gangwaylaw15.CodesTexts", spec := "codesTexts", inPlace := ["internal/bytealg.IndexByteString"], named := ["gangway/codes.doubles"], apart := false, laid := [("gangway/codes.doubles", laid_gangway_codes_doubles)] }
def CodesTextsSaid : Prop := codesTextsRow.holds Tryd.pinned (OpenSpec.ofChange codesTextsSpec)

/-- ITS FALSE NEIGHBOUR: 'it returns false'. Refute it at one input. -/
def codesTextsWrong : ChangeSpec := { name := "codesTexts", fn := fun _ => fun
  | [d] => { results := [.lit (.bool false)], args := [d] }
  | _ => none }
def CodesTextsWrongFalsely : Prop := codesTextsRow.holds Tryd.pinned (OpenSpec.ofChange codesTextsWrong)

/-- 'gangwaylaw15.CodesParses': WHATEVER THE INPUT: true; the input reads as it did. -/
def codesParsesSpec : ChangeSpec := { name := "codesParses", fn := fun _ => fun
  | [d] => { results := [.lit (.bool true)], args := [d] }
  | _ => none }
def codesParsesRow : OpenClaim := { program := "ytmmmehllfokjgaadoor", sum := "bceee24c411d73d931a5338b0b303ffcd50dcb078872687abb68950577c8d3fb", func := "gangway/gangwaylaw15.CodesParses", spec := "codesParses", inPlace := ["internal/bytealg.IndexByteString"], named := ["gangway/codes.doubles"], apart := false, laid := [("gangway/codes.doubles", laid_gangway_codes_doubles)] }
def CodesParsesSaid : Prop := codesParsesRow.holds Tryd.pinned (OpenSpec.ofChange codesParsesSpec)

/-- ITS FALSE NEIGHBOUR: 'it returns false'. Refute it at one input. -/
def codesParsesWrong : ChangeSpec := { name := "codesParses", fn := fun _ => fun
  | [d] => { results := [.lit (.bool false)], args := [d] }
  | _ => none }
def CodesParsesWrongFalsely : Prop := codesParsesRow.holds Tryd.pinned (OpenSpec.ofChange codesParsesWrong)

/-- 'gangwaylaw15.CodesNears': WHATEVER THE INPUT: true; the input reads as it did. -/
def codesNearsSpec : ChangeSpec := { name := "codesNears", fn := fun _ => fun
  | [d1, d2] => { results := [.lit (.bool true)], args := [d1, d2] }
  | _ => none }
def codesNearsRow : OpenClaim := { program := "ytmmmehllfokjgaadoor", sum := "bceee24c411d73d931a5338b0b303ffcd50dcb078872687abb68950577c8d3fb", func := "gangway/gangwaylaw15.CodesNears", spec := "codesNears", inPlace := ["internal/bytealg.IndexByteString"], named := ["gangway/codes.doubles"], apart := false, laid := [("gangway/codes.doubles", laid_gangway_codes_doubles)] }
def CodesNearsSaid : Prop := codesNearsRow.holds Tryd.pinned (OpenSpec.ofChange codesNearsSpec)

/-- ITS FALSE NEIGHBOUR: 'it returns false'. Refute it at one input. -/
def codesNearsWrong : ChangeSpec := { name := "codesNears", fn := fun _ => fun
  | [d1, d2] => { results := [.lit (.bool false)], args := [d1, d2] }
  | _ => none }
def CodesNearsWrongFalsely : Prop := codesNearsRow.holds Tryd.pinned (OpenSpec.ofChange codesNearsWrong)

/-- 'gangwaylaw15.CodesNumbers': WHATEVER THE INPUT: true; the input reads as it did. -/
def codesNumbersSpec : ChangeSpec := { name := "codesNumbers", fn := fun _ => fun
  | [] => { results := [.lit (.bool true)], args := [] }
  | _ => none }
def codesNumbersRow : OpenClaim := { program := "ytmmmehllfokjgaadoor", sum := "bceee24c411d73d931a5338b0b303ffcd50dcb078872687abb68950577c8d3fb", func := "gangway/gangwaylaw15.CodesNumbers", spec := "codesNumbers", inPlace := ["internal/bytealg.IndexByteString"], named := ["gangway/codes.doubles"], apart := false, laid := [("gangway/codes.doubles", laid_gangway_codes_doubles)] }
def CodesNumbersSaid : Prop := codesNumbersRow.holds Tryd.pinned (OpenSpec.ofChange codesNumbersSpec)

/-- ITS FALSE NEIGHBOUR: 'it returns false'. Refute it at one input. -/
def codesNumbersWrong : ChangeSpec := { name := "codesNumbers", fn := fun _ => fun
  | [] => { results := [.lit (.bool false)], args := [] }
  | _ => none }
def CodesNumbersWrongFalsely : Prop := codesNumbersRow.holds Tryd.pinned (OpenSpec.ofChange codesNumbersWrong)

/-- 'gangwaylaw15.CodesBack': WHATEVER THE INPUT: true; the input reads as it did. -/
def codesBackSpec : ChangeSpec := { name := "codesBack", fn := fun _ => fun
  | [d1, d2] => { results := [.lit (.bool true)], args := [d1, d2] }
  | _ => none }
def codesBackRow : OpenClaim := { program := "ytmmmehllfokjgaadoor", sum := "bceee24c411d73d931a5338b0b303ffcd50dcb078872687abb68950577c8d3fb", func := "gangway/gangwaylaw15.CodesBack", spec := "codesBack", inPlace := ["internal/bytealg.IndexByteString"], named := ["gangway/codes.doubles"], apart := false, laid := [("gangway/codes.doubles", laid_gangway_codes_doubles)] }
def CodesBackSaid : Prop := codesBackRow.holds Tryd.pinned (OpenSpec.ofChange codesBackSpec)

/-- ITS FALSE NEIGHBOUR: 'it returns false'. Refute it at one input. -/
def codesBackWrong : ChangeSpec := { name := "codesBack", fn := fun _ => fun
  | [d1, d2] => { results := [.lit (.bool false)], args := [d1, d2] }
  | _ => none }
def CodesBackWrongFalsely : Prop := codesBackRow.holds Tryd.pinned (OpenSpec.ofChange codesBackWrong)

/-- 'gangwaylaw15.CodesApart': WHATEVER THE INPUT: true; the input reads as it did. -/
def codesApartSpec : ChangeSpec := { name := "codesApart", fn := fun _ => fun
  | [d1, d2, d3] => { results := [.lit (.bool true)], args := [d1, d2, d3] }
  | _ => none }
def codesApartRow : OpenClaim := { program := "ytmmmehllfokjgaadoor", sum := "bceee24c411d73d931a5338b0b303ffcd50dcb078872687abb68950577c8d3fb", func := "gangway/gangwaylaw15.CodesApart", spec := "codesApart", inPlace := ["internal/bytealg.IndexByteString"], named := ["gangway/codes.doubles"], apart := false, laid := [("gangway/codes.doubles", laid_gangway_codes_doubles)] }
def CodesApartSaid : Prop := codesApartRow.holds Tryd.pinned (OpenSpec.ofChange codesApartSpec)

/-- ITS FALSE NEIGHBOUR: 'it returns false'. Refute it at one input. -/
def codesApartWrong : ChangeSpec := { name := "codesApart", fn := fun _ => fun
  | [d1, d2, d3] => { results := [.lit (.bool false)], args := [d1, d2, d3] }
  | _ => none }
def CodesApartWrongFalsely : Prop := codesApartRow.holds Tryd.pinned (OpenSpec.ofChange codesApartWrong)

/-- 'gangwaylaw15.CodesSlips': WHATEVER THE INPUT: true; the input reads as it did. -/
def codesSlipsSpec : ChangeSpec := { name := "codesSlips", fn := fun _ => fun
  | [d1, d2, d3, d4] => { results := [.lit (.bool true)], args := [d1, d2, d3, d4] }
  | _ => none }
def codesSlipsRow : OpenClaim := { program := "ytmmmehllfokjgaadoor", sum := "bceee24c411d73d931a5338b0b303ffcd50dcb078872687abb68950577c8d3fb", func := "gangway/gangwaylaw15.CodesSlips", spec := "codesSlips", inPlace := ["internal/bytealg.IndexByteString"], named := ["gangway/codes.doubles"], apart := false, laid := [("gangway/codes.doubles", laid_gangway_codes_doubles)] }
def CodesSlipsSaid : Prop := codesSlipsRow.holds Tryd.pinned (OpenSpec.ofChange codesSlipsSpec)

/-- ITS FALSE NEIGHBOUR: 'it returns false'. Refute it at one input. -/
def codesSlipsWrong : ChangeSpec := { name := "codesSlips", fn := fun _ => fun
  | [d1, d2, d3, d4] => { results := [.lit (.bool false)], args := [d1, d2, d3, d4] }
  | _ => none }
def CodesSlipsWrongFalsely : Prop := codesSlipsRow.holds Tryd.pinned (OpenSpec.ofChange codesSlipsWrong)

/- THE SECOND FORM. 'bulk': how many values and letters a reading holds, each counted each time it is reached (what is shared counts as often as it is met; a slice's spare places count too). A statement '..UptoSaid' is the law's where the arguments, and the package variables that the reading takes, are together of bulk at most 1048576: NARROWER than '..Said'. Prove '..Said' where nothing that the law and all that it calls make is longer than what came in: it says more and counts as full. Else prove '..UptoSaid'. A law counts once. -/
mutual
def uptoBulk {H : Type} : DataW H → Nat
  | .lit (.string bytes) => bytes.length + 1
  | .lit _ => 1
  | .nil => 1
  | .ptr d => uptoBulk d + 1
  | .slice elems spare => uptoBulkAll elems + uptoBulkAll spare + 1
  | .agg parts => uptoBulkAll parts + 1
  | .iface _ d => uptoBulk d + 1
  | .map entries => uptoBulkEntries entries + 1
  | .held _ => 1
def uptoBulkAll {H : Type} : List (DataW H) → Nat
  | [] => 0
  | d :: r => uptoBulk d + uptoBulkAll r
def uptoBulkEntries {H : Type} : List (Lit × DataW H) → Nat
  | [] => 0
  | x :: r => uptoBulkEntry x + uptoBulkEntries r
def uptoBulkEntry {H : Type} : Lit × DataW H → Nat
  | (.string bytes, d) => bytes.length + uptoBulk d + 1
  | (_, d) => uptoBulk d + 1
 end
def uptoSmall : (H : Type) → List (DataW H) → Bool := fun _ ds => decide (uptoBulkAll ds ≤ 1048576)
def OpenSpec.upto (s : _root_.Go.ChangeSpec) : _root_.Go.OpenSpec := { _root_.Go.OpenSpec.ofChange s with cond := some uptoSmall }

/-- 'gangwaylaw15.CodesTexts', WHERE WHAT IT READS IS OF BULK AT MOST 1048576: true; the input reads as it did. -/
def codesTextsUptoRow : OpenClaim := { program := "ytmmmehllfokjgaadoor", sum := "bceee24c411d73d931a5338b0b303ffcd50dcb078872687abb68950577c8d3fb", func := "gangway/gangwaylaw15.CodesTexts", spec := "codesTexts", inPlace := ["internal/bytealg.IndexByteString"], named := ["gangway/codes.doubles"], apart := false, laid := [("gangway/codes.doubles", laid_gangway_codes_doubles)], narrowed := true }
def CodesTextsUptoSaid : Prop := codesTextsUptoRow.holds Tryd.pinned (OpenSpec.upto codesTextsSpec)

/-- 'gangwaylaw15.CodesParses', WHERE WHAT IT READS IS OF BULK AT MOST 1048576: true; the input reads as it did. -/
def codesParsesUptoRow : OpenClaim := { program := "ytmmmehllfokjgaadoor", sum := "bceee24c411d73d931a5338b0b303ffcd50dcb078872687abb68950577c8d3fb", func := "gangway/gangwaylaw15.CodesParses", spec := "codesParses", inPlace := ["internal/bytealg.IndexByteString"], named := ["gangway/codes.doubles"], apart := false, laid := [("gangway/codes.doubles", laid_gangway_codes_doubles)], narrowed := true }
def CodesParsesUptoSaid : Prop := codesParsesUptoRow.holds Tryd.pinned (OpenSpec.upto codesParsesSpec)

/-- 'gangwaylaw15.CodesNears', WHERE WHAT IT READS IS OF BULK AT MOST 1048576: true; the input reads as it did. -/
def codesNearsUptoRow : OpenClaim := { program := "ytmmmehllfokjgaadoor", sum := "bceee24c411d73d931a5338b0b303ffcd50dcb078872687abb68950577c8d3fb", func := "gangway/gangwaylaw15.CodesNears", spec := "codesNears", inPlace := ["internal/bytealg.IndexByteString"], named := ["gangway/codes.doubles"], apart := false, laid := [("gangway/codes.doubles", laid_gangway_codes_doubles)], narrowed := true }
def CodesNearsUptoSaid : Prop := codesNearsUptoRow.holds Tryd.pinned (OpenSpec.upto codesNearsSpec)

/-- 'gangwaylaw15.CodesNumbers', WHERE WHAT IT READS IS OF BULK AT MOST 1048576: true; the input reads as it did. -/
def codesNumbersUptoRow : OpenClaim := { program := "ytmmmehllfokjgaadoor", sum := "bceee24c411d73d931a5338b0b303ffcd50dcb078872687abb68950577c8d3fb", func := "gangway/gangwaylaw15.CodesNumbers", spec := "codesNumbers", inPlace := ["internal/bytealg.IndexByteString"], named := ["gangway/codes.doubles"], apart := false, laid := [("gangway/codes.doubles", laid_gangway_codes_doubles)], narrowed := true }
def CodesNumbersUptoSaid : Prop := codesNumbersUptoRow.holds Tryd.pinned (OpenSpec.upto codesNumbersSpec)

/-- 'gangwaylaw15.CodesBack', WHERE WHAT IT READS IS OF BULK AT MOST 1048576: true; the input reads as it did. -/
def codesBackUptoRow : OpenClaim := { program := "ytmmmehllfokjgaadoor", sum := "bceee24c411d73d931a5338b0b303ffcd50dcb078872687abb68950577c8d3fb", func := "gangway/gangwaylaw15.CodesBack", spec := "codesBack", inPlace := ["internal/bytealg.IndexByteString"], named := ["gangway/codes.doubles"], apart := false, laid := [("gangway/codes.doubles", laid_gangway_codes_doubles)], narrowed := true }
def CodesBackUptoSaid : Prop := codesBackUptoRow.holds Tryd.pinned (OpenSpec.upto codesBackSpec)

/-- 'gangwaylaw15.CodesApart', WHERE WHAT IT READS IS OF BULK AT MOST 1048576: true; the input reads as it did. -/
def codesApartUptoRow : OpenClaim := { program := "ytmmmehllfokjgaadoor", sum := "bceee24c411d73d931a5338b0b303ffcd50dcb078872687abb68950577c8d3fb", func := "gangway/gangwaylaw15.CodesApart", spec := "codesApart", inPlace := ["internal/bytealg.IndexByteString"], named := ["gangway/codes.doubles"], apart := false, laid := [("gangway/codes.doubles", laid_gangway_codes_doubles)], narrowed := true }
def CodesApartUptoSaid : Prop := codesApartUptoRow.holds Tryd.pinned (OpenSpec.upto codesApartSpec)

/-- 'gangwaylaw15.CodesSlips', WHERE WHAT IT READS IS OF BULK AT MOST 1048576: true; the input reads as it did. -/
def codesSlipsUptoRow : OpenClaim := { program := "ytmmmehllfokjgaadoor", sum := "bceee24c411d73d931a5338b0b303ffcd50dcb078872687abb68950577c8d3fb", func := "gangway/gangwaylaw15.CodesSlips", spec := "codesSlips", inPlace := ["internal/bytealg.IndexByteString"], named := ["gangway/codes.doubles"], apart := false, laid := [("gangway/codes.doubles", laid_gangway_codes_doubles)], narrowed := true }
def CodesSlipsUptoSaid : Prop := codesSlipsUptoRow.holds Tryd.pinned (OpenSpec.upto codesSlipsSpec)

end Rows
end Go.Proofs.YtmmmehllfokjgaaDoor
