/-
  DERIVED. GIVEN WITH THE SEED: THE CARDS: each row of YtkmpchffflemcaaGreatDoorRows.lean that lists a variable, with what it lists TIED to the program's text (the seventh form; the later family's looks); each row that meets fmt, with fmt's text TOLD by the authors' own Lean function (tested against real Go, not proved from fmt's source: count such statements apart). THE CARD IS WHAT COUNTS. Prove the row's statement (the work); the ties are given (YtkmpchffflemcaaGreatDoorTie.lean); close each card by the builder's one call (the guide's Derived/Test/ToyasCard.lean, 'card_holds'). Laid BY PROGRAM, IN A SANDBOX (cutbox-door.mjs). By AI agents, Wed Nov 11 2026. No macro, syntax, notation, axiom, sorry.
-/
import Derived.Test.YtkmpchffflemcaaGreatDoorRows
import GoSem.ClaimSeven
namespace Go.Proofs.YtkmpchffflemcaaGreatDoor
namespace Rows

/-- THE TIED CARD OF 'gangwaylaw31.ServerCuts'. -/
def serverCutsCard : Claim7 := { stood := { row := serverCutsRow, standIns := [], harness := (true, "ff811bdfb864702330e017bf9c4104e75b8bbf64eeb406c082cc55be44561231"), looks := false }, kinds := [], alts := [], laidByText := true, laidKinds := [.data, .data], laidTests := true, laidLooks := .later }
def ServerCutsCardSaid : Prop := Claim7.holds Tryz.pinned (.plain (OpenSpec.ofChange serverCutsSpec)) serverCutsCard

/-- THE SECOND FORM's CARD OF 'gangwaylaw31.ServerCuts'. -/
def serverCutsUptoCard : Claim7 := { stood := { row := serverCutsUptoRow, standIns := [], harness := (true, "ff811bdfb864702330e017bf9c4104e75b8bbf64eeb406c082cc55be44561231"), looks := false }, kinds := [], alts := [], laidByText := true, laidKinds := [.data, .data], laidTests := true, laidLooks := .later }
def ServerCutsUptoCardSaid : Prop := Claim7.holds Tryz.pinned (.plain (OpenSpec.upto serverCutsSpec)) serverCutsUptoCard
end Rows
end Go.Proofs.YtkmpchffflemcaaGreatDoor
