/-
  DERIVED. GIVEN WITH THE SEED: THE CARDS: each row of YtemighjbfanenaaGreatDoorRows.lean that lists a variable, with what it lists TIED to the program's text (the seventh form; the later family's looks); each row that meets fmt, with fmt's text TOLD by the authors' own Lean function (tested against real Go, not proved from fmt's source: count such statements apart). THE CARD IS WHAT COUNTS. Prove the row's statement (the work); the ties are given (YtemighjbfanenaaGreatDoorTie.lean); close each card by the builder's one call (the guide's Derived/Test/ToyasCard.lean, 'card_holds'). Laid BY PROGRAM, IN A SANDBOX (cutbox-door.mjs). By AI agents, Wed Nov 11 2026. No macro, syntax, notation, axiom, sorry.
-/
import Derived.Test.YtemighjbfanenaaGreatDoorRows
import GoSem.ClaimSeven
namespace Go.Proofs.YtemighjbfanenaaGreatDoor
namespace Rows

/-- THE TIED CARD OF 'gangwaylaw23.EngineKeeps'. -/
def engineKeepsCard : Claim7 := { stood := { row := engineKeepsRow, standIns := [], harness := (true, "b8176129cac3f84d1f6480593705f6b8c16cb5f4bef621e25d3205ccc38f360e"), looks := false }, kinds := [], alts := [], laidByText := true, laidKinds := [.data, .data], laidTests := true, laidLooks := .later }
def EngineKeepsCardSaid : Prop := Claim7.holds Tryz.pinned (.plain (OpenSpec.ofChange engineKeepsSpec)) engineKeepsCard

/-- THE TIED CARD OF 'gangwaylaw23.EngineNone'. -/
def engineNoneCard : Claim7 := { stood := { row := engineNoneRow, standIns := [], harness := (true, "b8176129cac3f84d1f6480593705f6b8c16cb5f4bef621e25d3205ccc38f360e"), looks := false }, kinds := [], alts := [], laidByText := true, laidKinds := [.data, .data], laidTests := true, laidLooks := .later }
def EngineNoneCardSaid : Prop := Claim7.holds Tryz.pinned (.plain (OpenSpec.ofChange engineNoneSpec)) engineNoneCard

/-- THE TIED CARD OF 'gangwaylaw23.EngineSaves'. -/
def engineSavesCard : Claim7 := { stood := { row := engineSavesRow, standIns := [], harness := (true, "b8176129cac3f84d1f6480593705f6b8c16cb5f4bef621e25d3205ccc38f360e"), looks := false }, kinds := [], alts := [], laidByText := true, laidKinds := [.data, .data], laidTests := true, laidLooks := .later }
def EngineSavesCardSaid : Prop := Claim7.holds Tryz.pinned (.plain (OpenSpec.ofChange engineSavesSpec)) engineSavesCard

/-- THE TIED CARD OF 'gangwaylaw23.EngineOrder'. -/
def engineOrderCard : Claim7 := { stood := { row := engineOrderRow, standIns := [], harness := (true, "b8176129cac3f84d1f6480593705f6b8c16cb5f4bef621e25d3205ccc38f360e"), looks := false }, kinds := [], alts := [], laidByText := true, laidKinds := [.data, .data], laidTests := true, laidLooks := .later }
def EngineOrderCardSaid : Prop := Claim7.holds Tryz.pinned (.plain (OpenSpec.ofChange engineOrderSpec)) engineOrderCard

/-- THE SECOND FORM's CARD OF 'gangwaylaw23.EngineKeeps'. -/
def engineKeepsUptoCard : Claim7 := { stood := { row := engineKeepsUptoRow, standIns := [], harness := (true, "b8176129cac3f84d1f6480593705f6b8c16cb5f4bef621e25d3205ccc38f360e"), looks := false }, kinds := [], alts := [], laidByText := true, laidKinds := [.data, .data], laidTests := true, laidLooks := .later }
def EngineKeepsUptoCardSaid : Prop := Claim7.holds Tryz.pinned (.plain (OpenSpec.upto engineKeepsSpec)) engineKeepsUptoCard

/-- THE SECOND FORM's CARD OF 'gangwaylaw23.EngineNone'. -/
def engineNoneUptoCard : Claim7 := { stood := { row := engineNoneUptoRow, standIns := [], harness := (true, "b8176129cac3f84d1f6480593705f6b8c16cb5f4bef621e25d3205ccc38f360e"), looks := false }, kinds := [], alts := [], laidByText := true, laidKinds := [.data, .data], laidTests := true, laidLooks := .later }
def EngineNoneUptoCardSaid : Prop := Claim7.holds Tryz.pinned (.plain (OpenSpec.upto engineNoneSpec)) engineNoneUptoCard

/-- THE SECOND FORM's CARD OF 'gangwaylaw23.EngineSaves'. -/
def engineSavesUptoCard : Claim7 := { stood := { row := engineSavesUptoRow, standIns := [], harness := (true, "b8176129cac3f84d1f6480593705f6b8c16cb5f4bef621e25d3205ccc38f360e"), looks := false }, kinds := [], alts := [], laidByText := true, laidKinds := [.data, .data], laidTests := true, laidLooks := .later }
def EngineSavesUptoCardSaid : Prop := Claim7.holds Tryz.pinned (.plain (OpenSpec.upto engineSavesSpec)) engineSavesUptoCard

/-- THE SECOND FORM's CARD OF 'gangwaylaw23.EngineOrder'. -/
def engineOrderUptoCard : Claim7 := { stood := { row := engineOrderUptoRow, standIns := [], harness := (true, "b8176129cac3f84d1f6480593705f6b8c16cb5f4bef621e25d3205ccc38f360e"), looks := false }, kinds := [], alts := [], laidByText := true, laidKinds := [.data, .data], laidTests := true, laidLooks := .later }
def EngineOrderUptoCardSaid : Prop := Claim7.holds Tryz.pinned (.plain (OpenSpec.upto engineOrderSpec)) engineOrderUptoCard
end Rows
end Go.Proofs.YtemighjbfanenaaGreatDoor
