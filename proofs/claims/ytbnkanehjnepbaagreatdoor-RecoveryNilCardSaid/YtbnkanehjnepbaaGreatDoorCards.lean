/-
  DERIVED. GIVEN WITH THE SEED: THE CARDS: each row of YtbnkanehjnepbaaGreatDoorRows.lean that lists a variable, with what it lists TIED to the program's text (the seventh form; the later family's looks); each row that meets fmt, with fmt's text TOLD by the authors' own Lean function (tested against real Go, not proved from fmt's source: count such statements apart). THE CARD IS WHAT COUNTS. Prove the row's statement (the work); the ties are given (YtbnkanehjnepbaaGreatDoorTie.lean); close each card by the builder's one call (the guide's Derived/Test/ToyasCard.lean, 'card_holds'). Laid BY PROGRAM, IN A SANDBOX (cutbox-door.mjs). By AI agents, Wed Nov 11 2026. No macro, syntax, notation, axiom, sorry.
-/
import Derived.Test.YtbnkanehjnepbaaGreatDoorRows
import GoSem.ClaimSeven
namespace Go.Proofs.YtbnkanehjnepbaaGreatDoor
namespace Rows

/-- THE TIED CARD OF 'gangwaylaw24.RecoveryNil'. -/
def recoveryNilCard : Claim7 := { stood := { row := recoveryNilRow, standIns := [], harness := (true, "92d2fa0f98c8b871c91d6e2db7b86968986c3415d2430b97fff55802f20cf278"), looks := false }, kinds := [], alts := [], laidByText := true, laidKinds := [.data], laidTests := true, laidLooks := .later }
def RecoveryNilCardSaid : Prop := Claim7.holds Tryz.pinned (.plain (OpenSpec.ofChange recoveryNilSpec)) recoveryNilCard

/-- THE TIED CARD OF 'gangwaytop.TopStreams'. -/
def topStreamsCard : Claim7 := { stood := { row := topStreamsRow, standIns := [], harness := (true, "92d2fa0f98c8b871c91d6e2db7b86968986c3415d2430b97fff55802f20cf278"), looks := false }, kinds := [], alts := [], laidByText := true, laidKinds := [.data, .data], laidTests := true, laidLooks := .later }
def TopStreamsCardSaid : Prop := Claim7.holds Tryz.pinned (.plain (OpenSpec.ofChange topStreamsSpec)) topStreamsCard

/-- THE SECOND FORM's CARD OF 'gangwaylaw24.RecoveryNil'. -/
def recoveryNilUptoCard : Claim7 := { stood := { row := recoveryNilUptoRow, standIns := [], harness := (true, "92d2fa0f98c8b871c91d6e2db7b86968986c3415d2430b97fff55802f20cf278"), looks := false }, kinds := [], alts := [], laidByText := true, laidKinds := [.data], laidTests := true, laidLooks := .later }
def RecoveryNilUptoCardSaid : Prop := Claim7.holds Tryz.pinned (.plain (OpenSpec.upto recoveryNilSpec)) recoveryNilUptoCard

/-- THE SECOND FORM's CARD OF 'gangwaytop.TopStreams'. -/
def topStreamsUptoCard : Claim7 := { stood := { row := topStreamsUptoRow, standIns := [], harness := (true, "92d2fa0f98c8b871c91d6e2db7b86968986c3415d2430b97fff55802f20cf278"), looks := false }, kinds := [], alts := [], laidByText := true, laidKinds := [.data, .data], laidTests := true, laidLooks := .later }
def TopStreamsUptoCardSaid : Prop := Claim7.holds Tryz.pinned (.plain (OpenSpec.upto topStreamsSpec)) topStreamsUptoCard
end Rows
end Go.Proofs.YtbnkanehjnepbaaGreatDoor
