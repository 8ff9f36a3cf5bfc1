/-
  DERIVED. GIVEN WITH THE SEED: THE CARDS: each row of YtablpncipkbfhaaDoorRows.lean that lists a variable, with what it lists TIED to the program's text (the seventh form; the later family's looks); each row that meets fmt, with fmt's text TOLD by the authors' own Lean function (tested against real Go, not proved from fmt's source: count such statements apart). THE CARD IS WHAT COUNTS. Prove the row's statement (the work); the ties are given (YtablpncipkbfhaaDoorTie.lean); close each card by the builder's one call (the guide's Derived/Test/ToyasCard.lean, 'card_holds'). Laid BY PROGRAM, IN A SANDBOX (cutbox-door.mjs). By AI agents, Wed Nov 11 2026. No macro, syntax, notation, axiom, sorry.
-/
import Derived.Test.YtablpncipkbfhaaDoorRows
import GoSem.ClaimSeven
namespace Go.Proofs.YtablpncipkbfhaaDoor
namespace Rows

/-- THE TIED CARD OF 'gangwaylaw14.CabinParses'. -/
def cabinParsesCard : Claim7 := { stood := { row := cabinParsesRow, standIns := [], harness := (true, "763fea79ed2595800aef38f4a2323f89575996d8f1e826d2021473a9184c316b"), looks := true }, kinds := [], alts := [], laidByText := true, laidKinds := [.data, .data, .data, .sentinel, .sentinel], laidTests := true, laidLooks := .later }
def CabinParsesCardSaid : Prop := Claim7.holds Tryd.pinned (.plain (OpenSpec.ofChange cabinParsesSpec)) cabinParsesCard

/-- THE TIED CARD OF 'gangwaylaw14.CabinBack'. -/
def cabinBackCard : Claim7 := { stood := { row := cabinBackRow, standIns := [], harness := (true, "763fea79ed2595800aef38f4a2323f89575996d8f1e826d2021473a9184c316b"), looks := true }, kinds := [], alts := [], laidByText := true, laidKinds := [.data, .data, .data, .sentinel, .sentinel], laidTests := true, laidLooks := .later }
def CabinBackCardSaid : Prop := Claim7.holds Tryd.pinned (.plain (OpenSpec.ofChange cabinBackSpec)) cabinBackCard

/-- THE TIED CARD OF 'gangwaylaw14.CabinFar'. -/
def cabinFarCard : Claim7 := { stood := { row := cabinFarRow, standIns := [], harness := (true, "763fea79ed2595800aef38f4a2323f89575996d8f1e826d2021473a9184c316b"), looks := true }, kinds := [], alts := [], laidByText := true, laidKinds := [.data, .data, .data, .sentinel, .sentinel], laidTests := true, laidLooks := .later }
def CabinFarCardSaid : Prop := Claim7.holds Tryd.pinned (.plain (OpenSpec.ofChange cabinFarSpec)) cabinFarCard

/-- THE TIED CARD OF 'gangwaylaw14.CabinSeats'. -/
def cabinSeatsCard : Claim7 := { stood := { row := cabinSeatsRow, standIns := [], harness := (true, "763fea79ed2595800aef38f4a2323f89575996d8f1e826d2021473a9184c316b"), looks := true }, kinds := [], alts := [], laidByText := true, laidKinds := [.data, .data, .data, .sentinel, .sentinel], laidTests := true, laidLooks := .later }
def CabinSeatsCardSaid : Prop := Claim7.holds Tryd.pinned (.plain (OpenSpec.ofChange cabinSeatsSpec)) cabinSeatsCard

/-- THE TIED CARD OF 'gangwaylaw14.CabinChecks'. -/
def cabinChecksCard : Claim7 := { stood := { row := cabinChecksRow, standIns := [], harness := (true, "763fea79ed2595800aef38f4a2323f89575996d8f1e826d2021473a9184c316b"), looks := true }, kinds := [], alts := [], laidByText := true, laidKinds := [.data, .data, .data, .sentinel, .sentinel], laidTests := true, laidLooks := .later }
def CabinChecksCardSaid : Prop := Claim7.holds Tryd.pinned (.plain (OpenSpec.ofChange cabinChecksSpec)) cabinChecksCard

/-- THE TIED CARD OF 'gangwaylaw14.CabinKeeps'. -/
def cabinKeepsCard : Claim7 := { stood := { row := cabinKeepsRow, standIns := [], harness := (true, "763fea79ed2595800aef38f4a2323f89575996d8f1e826d2021473a9184c316b"), looks := true }, kinds := [], alts := [], laidByText := true, laidKinds := [.data, .data, .data, .sentinel, .sentinel], laidTests := true, laidLooks := .later }
def CabinKeepsCardSaid : Prop := Claim7.holds Tryd.pinned (.plain (OpenSpec.ofChange cabinKeepsSpec)) cabinKeepsCard

/-- THE TIED CARD OF 'gangwaylaw14.CabinBlocks'. -/
def cabinBlocksCard : Claim7 := { stood := { row := cabinBlocksRow, standIns := [], harness := (true, "763fea79ed2595800aef38f4a2323f89575996d8f1e826d2021473a9184c316b"), looks := true }, kinds := [], alts := [], laidByText := true, laidKinds := [.data, .data, .data, .sentinel, .sentinel], laidTests := true, laidLooks := .later }
def CabinBlocksCardSaid : Prop := Claim7.holds Tryd.pinned (.plain (OpenSpec.ofChange cabinBlocksSpec)) cabinBlocksCard

/-- THE SECOND FORM's CARD OF 'gangwaylaw14.CabinParses'. -/
def cabinParsesUptoCard : Claim7 := { stood := { row := cabinParsesUptoRow, standIns := [], harness := (true, "763fea79ed2595800aef38f4a2323f89575996d8f1e826d2021473a9184c316b"), looks := true }, kinds := [], alts := [], laidByText := true, laidKinds := [.data, .data, .data, .sentinel, .sentinel], laidTests := true, laidLooks := .later }
def CabinParsesUptoCardSaid : Prop := Claim7.holds Tryd.pinned (.plain (OpenSpec.upto cabinParsesSpec)) cabinParsesUptoCard

/-- THE SECOND FORM's CARD OF 'gangwaylaw14.CabinBack'. -/
def cabinBackUptoCard : Claim7 := { stood := { row := cabinBackUptoRow, standIns := [], harness := (true, "763fea79ed2595800aef38f4a2323f89575996d8f1e826d2021473a9184c316b"), looks := true }, kinds := [], alts := [], laidByText := true, laidKinds := [.data, .data, .data, .sentinel, .sentinel], laidTests := true, laidLooks := .later }
def CabinBackUptoCardSaid : Prop := Claim7.holds Tryd.pinned (.plain (OpenSpec.upto cabinBackSpec)) cabinBackUptoCard

/-- THE SECOND FORM's CARD OF 'gangwaylaw14.CabinFar'. -/
def cabinFarUptoCard : Claim7 := { stood := { row := cabinFarUptoRow, standIns := [], harness := (true, "763fea79ed2595800aef38f4a2323f89575996d8f1e826d2021473a9184c316b"), looks := true }, kinds := [], alts := [], laidByText := true, laidKinds := [.data, .data, .data, .sentinel, .sentinel], laidTests := true, laidLooks := .later }
def CabinFarUptoCardSaid : Prop := Claim7.holds Tryd.pinned (.plain (OpenSpec.upto cabinFarSpec)) cabinFarUptoCard

/-- THE SECOND FORM's CARD OF 'gangwaylaw14.CabinSeats'. -/
def cabinSeatsUptoCard : Claim7 := { stood := { row := cabinSeatsUptoRow, standIns := [], harness := (true, "763fea79ed2595800aef38f4a2323f89575996d8f1e826d2021473a9184c316b"), looks := true }, kinds := [], alts := [], laidByText := true, laidKinds := [.data, .data, .data, .sentinel, .sentinel], laidTests := true, laidLooks := .later }
def CabinSeatsUptoCardSaid : Prop := Claim7.holds Tryd.pinned (.plain (OpenSpec.upto cabinSeatsSpec)) cabinSeatsUptoCard

/-- THE SECOND FORM's CARD OF 'gangwaylaw14.CabinChecks'. -/
def cabinChecksUptoCard : Claim7 := { stood := { row := cabinChecksUptoRow, standIns := [], harness := (true, "763fea79ed2595800aef38f4a2323f89575996d8f1e826d2021473a9184c316b"), looks := true }, kinds := [], alts := [], laidByText := true, laidKinds := [.data, .data, .data, .sentinel, .sentinel], laidTests := true, laidLooks := .later }
def CabinChecksUptoCardSaid : Prop := Claim7.holds Tryd.pinned (.plain (OpenSpec.upto cabinChecksSpec)) cabinChecksUptoCard

/-- THE SECOND FORM's CARD OF 'gangwaylaw14.CabinKeeps'. -/
def cabinKeepsUptoCard : Claim7 := { stood := { row := cabinKeepsUptoRow, standIns := [], harness := (true, "763fea79ed2595800aef38f4a2323f89575996d8f1e826d2021473a9184c316b"), looks := true }, kinds := [], alts := [], laidByText := true, laidKinds := [.data, .data, .data, .sentinel, .sentinel], laidTests := true, laidLooks := .later }
def CabinKeepsUptoCardSaid : Prop := Claim7.holds Tryd.pinned (.plain (OpenSpec.upto cabinKeepsSpec)) cabinKeepsUptoCard

/-- THE SECOND FORM's CARD OF 'gangwaylaw14.CabinBlocks'. -/
def cabinBlocksUptoCard : Claim7 := { stood := { row := cabinBlocksUptoRow, standIns := [], harness := (true, "763fea79ed2595800aef38f4a2323f89575996d8f1e826d2021473a9184c316b"), looks := true }, kinds := [], alts := [], laidByText := true, laidKinds := [.data, .data, .data, .sentinel, .sentinel], laidTests := true, laidLooks := .later }
def CabinBlocksUptoCardSaid : Prop := Claim7.holds Tryd.pinned (.plain (OpenSpec.upto cabinBlocksSpec)) cabinBlocksUptoCard
end Rows
end Go.Proofs.YtablpncipkbfhaaDoor
