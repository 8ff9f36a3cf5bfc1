/-
  DERIVED. GIVEN WITH THE SEED: THE CARDS: each row of YtpoijhjjbmaedaaGreatDoorRows.lean that lists a variable, with what it lists TIED to the program's text (the seventh form; the later family's looks); each row that meets fmt, with fmt's text TOLD by the authors' own Lean function (tested against real Go, not proved from fmt's source: count such statements apart). THE CARD IS WHAT COUNTS. Prove the row's statement (the work); the ties are given (YtpoijhjjbmaedaaGreatDoorTie.lean); close each card by the builder's one call (the guide's Derived/Test/ToyasCard.lean, 'card_holds'). Laid BY PROGRAM, IN A SANDBOX (cutbox-door.mjs). By AI agents, Wed Nov 11 2026. No macro, syntax, notation, axiom, sorry.
-/
import Derived.Test.YtpoijhjjbmaedaaGreatDoorRows
import GoSem.ClaimSeven
namespace Go.Proofs.YtpoijhjjbmaedaaGreatDoor
namespace Rows

/-- THE TIED CARD OF 'gangwaylaw29.ManifestOf'. -/
def manifestOfCard : Claim7 := { stood := { row := manifestOfRow, standIns := [], harness := (true, "65730b952da2de88ddba2b91f6b2bbe89e1a6360e208b48bf41fd80d6c7af5a5"), looks := true }, kinds := [], alts := [], laidByText := true, laidKinds := [.data, .data, .data, .data, .sentinel, .sentinel, .data, .pinned], laidTests := true, laidLooks := .later }
def ManifestOfCardSaid : Prop := Claim7.holds Tryz.pinned (.plain (OpenSpec.ofChange manifestOfSpec)) manifestOfCard

/-- THE TIED CARD OF 'gangwaylaw29.ManifestTexts'. -/
def manifestTextsCard : Claim7 := { stood := { row := manifestTextsRow, standIns := [], harness := (true, "65730b952da2de88ddba2b91f6b2bbe89e1a6360e208b48bf41fd80d6c7af5a5"), looks := true }, kinds := [], alts := [], laidByText := true, laidKinds := [.data, .data, .data, .data, .sentinel, .sentinel, .data, .pinned], laidTests := true, laidLooks := .later }
def ManifestTextsCardSaid : Prop := Claim7.holds Tryz.pinned (.plain (OpenSpec.ofChange manifestTextsSpec)) manifestTextsCard

/-- THE TIED CARD OF 'gangwaylaw29.ManifestParses'. -/
def manifestParsesCard : Claim7 := { stood := { row := manifestParsesRow, standIns := [], harness := (true, "65730b952da2de88ddba2b91f6b2bbe89e1a6360e208b48bf41fd80d6c7af5a5"), looks := true }, kinds := [], alts := [], laidByText := true, laidKinds := [.data, .data, .data, .data, .sentinel, .sentinel, .data, .pinned], laidTests := true, laidLooks := .later }
def ManifestParsesCardSaid : Prop := Claim7.holds Tryz.pinned (.plain (OpenSpec.ofChange manifestParsesSpec)) manifestParsesCard

/-- THE TIED CARD OF 'gangwaylaw29.ManifestSound'. -/
def manifestSoundCard : Claim7 := { stood := { row := manifestSoundRow, standIns := [], harness := (true, "65730b952da2de88ddba2b91f6b2bbe89e1a6360e208b48bf41fd80d6c7af5a5"), looks := true }, kinds := [], alts := [], laidByText := true, laidKinds := [.data, .data, .data, .data, .sentinel, .sentinel, .data, .pinned], laidTests := true, laidLooks := .later }
def ManifestSoundCardSaid : Prop := Claim7.holds Tryz.pinned (.plain (OpenSpec.ofChange manifestSoundSpec)) manifestSoundCard

/-- THE TIED CARD OF 'gangwaylaw29.ManifestAgain'. -/
def manifestAgainCard : Claim7 := { stood := { row := manifestAgainRow, standIns := [], harness := (true, "65730b952da2de88ddba2b91f6b2bbe89e1a6360e208b48bf41fd80d6c7af5a5"), looks := true }, kinds := [], alts := [], laidByText := true, laidKinds := [.data, .data, .data, .data, .sentinel, .sentinel, .data, .pinned], laidTests := true, laidLooks := .later }
def ManifestAgainCardSaid : Prop := Claim7.holds Tryz.pinned (.plain (OpenSpec.ofChange manifestAgainSpec)) manifestAgainCard

/-- THE TIED CARD OF 'gangwaylaw29.ManifestKeeps'. -/
def manifestKeepsCard : Claim7 := { stood := { row := manifestKeepsRow, standIns := [], harness := (true, "65730b952da2de88ddba2b91f6b2bbe89e1a6360e208b48bf41fd80d6c7af5a5"), looks := true }, kinds := [], alts := [], laidByText := true, laidKinds := [.data, .data, .data, .data, .sentinel, .sentinel, .data, .pinned], laidTests := true, laidLooks := .later }
def ManifestKeepsCardSaid : Prop := Claim7.holds Tryz.pinned (.plain (OpenSpec.ofChange manifestKeepsSpec)) manifestKeepsCard

/-- THE TIED CARD OF 'gangwaylaw29.ManifestBack'. -/
def manifestBackCard : Claim7 := { stood := { row := manifestBackRow, standIns := [], harness := (true, "65730b952da2de88ddba2b91f6b2bbe89e1a6360e208b48bf41fd80d6c7af5a5"), looks := true }, kinds := [], alts := [], laidByText := true, laidKinds := [.data, .data, .data, .data, .sentinel, .sentinel, .data, .pinned], laidTests := true, laidLooks := .later }
def ManifestBackCardSaid : Prop := Claim7.holds Tryz.pinned (.plain (OpenSpec.ofChange manifestBackSpec)) manifestBackCard

/-- THE SECOND FORM's CARD OF 'gangwaylaw29.ManifestOf'. -/
def manifestOfUptoCard : Claim7 := { stood := { row := manifestOfUptoRow, standIns := [], harness := (true, "65730b952da2de88ddba2b91f6b2bbe89e1a6360e208b48bf41fd80d6c7af5a5"), looks := true }, kinds := [], alts := [], laidByText := true, laidKinds := [.data, .data, .data, .data, .sentinel, .sentinel, .data, .pinned], laidTests := true, laidLooks := .later }
def ManifestOfUptoCardSaid : Prop := Claim7.holds Tryz.pinned (.plain (OpenSpec.upto manifestOfSpec)) manifestOfUptoCard

/-- THE SECOND FORM's CARD OF 'gangwaylaw29.ManifestTexts'. -/
def manifestTextsUptoCard : Claim7 := { stood := { row := manifestTextsUptoRow, standIns := [], harness := (true, "65730b952da2de88ddba2b91f6b2bbe89e1a6360e208b48bf41fd80d6c7af5a5"), looks := true }, kinds := [], alts := [], laidByText := true, laidKinds := [.data, .data, .data, .data, .sentinel, .sentinel, .data, .pinned], laidTests := true, laidLooks := .later }
def ManifestTextsUptoCardSaid : Prop := Claim7.holds Tryz.pinned (.plain (OpenSpec.upto manifestTextsSpec)) manifestTextsUptoCard

/-- THE SECOND FORM's CARD OF 'gangwaylaw29.ManifestParses'. -/
def manifestParsesUptoCard : Claim7 := { stood := { row := manifestParsesUptoRow, standIns := [], harness := (true, "65730b952da2de88ddba2b91f6b2bbe89e1a6360e208b48bf41fd80d6c7af5a5"), looks := true }, kinds := [], alts := [], laidByText := true, laidKinds := [.data, .data, .data, .data, .sentinel, .sentinel, .data, .pinned], laidTests := true, laidLooks := .later }
def ManifestParsesUptoCardSaid : Prop := Claim7.holds Tryz.pinned (.plain (OpenSpec.upto manifestParsesSpec)) manifestParsesUptoCard

/-- THE SECOND FORM's CARD OF 'gangwaylaw29.ManifestSound'. -/
def manifestSoundUptoCard : Claim7 := { stood := { row := manifestSoundUptoRow, standIns := [], harness := (true, "65730b952da2de88ddba2b91f6b2bbe89e1a6360e208b48bf41fd80d6c7af5a5"), looks := true }, kinds := [], alts := [], laidByText := true, laidKinds := [.data, .data, .data, .data, .sentinel, .sentinel, .data, .pinned], laidTests := true, laidLooks := .later }
def ManifestSoundUptoCardSaid : Prop := Claim7.holds Tryz.pinned (.plain (OpenSpec.upto manifestSoundSpec)) manifestSoundUptoCard

/-- THE SECOND FORM's CARD OF 'gangwaylaw29.ManifestAgain'. -/
def manifestAgainUptoCard : Claim7 := { stood := { row := manifestAgainUptoRow, standIns := [], harness := (true, "65730b952da2de88ddba2b91f6b2bbe89e1a6360e208b48bf41fd80d6c7af5a5"), looks := true }, kinds := [], alts := [], laidByText := true, laidKinds := [.data, .data, .data, .data, .sentinel, .sentinel, .data, .pinned], laidTests := true, laidLooks := .later }
def ManifestAgainUptoCardSaid : Prop := Claim7.holds Tryz.pinned (.plain (OpenSpec.upto manifestAgainSpec)) manifestAgainUptoCard

/-- THE SECOND FORM's CARD OF 'gangwaylaw29.ManifestKeeps'. -/
def manifestKeepsUptoCard : Claim7 := { stood := { row := manifestKeepsUptoRow, standIns := [], harness := (true, "65730b952da2de88ddba2b91f6b2bbe89e1a6360e208b48bf41fd80d6c7af5a5"), looks := true }, kinds := [], alts := [], laidByText := true, laidKinds := [.data, .data, .data, .data, .sentinel, .sentinel, .data, .pinned], laidTests := true, laidLooks := .later }
def ManifestKeepsUptoCardSaid : Prop := Claim7.holds Tryz.pinned (.plain (OpenSpec.upto manifestKeepsSpec)) manifestKeepsUptoCard

/-- THE SECOND FORM's CARD OF 'gangwaylaw29.ManifestBack'. -/
def manifestBackUptoCard : Claim7 := { stood := { row := manifestBackUptoRow, standIns := [], harness := (true, "65730b952da2de88ddba2b91f6b2bbe89e1a6360e208b48bf41fd80d6c7af5a5"), looks := true }, kinds := [], alts := [], laidByText := true, laidKinds := [.data, .data, .data, .data, .sentinel, .sentinel, .data, .pinned], laidTests := true, laidLooks := .later }
def ManifestBackUptoCardSaid : Prop := Claim7.holds Tryz.pinned (.plain (OpenSpec.upto manifestBackSpec)) manifestBackUptoCard
end Rows
end Go.Proofs.YtpoijhjjbmaedaaGreatDoor
