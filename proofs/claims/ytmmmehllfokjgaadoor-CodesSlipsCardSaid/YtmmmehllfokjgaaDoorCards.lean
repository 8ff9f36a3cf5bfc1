/-
  DERIVED. GIVEN WITH THE SEED: THE CARDS: each row of YtmmmehllfokjgaaDoorRows.lean that lists a variable, with what it lists TIED to the program's text (the seventh form; the later family's looks); each row that meets fmt, with fmt's text TOLD by the authors' own Lean function (tested against real Go, not proved from fmt's source: count such statements apart). THE CARD IS WHAT COUNTS. Prove the row's statement (the work); the ties are given (YtmmmehllfokjgaaDoorTie.lean); close each card by the builder's one call (the guide's Derived/Test/ToyasCard.lean, 'card_holds'). Laid BY PROGRAM, IN A SANDBOX (cutbox-door.mjs). By AI agents, Wed Nov 11 2026. No macro, syntax, notation, axiom, sorry.
-/
import Derived.Test.YtmmmehllfokjgaaDoorRows
import GoSem.ClaimSeven
namespace Go.Proofs.YtmmmehllfokjgaaDoor
namespace Rows

/-- THE TIED CARD OF 'gangwaylaw15.CodesTexts'. -/
def codesTextsCard : Claim7 := { stood := { row := codesTextsRow, standIns := [], harness := (true, "00268cb905ea2218cbf942f29628f5707c6264dfb00673e431cb2425734c9ec3"), looks := false }, kinds := [], alts := [], laidByText := true, laidKinds := [.data], laidTests := true, laidLooks := .later }
def CodesTextsCardSaid : Prop := Claim7.holds Tryd.pinned (.plain (OpenSpec.ofChange codesTextsSpec)) codesTextsCard

/-- THE TIED CARD OF 'gangwaylaw15.CodesParses'. -/
def codesParsesCard : Claim7 := { stood := { row := codesParsesRow, standIns := [], harness := (true, "00268cb905ea2218cbf942f29628f5707c6264dfb00673e431cb2425734c9ec3"), looks := false }, kinds := [], alts := [], laidByText := true, laidKinds := [.data], laidTests := true, laidLooks := .later }
def CodesParsesCardSaid : Prop := Claim7.holds Tryd.pinned (.plain (OpenSpec.ofChange codesParsesSpec)) codesParsesCard

/-- THE TIED CARD OF 'gangwaylaw15.CodesNears'. -/
def codesNearsCard : Claim7 := { stood := { row := codesNearsRow, standIns := [], harness := (true, "00268cb905ea2218cbf942f29628f5707c6264dfb00673e431cb2425734c9ec3"), looks := false }, kinds := [], alts := [], laidByText := true, laidKinds := [.data], laidTests := true, laidLooks := .later }
def CodesNearsCardSaid : Prop := Claim7.holds Tryd.pinned (.plain (OpenSpec.ofChange codesNearsSpec)) codesNearsCard

/-- THE TIED CARD OF 'gangwaylaw15.CodesNumbers'. -/
def codesNumbersCard : Claim7 := { stood := { row := codesNumbersRow, standIns := [], harness := (true, "00268cb905ea2218cbf942f29628f5707c6264dfb00673e431cb2425734c9ec3"), looks := false }, kinds := [], alts := [], laidByText := true, laidKinds := [.data], laidTests := true, laidLooks := .later }
def CodesNumbersCardSaid : Prop := Claim7.holds Tryd.pinned (.plain (OpenSpec.ofChange codesNumbersSpec)) codesNumbersCard

/-- THE TIED CARD OF 'gangwaylaw15.CodesBack'. -/
def codesBackCard : Claim7 := { stood := { row := codesBackRow, standIns := [], harness := (true, "00268cb905ea2218cbf942f29628f5707c6264dfb00673e431cb2425734c9ec3"), looks := false }, kinds := [], alts := [], laidByText := true, laidKinds := [.data], laidTests := true, laidLooks := .later }
def CodesBackCardSaid : Prop := Claim7.holds Tryd.pinned (.plain (OpenSpec.ofChange codesBackSpec)) codesBackCard

/-- THE TIED CARD OF 'gangwaylaw15.CodesApart'. -/
def codesApartCard : Claim7 := { stood := { row := codesApartRow, standIns := [], harness := (true, "00268cb905ea2218cbf942f29628f5707c6264dfb00673e431cb2425734c9ec3"), looks := false }, kinds := [], alts := [], laidByText := true, laidKinds := [.data], laidTests := true, laidLooks := .later }
def CodesApartCardSaid : Prop := Claim7.holds Tryd.pinned (.plain (OpenSpec.ofChange codesApartSpec)) codesApartCard

/-- THE TIED CARD OF 'gangwaylaw15.CodesSlips'. -/
def codesSlipsCard : Claim7 := { stood := { row := codesSlipsRow, standIns := [], harness := (true, "00268cb905ea2218cbf942f29628f5707c6264dfb00673e431cb2425734c9ec3"), looks := false }, kinds := [], alts := [], laidByText := true, laidKinds := [.data], laidTests := true, laidLooks := .later }
def CodesSlipsCardSaid : Prop := Claim7.holds Tryd.pinned (.plain (OpenSpec.ofChange codesSlipsSpec)) codesSlipsCard

/-- THE SECOND FORM's CARD OF 'gangwaylaw15.CodesTexts'. -/
def codesTextsUptoCard : Claim7 := { stood := { row := codesTextsUptoRow, standIns := [], harness := (true, "00268cb905ea2218cbf942f29628f5707c6264dfb00673e431cb2425734c9ec3"), looks := false }, kinds := [], alts := [], laidByText := true, laidKinds := [.data], laidTests := true, laidLooks := .later }
def CodesTextsUptoCardSaid : Prop := Claim7.holds Tryd.pinned (.plain (OpenSpec.upto codesTextsSpec)) codesTextsUptoCard

/-- THE SECOND FORM's CARD OF 'gangwaylaw15.CodesParses'. -/
def codesParsesUptoCard : Claim7 := { stood := { row := codesParsesUptoRow, standIns := [], harness := (true, "00268cb905ea2218cbf942f29628f5707c6264dfb00673e431cb2425734c9ec3"), looks := false }, kinds := [], alts := [], laidByText := true, laidKinds := [.data], laidTests := true, laidLooks := .later }
def CodesParsesUptoCardSaid : Prop := Claim7.holds Tryd.pinned (.plain (OpenSpec.upto codesParsesSpec)) codesParsesUptoCard

/-- THE SECOND FORM's CARD OF 'gangwaylaw15.CodesNears'. -/
def codesNearsUptoCard : Claim7 := { stood := { row := codesNearsUptoRow, standIns := [], harness := (true, "00268cb905ea2218cbf942f29628f5707c6264dfb00673e431cb2425734c9ec3"), looks := false }, kinds := [], alts := [], laidByText := true, laidKinds := [.data], laidTests := true, laidLooks := .later }
def CodesNearsUptoCardSaid : Prop := Claim7.holds Tryd.pinned (.plain (OpenSpec.upto codesNearsSpec)) codesNearsUptoCard

/-- THE SECOND FORM's CARD OF 'gangwaylaw15.CodesNumbers'. -/
def codesNumbersUptoCard : Claim7 := { stood := { row := codesNumbersUptoRow, standIns := [], harness := (true, "00268cb905ea2218cbf942f29628f5707c6264dfb00673e431cb2425734c9ec3"), looks := false }, kinds := [], alts := [], laidByText := true, laidKinds := [.data], laidTests := true, laidLooks := .later }
def CodesNumbersUptoCardSaid : Prop := Claim7.holds Tryd.pinned (.plain (OpenSpec.upto codesNumbersSpec)) codesNumbersUptoCard

/-- THE SECOND FORM's CARD OF 'gangwaylaw15.CodesBack'. -/
def codesBackUptoCard : Claim7 := { stood := { row := codesBackUptoRow, standIns := [], harness := (true, "00268cb905ea2218cbf942f29628f5707c6264dfb00673e431cb2425734c9ec3"), looks := false }, kinds := [], alts := [], laidByText := true, laidKinds := [.data], laidTests := true, laidLooks := .later }
def CodesBackUptoCardSaid : Prop := Claim7.holds Tryd.pinned (.plain (OpenSpec.upto codesBackSpec)) codesBackUptoCard

/-- THE SECOND FORM's CARD OF 'gangwaylaw15.CodesApart'. -/
def codesApartUptoCard : Claim7 := { stood := { row := codesApartUptoRow, standIns := [], harness := (true, "00268cb905ea2218cbf942f29628f5707c6264dfb00673e431cb2425734c9ec3"), looks := false }, kinds := [], alts := [], laidByText := true, laidKinds := [.data], laidTests := true, laidLooks := .later }
def CodesApartUptoCardSaid : Prop := Claim7.holds Tryd.pinned (.plain (OpenSpec.upto codesApartSpec)) codesApartUptoCard

/-- THE SECOND FORM's CARD OF 'gangwaylaw15.CodesSlips'. -/
def codesSlipsUptoCard : Claim7 := { stood := { row := codesSlipsUptoRow, standIns := [], harness := (true, "00268cb905ea2218cbf942f29628f5707c6264dfb00673e431cb2425734c9ec3"), looks := false }, kinds := [], alts := [], laidByText := true, laidKinds := [.data], laidTests := true, laidLooks := .later }
def CodesSlipsUptoCardSaid : Prop := Claim7.holds Tryd.pinned (.plain (OpenSpec.upto codesSlipsSpec)) codesSlipsUptoCard
end Rows
end Go.Proofs.YtmmmehllfokjgaaDoor
