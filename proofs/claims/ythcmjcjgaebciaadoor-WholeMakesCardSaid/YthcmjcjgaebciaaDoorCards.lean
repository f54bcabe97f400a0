/-
  DERIVED. GIVEN WITH THE SEED: THE CARDS: each row of YthcmjcjgaebciaaDoorRows.lean that lists a variable, with what it lists TIED to the program's text (the seventh form; the later family's looks); each row that meets fmt, with fmt's text TOLD by the authors' own Lean function (tested against real Go, not proved from fmt's source: count such statements apart). THE CARD IS WHAT COUNTS. Prove the row's statement (the work); the ties are given (YthcmjcjgaebciaaDoorTie.lean); close each card by the builder's one call (the guide's Derived/Test/ToyasCard.lean, 'card_holds'). Laid BY PROGRAM, IN A SANDBOX (cutbox-door.mjs). By AI agents, Wed Nov 11 2026. No macro, syntax, notation, axiom, sorry.
-/
import Derived.Test.YthcmjcjgaebciaaDoorRows
import GoSem.ClaimSeven
namespace Go.Proofs.YthcmjcjgaebciaaDoor
namespace Rows

/-- THE TIED CARD OF 'triviumlaw06.DigitsParses'. -/
def digitsParsesCard : Claim7 := { stood := { row := digitsParsesRow, standIns := [], harness := (true, "3852c8e74a710b54b9f2c0f5e734fb0bbb48e3249c7ddf57c7d75702449a403a"), looks := false }, kinds := [], alts := [], laidByText := true, laidKinds := [.data, .pinned], laidTests := true, laidLooks := .later }
def DigitsParsesCardSaid : Prop := Claim7.holds Tryd.pinned (.plain (OpenSpec.ofChange digitsParsesSpec)) digitsParsesCard

/-- THE TIED CARD OF 'triviumlaw06.DigitsBack'. -/
def digitsBackCard : Claim7 := { stood := { row := digitsBackRow, standIns := [], harness := (true, "3852c8e74a710b54b9f2c0f5e734fb0bbb48e3249c7ddf57c7d75702449a403a"), looks := false }, kinds := [], alts := [], laidByText := true, laidKinds := [.data, .pinned], laidTests := true, laidLooks := .later }
def DigitsBackCardSaid : Prop := Claim7.holds Tryd.pinned (.plain (OpenSpec.ofChange digitsBackSpec)) digitsBackCard

/-- THE TIED CARD OF 'triviumlaw06.DigitsPrints'. -/
def digitsPrintsCard : Claim7 := { stood := { row := digitsPrintsRow, standIns := [], harness := (true, "3852c8e74a710b54b9f2c0f5e734fb0bbb48e3249c7ddf57c7d75702449a403a"), looks := false }, kinds := [], alts := [], laidByText := true, laidKinds := [.data, .pinned], laidTests := true, laidLooks := .later }
def DigitsPrintsCardSaid : Prop := Claim7.holds Tryd.pinned (.plain (OpenSpec.ofChange digitsPrintsSpec)) digitsPrintsCard

/-- THE TIED CARD OF 'triviumlaw18.AddrTexts'. -/
def addrTextsCard : Claim7 := { stood := { row := addrTextsRow, standIns := [], harness := (true, "3852c8e74a710b54b9f2c0f5e734fb0bbb48e3249c7ddf57c7d75702449a403a"), looks := false }, kinds := [], alts := [], laidByText := true, laidKinds := [.data, .data, .data], laidTests := true, laidLooks := .later }
def AddrTextsCardSaid : Prop := Claim7.holds Tryd.pinned (.plain (OpenSpec.ofChange addrTextsSpec)) addrTextsCard

/-- THE TIED CARD OF 'triviumlaw18.AddrBack'. -/
def addrBackCard : Claim7 := { stood := { row := addrBackRow, standIns := [], harness := (true, "3852c8e74a710b54b9f2c0f5e734fb0bbb48e3249c7ddf57c7d75702449a403a"), looks := false }, kinds := [], alts := [], laidByText := true, laidKinds := [.data, .data, .data], laidTests := true, laidLooks := .later }
def AddrBackCardSaid : Prop := Claim7.holds Tryd.pinned (.plain (OpenSpec.ofChange addrBackSpec)) addrBackCard

/-- THE TIED CARD OF 'triviumlaw18.AddrHas'. -/
def addrHasCard : Claim7 := { stood := { row := addrHasRow, standIns := [], harness := (true, "3852c8e74a710b54b9f2c0f5e734fb0bbb48e3249c7ddf57c7d75702449a403a"), looks := false }, kinds := [], alts := [], laidByText := true, laidKinds := [.data, .data, .data], laidTests := true, laidLooks := .later }
def AddrHasCardSaid : Prop := Claim7.holds Tryd.pinned (.plain (OpenSpec.ofChange addrHasSpec)) addrHasCard

/-- THE TIED CARD OF 'triviumlaw18.AddrRange'. -/
def addrRangeCard : Claim7 := { stood := { row := addrRangeRow, standIns := [], harness := (true, "3852c8e74a710b54b9f2c0f5e734fb0bbb48e3249c7ddf57c7d75702449a403a"), looks := false }, kinds := [], alts := [], laidByText := true, laidKinds := [.data, .data, .data], laidTests := true, laidLooks := .later }
def AddrRangeCardSaid : Prop := Claim7.holds Tryd.pinned (.plain (OpenSpec.ofChange addrRangeSpec)) addrRangeCard

/-- THE TIED CARD OF 'triviumlaw07.WholeMakes'. -/
def wholeMakesCard : Claim7 := { stood := { row := wholeMakesRow, standIns := [], harness := (true, "3852c8e74a710b54b9f2c0f5e734fb0bbb48e3249c7ddf57c7d75702449a403a"), looks := false }, kinds := [], alts := [], laidByText := true, laidKinds := [.data, .pinned], laidTests := true, laidLooks := .later }
def WholeMakesCardSaid : Prop := Claim7.holds Tryd.pinned (.plain (OpenSpec.ofChange wholeMakesSpec)) wholeMakesCard

/-- THE TIED CARD OF 'triviumlaw07.WholeDivs'. -/
def wholeDivsCard : Claim7 := { stood := { row := wholeDivsRow, standIns := [], harness := (true, "3852c8e74a710b54b9f2c0f5e734fb0bbb48e3249c7ddf57c7d75702449a403a"), looks := false }, kinds := [], alts := [], laidByText := true, laidKinds := [.data, .pinned], laidTests := true, laidLooks := .later }
def WholeDivsCardSaid : Prop := Claim7.holds Tryd.pinned (.plain (OpenSpec.ofChange wholeDivsSpec)) wholeDivsCard

/-- THE TIED CARD OF 'triviumlaw07.WholeTexts'. -/
def wholeTextsCard : Claim7 := { stood := { row := wholeTextsRow, standIns := [], harness := (true, "3852c8e74a710b54b9f2c0f5e734fb0bbb48e3249c7ddf57c7d75702449a403a"), looks := false }, kinds := [], alts := [], laidByText := true, laidKinds := [.data, .pinned], laidTests := true, laidLooks := .later }
def WholeTextsCardSaid : Prop := Claim7.holds Tryd.pinned (.plain (OpenSpec.ofChange wholeTextsSpec)) wholeTextsCard

/-- THE TIED CARD OF 'triviumlaw07.WholeAdds'. -/
def wholeAddsCard : Claim7 := { stood := { row := wholeAddsRow, standIns := [], harness := (true, "3852c8e74a710b54b9f2c0f5e734fb0bbb48e3249c7ddf57c7d75702449a403a"), looks := false }, kinds := [], alts := [], laidByText := true, laidKinds := [.data, .pinned], laidTests := true, laidLooks := .later }
def WholeAddsCardSaid : Prop := Claim7.holds Tryd.pinned (.plain (OpenSpec.ofChange wholeAddsSpec)) wholeAddsCard

/-- THE TIED CARD OF 'triviumlaw07.WholeRing'. -/
def wholeRingCard : Claim7 := { stood := { row := wholeRingRow, standIns := [], harness := (true, "3852c8e74a710b54b9f2c0f5e734fb0bbb48e3249c7ddf57c7d75702449a403a"), looks := false }, kinds := [], alts := [], laidByText := true, laidKinds := [.data, .pinned], laidTests := true, laidLooks := .later }
def WholeRingCardSaid : Prop := Claim7.holds Tryd.pinned (.plain (OpenSpec.ofChange wholeRingSpec)) wholeRingCard

/-- THE SECOND FORM's CARD OF 'triviumlaw06.DigitsParses'. -/
def digitsParsesUptoCard : Claim7 := { stood := { row := digitsParsesUptoRow, standIns := [], harness := (true, "3852c8e74a710b54b9f2c0f5e734fb0bbb48e3249c7ddf57c7d75702449a403a"), looks := false }, kinds := [], alts := [], laidByText := true, laidKinds := [.data, .pinned], laidTests := true, laidLooks := .later }
def DigitsParsesUptoCardSaid : Prop := Claim7.holds Tryd.pinned (.plain (OpenSpec.upto digitsParsesSpec)) digitsParsesUptoCard

/-- THE SECOND FORM's CARD OF 'triviumlaw06.DigitsBack'. -/
def digitsBackUptoCard : Claim7 := { stood := { row := digitsBackUptoRow, standIns := [], harness := (true, "3852c8e74a710b54b9f2c0f5e734fb0bbb48e3249c7ddf57c7d75702449a403a"), looks := false }, kinds := [], alts := [], laidByText := true, laidKinds := [.data, .pinned], laidTests := true, laidLooks := .later }
def DigitsBackUptoCardSaid : Prop := Claim7.holds Tryd.pinned (.plain (OpenSpec.upto digitsBackSpec)) digitsBackUptoCard

/-- THE SECOND FORM's CARD OF 'triviumlaw06.DigitsPrints'. -/
def digitsPrintsUptoCard : Claim7 := { stood := { row := digitsPrintsUptoRow, standIns := [], harness := (true, "3852c8e74a710b54b9f2c0f5e734fb0bbb48e3249c7ddf57c7d75702449a403a"), looks := false }, kinds := [], alts := [], laidByText := true, laidKinds := [.data, .pinned], laidTests := true, laidLooks := .later }
def DigitsPrintsUptoCardSaid : Prop := Claim7.holds Tryd.pinned (.plain (OpenSpec.upto digitsPrintsSpec)) digitsPrintsUptoCard

/-- THE SECOND FORM's CARD OF 'triviumlaw18.AddrTexts'. -/
def addrTextsUptoCard : Claim7 := { stood := { row := addrTextsUptoRow, standIns := [], harness := (true, "3852c8e74a710b54b9f2c0f5e734fb0bbb48e3249c7ddf57c7d75702449a403a"), looks := false }, kinds := [], alts := [], laidByText := true, laidKinds := [.data, .data, .data], laidTests := true, laidLooks := .later }
def AddrTextsUptoCardSaid : Prop := Claim7.holds Tryd.pinned (.plain (OpenSpec.upto addrTextsSpec)) addrTextsUptoCard

/-- THE SECOND FORM's CARD OF 'triviumlaw18.AddrBack'. -/
def addrBackUptoCard : Claim7 := { stood := { row := addrBackUptoRow, standIns := [], harness := (true, "3852c8e74a710b54b9f2c0f5e734fb0bbb48e3249c7ddf57c7d75702449a403a"), looks := false }, kinds := [], alts := [], laidByText := true, laidKinds := [.data, .data, .data], laidTests := true, laidLooks := .later }
def AddrBackUptoCardSaid : Prop := Claim7.holds Tryd.pinned (.plain (OpenSpec.upto addrBackSpec)) addrBackUptoCard

/-- THE SECOND FORM's CARD OF 'triviumlaw18.AddrHas'. -/
def addrHasUptoCard : Claim7 := { stood := { row := addrHasUptoRow, standIns := [], harness := (true, "3852c8e74a710b54b9f2c0f5e734fb0bbb48e3249c7ddf57c7d75702449a403a"), looks := false }, kinds := [], alts := [], laidByText := true, laidKinds := [.data, .data, .data], laidTests := true, laidLooks := .later }
def AddrHasUptoCardSaid : Prop := Claim7.holds Tryd.pinned (.plain (OpenSpec.upto addrHasSpec)) addrHasUptoCard

/-- THE SECOND FORM's CARD OF 'triviumlaw18.AddrRange'. -/
def addrRangeUptoCard : Claim7 := { stood := { row := addrRangeUptoRow, standIns := [], harness := (true, "3852c8e74a710b54b9f2c0f5e734fb0bbb48e3249c7ddf57c7d75702449a403a"), looks := false }, kinds := [], alts := [], laidByText := true, laidKinds := [.data, .data, .data], laidTests := true, laidLooks := .later }
def AddrRangeUptoCardSaid : Prop := Claim7.holds Tryd.pinned (.plain (OpenSpec.upto addrRangeSpec)) addrRangeUptoCard

/-- THE SECOND FORM's CARD OF 'triviumlaw07.WholeMakes'. -/
def wholeMakesUptoCard : Claim7 := { stood := { row := wholeMakesUptoRow, standIns := [], harness := (true, "3852c8e74a710b54b9f2c0f5e734fb0bbb48e3249c7ddf57c7d75702449a403a"), looks := false }, kinds := [], alts := [], laidByText := true, laidKinds := [.data, .pinned], laidTests := true, laidLooks := .later }
def WholeMakesUptoCardSaid : Prop := Claim7.holds Tryd.pinned (.plain (OpenSpec.upto wholeMakesSpec)) wholeMakesUptoCard

/-- THE SECOND FORM's CARD OF 'triviumlaw07.WholeDivs'. -/
def wholeDivsUptoCard : Claim7 := { stood := { row := wholeDivsUptoRow, standIns := [], harness := (true, "3852c8e74a710b54b9f2c0f5e734fb0bbb48e3249c7ddf57c7d75702449a403a"), looks := false }, kinds := [], alts := [], laidByText := true, laidKinds := [.data, .pinned], laidTests := true, laidLooks := .later }
def WholeDivsUptoCardSaid : Prop := Claim7.holds Tryd.pinned (.plain (OpenSpec.upto wholeDivsSpec)) wholeDivsUptoCard

/-- THE SECOND FORM's CARD OF 'triviumlaw07.WholeTexts'. -/
def wholeTextsUptoCard : Claim7 := { stood := { row := wholeTextsUptoRow, standIns := [], harness := (true, "3852c8e74a710b54b9f2c0f5e734fb0bbb48e3249c7ddf57c7d75702449a403a"), looks := false }, kinds := [], alts := [], laidByText := true, laidKinds := [.data, .pinned], laidTests := true, laidLooks := .later }
def WholeTextsUptoCardSaid : Prop := Claim7.holds Tryd.pinned (.plain (OpenSpec.upto wholeTextsSpec)) wholeTextsUptoCard

/-- THE SECOND FORM's CARD OF 'triviumlaw07.WholeAdds'. -/
def wholeAddsUptoCard : Claim7 := { stood := { row := wholeAddsUptoRow, standIns := [], harness := (true, "3852c8e74a710b54b9f2c0f5e734fb0bbb48e3249c7ddf57c7d75702449a403a"), looks := false }, kinds := [], alts := [], laidByText := true, laidKinds := [.data, .pinned], laidTests := true, laidLooks := .later }
def WholeAddsUptoCardSaid : Prop := Claim7.holds Tryd.pinned (.plain (OpenSpec.upto wholeAddsSpec)) wholeAddsUptoCard

/-- THE SECOND FORM's CARD OF 'triviumlaw07.WholeRing'. -/
def wholeRingUptoCard : Claim7 := { stood := { row := wholeRingUptoRow, standIns := [], harness := (true, "3852c8e74a710b54b9f2c0f5e734fb0bbb48e3249c7ddf57c7d75702449a403a"), looks := false }, kinds := [], alts := [], laidByText := true, laidKinds := [.data, .pinned], laidTests := true, laidLooks := .later }
def WholeRingUptoCardSaid : Prop := Claim7.holds Tryd.pinned (.plain (OpenSpec.upto wholeRingSpec)) wholeRingUptoCard
end Rows
end Go.Proofs.YthcmjcjgaebciaaDoor
