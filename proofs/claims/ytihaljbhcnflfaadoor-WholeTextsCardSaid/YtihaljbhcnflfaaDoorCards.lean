/-
  DERIVED. GIVEN WITH THE SEED: THE CARDS: each row of YtihaljbhcnflfaaDoorRows.lean that lists a variable, with what it lists TIED to the program's text (the seventh form; the later family's looks); each row that meets fmt, with fmt's text TOLD by the authors' own Lean function (tested against real Go, not proved from fmt's source: count such statements apart). THE CARD IS WHAT COUNTS. Prove the row's statement (the work); the ties are given (YtihaljbhcnflfaaDoorTie.lean); close each card by the builder's one call (the guide's Derived/Test/ToyasCard.lean, 'card_holds'). Laid BY PROGRAM, IN A SANDBOX (cutbox-door.mjs). By AI agents, Wed Nov 11 2026. No macro, syntax, notation, axiom, sorry.
-/
import Derived.Test.YtihaljbhcnflfaaDoorRows
import GoSem.ClaimSeven
namespace Go.Proofs.YtihaljbhcnflfaaDoor
namespace Rows

/-- THE TIED CARD OF 'triviumlaw07.WholeDivs'. -/
def wholeDivsCard : Claim7 := { stood := { row := wholeDivsRow, standIns := [], harness := (true, "f4b495d4797999a1684296eaf61980a48c68e2f11bcf48ff339cdd799d9e8d41"), looks := false }, kinds := [], alts := [], laidByText := true, laidKinds := [.data, .pinned], laidTests := true, laidLooks := .later }
def WholeDivsCardSaid : Prop := Claim7.holds Tryd.pinned (.plain (OpenSpec.ofChange wholeDivsSpec)) wholeDivsCard

/-- THE TIED CARD OF 'triviumlaw07.WholeTexts'. -/
def wholeTextsCard : Claim7 := { stood := { row := wholeTextsRow, standIns := [], harness := (true, "f4b495d4797999a1684296eaf61980a48c68e2f11bcf48ff339cdd799d9e8d41"), looks := false }, kinds := [], alts := [], laidByText := true, laidKinds := [.data, .pinned], laidTests := true, laidLooks := .later }
def WholeTextsCardSaid : Prop := Claim7.holds Tryd.pinned (.plain (OpenSpec.ofChange wholeTextsSpec)) wholeTextsCard

/-- THE TIED CARD OF 'triviumlaw07.WholeRing'. -/
def wholeRingCard : Claim7 := { stood := { row := wholeRingRow, standIns := [], harness := (true, "f4b495d4797999a1684296eaf61980a48c68e2f11bcf48ff339cdd799d9e8d41"), looks := false }, kinds := [], alts := [], laidByText := true, laidKinds := [.data, .pinned], laidTests := true, laidLooks := .later }
def WholeRingCardSaid : Prop := Claim7.holds Tryd.pinned (.plain (OpenSpec.ofChange wholeRingSpec)) wholeRingCard

/-- THE SECOND FORM's CARD OF 'triviumlaw07.WholeDivs'. -/
def wholeDivsUptoCard : Claim7 := { stood := { row := wholeDivsUptoRow, standIns := [], harness := (true, "f4b495d4797999a1684296eaf61980a48c68e2f11bcf48ff339cdd799d9e8d41"), looks := false }, kinds := [], alts := [], laidByText := true, laidKinds := [.data, .pinned], laidTests := true, laidLooks := .later }
def WholeDivsUptoCardSaid : Prop := Claim7.holds Tryd.pinned (.plain (OpenSpec.upto wholeDivsSpec)) wholeDivsUptoCard

/-- THE SECOND FORM's CARD OF 'triviumlaw07.WholeTexts'. -/
def wholeTextsUptoCard : Claim7 := { stood := { row := wholeTextsUptoRow, standIns := [], harness := (true, "f4b495d4797999a1684296eaf61980a48c68e2f11bcf48ff339cdd799d9e8d41"), looks := false }, kinds := [], alts := [], laidByText := true, laidKinds := [.data, .pinned], laidTests := true, laidLooks := .later }
def WholeTextsUptoCardSaid : Prop := Claim7.holds Tryd.pinned (.plain (OpenSpec.upto wholeTextsSpec)) wholeTextsUptoCard

/-- THE SECOND FORM's CARD OF 'triviumlaw07.WholeRing'. -/
def wholeRingUptoCard : Claim7 := { stood := { row := wholeRingUptoRow, standIns := [], harness := (true, "f4b495d4797999a1684296eaf61980a48c68e2f11bcf48ff339cdd799d9e8d41"), looks := false }, kinds := [], alts := [], laidByText := true, laidKinds := [.data, .pinned], laidTests := true, laidLooks := .later }
def WholeRingUptoCardSaid : Prop := Claim7.holds Tryd.pinned (.plain (OpenSpec.upto wholeRingSpec)) wholeRingUptoCard
end Rows
end Go.Proofs.YtihaljbhcnflfaaDoor
