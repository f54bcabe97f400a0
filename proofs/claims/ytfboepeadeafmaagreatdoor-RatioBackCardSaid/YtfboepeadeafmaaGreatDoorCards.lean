/-
  DERIVED. GIVEN WITH THE SEED: THE CARDS: each row of YtfboepeadeafmaaGreatDoorRows.lean that lists a variable, with what it lists TIED to the program's text (the seventh form; the later family's looks); each row that meets fmt, with fmt's text TOLD by the authors' own Lean function (tested against real Go, not proved from fmt's source: count such statements apart). THE CARD IS WHAT COUNTS. Prove the row's statement (the work); the ties are given (YtfboepeadeafmaaGreatDoorTie.lean); close each card by the builder's one call (the guide's Derived/Test/ToyasCard.lean, 'card_holds'). Laid BY PROGRAM, IN A SANDBOX (cutbox-door.mjs). By AI agents, Wed Nov 11 2026. No macro, syntax, notation, axiom, sorry.
-/
import Derived.Test.YtfboepeadeafmaaGreatDoorRows
import GoSem.ClaimSeven
namespace Go.Proofs.YtfboepeadeafmaaGreatDoor
namespace Rows

/-- THE TIED CARD OF 'triviumlaw09.RatioParses'. -/
def ratioParsesCard : Claim7 := { stood := { row := ratioParsesRow, standIns := [], harness := (true, "e7c0a3664bcc92343078c14a50c60751fdfb852b28a9f60242c1b391b19d6792"), looks := false }, kinds := [], alts := [], laidByText := true, laidKinds := [.data, .pinned], laidTests := true, laidLooks := .later }
def RatioParsesCardSaid : Prop := Claim7.holds Tryz.pinned (.plain (OpenSpec.ofChange ratioParsesSpec)) ratioParsesCard

/-- THE TIED CARD OF 'triviumlaw09.RatioBack'. -/
def ratioBackCard : Claim7 := { stood := { row := ratioBackRow, standIns := [], harness := (true, "e7c0a3664bcc92343078c14a50c60751fdfb852b28a9f60242c1b391b19d6792"), looks := false }, kinds := [], alts := [], laidByText := true, laidKinds := [.data, .pinned], laidTests := true, laidLooks := .later }
def RatioBackCardSaid : Prop := Claim7.holds Tryz.pinned (.plain (OpenSpec.ofChange ratioBackSpec)) ratioBackCard

/-- THE TIED CARD OF 'triviumlaw09.RatioPrints'. -/
def ratioPrintsCard : Claim7 := { stood := { row := ratioPrintsRow, standIns := [], harness := (true, "e7c0a3664bcc92343078c14a50c60751fdfb852b28a9f60242c1b391b19d6792"), looks := false }, kinds := [], alts := [], laidByText := true, laidKinds := [.data, .pinned], laidTests := true, laidLooks := .later }
def RatioPrintsCardSaid : Prop := Claim7.holds Tryz.pinned (.plain (OpenSpec.ofChange ratioPrintsSpec)) ratioPrintsCard

/-- THE SECOND FORM's CARD OF 'triviumlaw09.RatioParses'. -/
def ratioParsesUptoCard : Claim7 := { stood := { row := ratioParsesUptoRow, standIns := [], harness := (true, "e7c0a3664bcc92343078c14a50c60751fdfb852b28a9f60242c1b391b19d6792"), looks := false }, kinds := [], alts := [], laidByText := true, laidKinds := [.data, .pinned], laidTests := true, laidLooks := .later }
def RatioParsesUptoCardSaid : Prop := Claim7.holds Tryz.pinned (.plain (OpenSpec.upto ratioParsesSpec)) ratioParsesUptoCard

/-- THE SECOND FORM's CARD OF 'triviumlaw09.RatioBack'. -/
def ratioBackUptoCard : Claim7 := { stood := { row := ratioBackUptoRow, standIns := [], harness := (true, "e7c0a3664bcc92343078c14a50c60751fdfb852b28a9f60242c1b391b19d6792"), looks := false }, kinds := [], alts := [], laidByText := true, laidKinds := [.data, .pinned], laidTests := true, laidLooks := .later }
def RatioBackUptoCardSaid : Prop := Claim7.holds Tryz.pinned (.plain (OpenSpec.upto ratioBackSpec)) ratioBackUptoCard

/-- THE SECOND FORM's CARD OF 'triviumlaw09.RatioPrints'. -/
def ratioPrintsUptoCard : Claim7 := { stood := { row := ratioPrintsUptoRow, standIns := [], harness := (true, "e7c0a3664bcc92343078c14a50c60751fdfb852b28a9f60242c1b391b19d6792"), looks := false }, kinds := [], alts := [], laidByText := true, laidKinds := [.data, .pinned], laidTests := true, laidLooks := .later }
def RatioPrintsUptoCardSaid : Prop := Claim7.holds Tryz.pinned (.plain (OpenSpec.upto ratioPrintsSpec)) ratioPrintsUptoCard
end Rows
end Go.Proofs.YtfboepeadeafmaaGreatDoor
