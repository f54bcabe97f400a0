/-
  DERIVED. GIVEN WITH THE SEED: THE CARDS: each row of YtkjkipkfndckfaaGreatDoorRows.lean that lists a variable, with what it lists TIED to the program's text (the seventh form; the later family's looks); each row that meets fmt, with fmt's text TOLD by the authors' own Lean function (tested against real Go, not proved from fmt's source: count such statements apart). THE CARD IS WHAT COUNTS. Prove the row's statement (the work); the ties are given (YtkjkipkfndckfaaGreatDoorTie.lean); close each card by the builder's one call (the guide's Derived/Test/ToyasCard.lean, 'card_holds'). Laid BY PROGRAM, IN A SANDBOX (cutbox-door.mjs). By AI agents, Wed Nov 11 2026. No macro, syntax, notation, axiom, sorry.
-/
import Derived.Test.YtkjkipkfndckfaaGreatDoorRows
import GoSem.ClaimSeven
namespace Go.Proofs.YtkjkipkfndckfaaGreatDoor
namespace Rows

/-- THE TIED CARD OF 'triviumlaw38.ReportLines'. -/
def reportLinesCard : Claim7 := { stood := { row := reportLinesRow, standIns := [], harness := (true, "b4bfc8b995706ece8b31c3e76730f4bafab7bc2e10583c178f3084333515dfbc"), looks := false }, kinds := [], alts := [], laidByText := true, laidKinds := [.data, .data, .data, .data, .pinned], laidTests := true, laidLooks := .later }
def ReportLinesCardSaid : Prop := Claim7.holds Tryz.pinned (.plain (OpenSpec.ofChange reportLinesSpec)) reportLinesCard

/-- THE TIED CARD OF 'triviumlaw38.ReportAll'. -/
def reportAllCard : Claim7 := { stood := { row := reportAllRow, standIns := [], harness := (true, "b4bfc8b995706ece8b31c3e76730f4bafab7bc2e10583c178f3084333515dfbc"), looks := false }, kinds := [], alts := [], laidByText := true, laidKinds := [.data, .data, .data, .data, .pinned], laidTests := true, laidLooks := .later }
def ReportAllCardSaid : Prop := Claim7.holds Tryz.pinned (.plain (OpenSpec.ofChange reportAllSpec)) reportAllCard

/-- THE SECOND FORM's CARD OF 'triviumlaw38.ReportLines'. -/
def reportLinesUptoCard : Claim7 := { stood := { row := reportLinesUptoRow, standIns := [], harness := (true, "b4bfc8b995706ece8b31c3e76730f4bafab7bc2e10583c178f3084333515dfbc"), looks := false }, kinds := [], alts := [], laidByText := true, laidKinds := [.data, .data, .data, .data, .pinned], laidTests := true, laidLooks := .later }
def ReportLinesUptoCardSaid : Prop := Claim7.holds Tryz.pinned (.plain (OpenSpec.upto reportLinesSpec)) reportLinesUptoCard

/-- THE SECOND FORM's CARD OF 'triviumlaw38.ReportAll'. -/
def reportAllUptoCard : Claim7 := { stood := { row := reportAllUptoRow, standIns := [], harness := (true, "b4bfc8b995706ece8b31c3e76730f4bafab7bc2e10583c178f3084333515dfbc"), looks := false }, kinds := [], alts := [], laidByText := true, laidKinds := [.data, .data, .data, .data, .pinned], laidTests := true, laidLooks := .later }
def ReportAllUptoCardSaid : Prop := Claim7.holds Tryz.pinned (.plain (OpenSpec.upto reportAllSpec)) reportAllUptoCard
end Rows
end Go.Proofs.YtkjkipkfndckfaaGreatDoor
