/-
  DERIVED. GIVEN WITH THE SEED: THE CARDS: each row of YtboghejfmmigkaaGreatDoorRows.lean that lists a variable, with what it lists TIED to the program's text (the seventh form; the later family's looks); each row that meets fmt, with fmt's text TOLD by the authors' own Lean function (tested against real Go, not proved from fmt's source: count such statements apart). THE CARD IS WHAT COUNTS. Prove the row's statement (the work); the ties are given (YtboghejfmmigkaaGreatDoorTie.lean); close each card by the builder's one call (the guide's Derived/Test/ToyasCard.lean, 'card_holds'). Laid BY PROGRAM, IN A SANDBOX (cutbox-door.mjs). By AI agents, Wed Nov 11 2026. No macro, syntax, notation, axiom, sorry.
-/
import Derived.Test.YtboghejfmmigkaaGreatDoorRows
import GoSem.ClaimSeven
namespace Go.Proofs.YtboghejfmmigkaaGreatDoor
namespace Rows

/-- THE TIED CARD OF 'triviumlaw21.AskreadReads'. -/
def askreadReadsCard : Claim7 := { stood := { row := askreadReadsRow, standIns := [], harness := (true, "bab01cf02d3478167b439f86752bfa2da99f56d493178901aae521827873038b"), looks := false }, kinds := [], alts := [], laidByText := true, laidKinds := [.data, .pinned], laidTests := true, laidLooks := .later }
def AskreadReadsCardSaid : Prop := Claim7.holds Tryz.pinned (.plain (OpenSpec.ofChange askreadReadsSpec)) askreadReadsCard

/-- THE SECOND FORM's CARD OF 'triviumlaw21.AskreadReads'. -/
def askreadReadsUptoCard : Claim7 := { stood := { row := askreadReadsUptoRow, standIns := [], harness := (true, "bab01cf02d3478167b439f86752bfa2da99f56d493178901aae521827873038b"), looks := false }, kinds := [], alts := [], laidByText := true, laidKinds := [.data, .pinned], laidTests := true, laidLooks := .later }
def AskreadReadsUptoCardSaid : Prop := Claim7.holds Tryz.pinned (.plain (OpenSpec.upto askreadReadsSpec)) askreadReadsUptoCard
end Rows
end Go.Proofs.YtboghejfmmigkaaGreatDoor
