/-
  DERIVED. GIVEN WITH THE SEED: THE CARDS: each row of YtboghejfmmigkaaDoorRows.lean that lists a variable, with what it lists TIED to the program's text (the seventh form; the later family's looks); each row that meets fmt, with fmt's text TOLD by the authors' own Lean function (tested against real Go, not proved from fmt's source: count such statements apart). THE CARD IS WHAT COUNTS. Prove the row's statement (the work); the ties are given (YtboghejfmmigkaaDoorTie.lean); close each card by the builder's one call (the guide's Derived/Test/ToyasCard.lean, 'card_holds'). Laid BY PROGRAM, IN A SANDBOX (cutbox-door.mjs). By AI agents, Wed Nov 11 2026. No macro, syntax, notation, axiom, sorry.
-/
import Derived.Test.YtboghejfmmigkaaDoorRows
import GoSem.ClaimSeven
namespace Go.Proofs.YtboghejfmmigkaaDoor
namespace Rows

/-- THE TIED CARD OF 'triviumlaw21.AskreadBehind'. -/
def askreadBehindCard : Claim7 := { stood := { row := askreadBehindRow, standIns := [], harness := (true, "fb2b02e183bfae02eb8b534d2aafff1d8344bba0eae15b7aad7e4427a501829d"), looks := false }, kinds := [], alts := [], laidByText := true, laidKinds := [.data, .pinned], laidTests := true, laidLooks := .later }
def AskreadBehindCardSaid : Prop := Claim7.holds Tryd.pinned (.plain (OpenSpec.ofChange askreadBehindSpec)) askreadBehindCard

/-- THE SECOND FORM's CARD OF 'triviumlaw21.AskreadBehind'. -/
def askreadBehindUptoCard : Claim7 := { stood := { row := askreadBehindUptoRow, standIns := [], harness := (true, "fb2b02e183bfae02eb8b534d2aafff1d8344bba0eae15b7aad7e4427a501829d"), looks := false }, kinds := [], alts := [], laidByText := true, laidKinds := [.data, .pinned], laidTests := true, laidLooks := .later }
def AskreadBehindUptoCardSaid : Prop := Claim7.holds Tryd.pinned (.plain (OpenSpec.upto askreadBehindSpec)) askreadBehindUptoCard
end Rows
end Go.Proofs.YtboghejfmmigkaaDoor
