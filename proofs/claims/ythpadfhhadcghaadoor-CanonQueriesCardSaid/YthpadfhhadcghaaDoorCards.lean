/-
  DERIVED. GIVEN WITH THE SEED: THE CARDS: each row of YthpadfhhadcghaaDoorRows.lean that lists a variable, with what it lists TIED to the program's text (the seventh form; the later family's looks); each row that meets fmt, with fmt's text TOLD by the authors' own Lean function (tested against real Go, not proved from fmt's source: count such statements apart). THE CARD IS WHAT COUNTS. Prove the row's statement (the work); the ties are given (YthpadfhhadcghaaDoorTie.lean); close each card by the builder's one call (the guide's Derived/Test/ToyasCard.lean, 'card_holds'). Laid BY PROGRAM, IN A SANDBOX (cutbox-door.mjs). By AI agents, Wed Nov 11 2026. No macro, syntax, notation, axiom, sorry.
-/
import Derived.Test.YthpadfhhadcghaaDoorRows
import GoSem.ClaimSeven
namespace Go.Proofs.YthpadfhhadcghaaDoor
namespace Rows

/-- THE TIED CARD OF 'triviumlaw22.CanonQueries'. -/
def canonQueriesCard : Claim7 := { stood := { row := canonQueriesRow, standIns := [], harness := (true, "4107608b7929d5d6d74f96870c6f5753621ceb7154d6a66b92d04f6ffdc1495a"), looks := false }, kinds := [], alts := [], laidByText := true, laidKinds := [.data, .data, .data, .data, .pinned], laidTests := true, laidLooks := .later }
def CanonQueriesCardSaid : Prop := Claim7.holds Tryd.pinned (.plain (OpenSpec.ofChange canonQueriesSpec)) canonQueriesCard

/-- THE TIED CARD OF 'triviumlaw21.AskreadBehind'. -/
def askreadBehindCard : Claim7 := { stood := { row := askreadBehindRow, standIns := [], harness := (true, "4107608b7929d5d6d74f96870c6f5753621ceb7154d6a66b92d04f6ffdc1495a"), looks := false }, kinds := [], alts := [], laidByText := true, laidKinds := [.data, .pinned], laidTests := true, laidLooks := .later }
def AskreadBehindCardSaid : Prop := Claim7.holds Tryd.pinned (.plain (OpenSpec.ofChange askreadBehindSpec)) askreadBehindCard

/-- THE SECOND FORM's CARD OF 'triviumlaw22.CanonQueries'. -/
def canonQueriesUptoCard : Claim7 := { stood := { row := canonQueriesUptoRow, standIns := [], harness := (true, "4107608b7929d5d6d74f96870c6f5753621ceb7154d6a66b92d04f6ffdc1495a"), looks := false }, kinds := [], alts := [], laidByText := true, laidKinds := [.data, .data, .data, .data, .pinned], laidTests := true, laidLooks := .later }
def CanonQueriesUptoCardSaid : Prop := Claim7.holds Tryd.pinned (.plain (OpenSpec.upto canonQueriesSpec)) canonQueriesUptoCard

/-- THE SECOND FORM's CARD OF 'triviumlaw21.AskreadBehind'. -/
def askreadBehindUptoCard : Claim7 := { stood := { row := askreadBehindUptoRow, standIns := [], harness := (true, "4107608b7929d5d6d74f96870c6f5753621ceb7154d6a66b92d04f6ffdc1495a"), looks := false }, kinds := [], alts := [], laidByText := true, laidKinds := [.data, .pinned], laidTests := true, laidLooks := .later }
def AskreadBehindUptoCardSaid : Prop := Claim7.holds Tryd.pinned (.plain (OpenSpec.upto askreadBehindSpec)) askreadBehindUptoCard
end Rows
end Go.Proofs.YthpadfhhadcghaaDoor
