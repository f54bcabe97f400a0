/-
  DERIVED. GIVEN WITH THE SEED: THE CARDS: each row of YthnheieajicpfaaGreatDoorRows.lean that lists a variable, with what it lists TIED to the program's text (the seventh form; the later family's looks); each row that meets fmt, with fmt's text TOLD by the authors' own Lean function (tested against real Go, not proved from fmt's source: count such statements apart). THE CARD IS WHAT COUNTS. Prove the row's statement (the work); the ties are given (YthnheieajicpfaaGreatDoorTie.lean); close each card by the builder's one call (the guide's Derived/Test/ToyasCard.lean, 'card_holds'). Laid BY PROGRAM, IN A SANDBOX (cutbox-door.mjs). By AI agents, Wed Nov 11 2026. No macro, syntax, notation, axiom, sorry.
-/
import Derived.Test.YthnheieajicpfaaGreatDoorRows
import GoSem.ClaimSeven
namespace Go.Proofs.YthnheieajicpfaaGreatDoor
namespace Rows

/-- THE TIED CARD OF 'triviumlaw24.LimitsNets'. -/
def limitsNetsCard : Claim7 := { stood := { row := limitsNetsRow, standIns := [], harness := (true, "405c2f8090552e44a0593fe713beab6cfe62cc1582bda8dcc5241460119f6453"), looks := false }, kinds := [], alts := [], laidByText := true, laidKinds := [.data, .data, .data, .data, .pinned], laidTests := true, laidLooks := .later }
def LimitsNetsCardSaid : Prop := Claim7.holds Tryz.pinned (.plain (OpenSpec.ofChange limitsNetsSpec)) limitsNetsCard

/-- THE TIED CARD OF 'triviumlaw24.LimitsQueries'. -/
def limitsQueriesCard : Claim7 := { stood := { row := limitsQueriesRow, standIns := [], harness := (true, "405c2f8090552e44a0593fe713beab6cfe62cc1582bda8dcc5241460119f6453"), looks := false }, kinds := [], alts := [], laidByText := true, laidKinds := [.data, .data, .data, .data, .pinned], laidTests := true, laidLooks := .later }
def LimitsQueriesCardSaid : Prop := Claim7.holds Tryz.pinned (.plain (OpenSpec.ofChange limitsQueriesSpec)) limitsQueriesCard

/-- THE TIED CARD OF 'triviumlaw24.LimitsFewer'. -/
def limitsFewerCard : Claim7 := { stood := { row := limitsFewerRow, standIns := [], harness := (true, "405c2f8090552e44a0593fe713beab6cfe62cc1582bda8dcc5241460119f6453"), looks := false }, kinds := [], alts := [], laidByText := true, laidKinds := [.data, .data, .data, .data, .pinned], laidTests := true, laidLooks := .later }
def LimitsFewerCardSaid : Prop := Claim7.holds Tryz.pinned (.plain (OpenSpec.ofChange limitsFewerSpec)) limitsFewerCard

/-- THE SECOND FORM's CARD OF 'triviumlaw24.LimitsNets'. -/
def limitsNetsUptoCard : Claim7 := { stood := { row := limitsNetsUptoRow, standIns := [], harness := (true, "405c2f8090552e44a0593fe713beab6cfe62cc1582bda8dcc5241460119f6453"), looks := false }, kinds := [], alts := [], laidByText := true, laidKinds := [.data, .data, .data, .data, .pinned], laidTests := true, laidLooks := .later }
def LimitsNetsUptoCardSaid : Prop := Claim7.holds Tryz.pinned (.plain (OpenSpec.upto limitsNetsSpec)) limitsNetsUptoCard

/-- THE SECOND FORM's CARD OF 'triviumlaw24.LimitsQueries'. -/
def limitsQueriesUptoCard : Claim7 := { stood := { row := limitsQueriesUptoRow, standIns := [], harness := (true, "405c2f8090552e44a0593fe713beab6cfe62cc1582bda8dcc5241460119f6453"), looks := false }, kinds := [], alts := [], laidByText := true, laidKinds := [.data, .data, .data, .data, .pinned], laidTests := true, laidLooks := .later }
def LimitsQueriesUptoCardSaid : Prop := Claim7.holds Tryz.pinned (.plain (OpenSpec.upto limitsQueriesSpec)) limitsQueriesUptoCard

/-- THE SECOND FORM's CARD OF 'triviumlaw24.LimitsFewer'. -/
def limitsFewerUptoCard : Claim7 := { stood := { row := limitsFewerUptoRow, standIns := [], harness := (true, "405c2f8090552e44a0593fe713beab6cfe62cc1582bda8dcc5241460119f6453"), looks := false }, kinds := [], alts := [], laidByText := true, laidKinds := [.data, .data, .data, .data, .pinned], laidTests := true, laidLooks := .later }
def LimitsFewerUptoCardSaid : Prop := Claim7.holds Tryz.pinned (.plain (OpenSpec.upto limitsFewerSpec)) limitsFewerUptoCard
end Rows
end Go.Proofs.YthnheieajicpfaaGreatDoor
