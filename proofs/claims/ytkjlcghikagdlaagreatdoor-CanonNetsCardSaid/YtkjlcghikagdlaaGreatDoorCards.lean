/-
  DERIVED. GIVEN WITH THE SEED: THE CARDS: each row of YtkjlcghikagdlaaGreatDoorRows.lean that lists a variable, with what it lists TIED to the program's text (the seventh form; the later family's looks); each row that meets fmt, with fmt's text TOLD by the authors' own Lean function (tested against real Go, not proved from fmt's source: count such statements apart). THE CARD IS WHAT COUNTS. Prove the row's statement (the work); the ties are given (YtkjlcghikagdlaaGreatDoorTie.lean); close each card by the builder's one call (the guide's Derived/Test/ToyasCard.lean, 'card_holds'). Laid BY PROGRAM, IN A SANDBOX (cutbox-door.mjs). By AI agents, Wed Nov 11 2026. No macro, syntax, notation, axiom, sorry.
-/
import Derived.Test.YtkjlcghikagdlaaGreatDoorRows
import GoSem.ClaimSeven
namespace Go.Proofs.YtkjlcghikagdlaaGreatDoor
namespace Rows

/-- THE TIED CARD OF 'triviumlaw22.CanonNets'. -/
def canonNetsCard : Claim7 := { stood := { row := canonNetsRow, standIns := [], harness := (true, "106b7865ca179883e826336a856c1041e71382e36c4d98bb3951a5215669e192"), looks := false }, kinds := [], alts := [], laidByText := true, laidKinds := [.data, .data, .data, .data, .pinned], laidTests := true, laidLooks := .later }
def CanonNetsCardSaid : Prop := Claim7.holds Tryz.pinned (.plain (OpenSpec.ofChange canonNetsSpec)) canonNetsCard

/-- THE SECOND FORM's CARD OF 'triviumlaw22.CanonNets'. -/
def canonNetsUptoCard : Claim7 := { stood := { row := canonNetsUptoRow, standIns := [], harness := (true, "106b7865ca179883e826336a856c1041e71382e36c4d98bb3951a5215669e192"), looks := false }, kinds := [], alts := [], laidByText := true, laidKinds := [.data, .data, .data, .data, .pinned], laidTests := true, laidLooks := .later }
def CanonNetsUptoCardSaid : Prop := Claim7.holds Tryz.pinned (.plain (OpenSpec.upto canonNetsSpec)) canonNetsUptoCard
end Rows
end Go.Proofs.YtkjlcghikagdlaaGreatDoor
