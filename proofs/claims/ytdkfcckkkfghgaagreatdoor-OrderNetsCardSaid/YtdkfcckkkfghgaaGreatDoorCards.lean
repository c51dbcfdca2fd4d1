/-
  DERIVED. GIVEN WITH THE SEED: THE CARDS: each row of YtdkfcckkkfghgaaGreatDoorRows.lean that lists a variable, with what it lists TIED to the program's text (the seventh form; the later family's looks); each row that meets fmt, with fmt's text TOLD by the authors' own Lean function (tested against real Go, not proved from fmt's source: count such statements apart). THE CARD IS WHAT COUNTS. Prove the row's statement (the work); the ties are given (YtdkfcckkkfghgaaGreatDoorTie.lean); close each card by the builder's one call (the guide's Derived/Test/ToyasCard.lean, 'card_holds'). Laid BY PROGRAM, IN A SANDBOX (cutbox-door.mjs). By AI agents, Wed Nov 11 2026. No macro, syntax, notation, axiom, sorry.
-/
import Derived.Test.YtdkfcckkkfghgaaGreatDoorRows
import GoSem.ClaimSeven
namespace Go.Proofs.YtdkfcckkkfghgaaGreatDoor
namespace Rows

/-- THE TIED CARD OF 'palinglaw49.OrderNets'. -/
def orderNetsCard : Claim7 := { stood := { row := orderNetsRow, standIns := [], harness := (true, "6af7b04978dbfa4694bdbeeb43e14aa20afa3123859740cca6fb8e9dbd4809a7"), looks := false }, kinds := [], alts := [], laidByText := true, laidKinds := [.data, .pinned], laidTests := true, laidLooks := .later }
def OrderNetsCardSaid : Prop := Claim7.holds Tryz.pinned (.plain (OpenSpec.ofChange orderNetsSpec)) orderNetsCard

/-- THE SECOND FORM's CARD OF 'palinglaw49.OrderNets'. -/
def orderNetsUptoCard : Claim7 := { stood := { row := orderNetsUptoRow, standIns := [], harness := (true, "6af7b04978dbfa4694bdbeeb43e14aa20afa3123859740cca6fb8e9dbd4809a7"), looks := false }, kinds := [], alts := [], laidByText := true, laidKinds := [.data, .pinned], laidTests := true, laidLooks := .later }
def OrderNetsUptoCardSaid : Prop := Claim7.holds Tryz.pinned (.plain (OpenSpec.upto orderNetsSpec)) orderNetsUptoCard
end Rows
end Go.Proofs.YtdkfcckkkfghgaaGreatDoor
