/-
  DERIVED. GIVEN WITH THE SEED: THE CARDS: each row of YtodbnbfjhjcanaaGreatDoorRows.lean that lists a variable, with what it lists TIED to the program's text (the seventh form; the later family's looks); each row that meets fmt, with fmt's text TOLD by the authors' own Lean function (tested against real Go, not proved from fmt's source: count such statements apart). THE CARD IS WHAT COUNTS. Prove the row's statement (the work); the ties are given (YtodbnbfjhjcanaaGreatDoorTie.lean); close each card by the builder's one call (the guide's Derived/Test/ToyasCard.lean, 'card_holds'). Laid BY PROGRAM, IN A SANDBOX (cutbox-door.mjs). By AI agents, Wed Nov 11 2026. No macro, syntax, notation, axiom, sorry.
-/
import Derived.Test.YtodbnbfjhjcanaaGreatDoorRows
import GoSem.ClaimSeven
namespace Go.Proofs.YtodbnbfjhjcanaaGreatDoor
namespace Rows

/-- THE TIED CARD OF 'palingtop.TopSound'. -/
def topSoundCard : Claim7 := { stood := { row := topSoundRow, standIns := [], harness := (true, "acfc063f5f2ba94aefcbaccc324fef5c0471003f7b8dc1c4b4f34d4b34297108"), looks := true }, kinds := [], alts := [], laidByText := true, laidKinds := [.data, .pinned], laidTests := true, laidLooks := .later }
def TopSoundCardSaid : Prop := Claim7.holds Tryz.pinned (.plain (OpenSpec.ofChange topSoundSpec)) topSoundCard

/-- THE TIED CARD OF 'palinglaw45.ShrinkWitness'. -/
def shrinkWitnessCard : Claim7 := { stood := { row := shrinkWitnessRow, standIns := [], harness := (true, "acfc063f5f2ba94aefcbaccc324fef5c0471003f7b8dc1c4b4f34d4b34297108"), looks := true }, kinds := [], alts := [], laidByText := true, laidKinds := [.data, .pinned], laidTests := true, laidLooks := .later }
def ShrinkWitnessCardSaid : Prop := Claim7.holds Tryz.pinned (.plain (OpenSpec.ofChange shrinkWitnessSpec)) shrinkWitnessCard

/-- THE SECOND FORM's CARD OF 'palingtop.TopSound'. -/
def topSoundUptoCard : Claim7 := { stood := { row := topSoundUptoRow, standIns := [], harness := (true, "acfc063f5f2ba94aefcbaccc324fef5c0471003f7b8dc1c4b4f34d4b34297108"), looks := true }, kinds := [], alts := [], laidByText := true, laidKinds := [.data, .pinned], laidTests := true, laidLooks := .later }
def TopSoundUptoCardSaid : Prop := Claim7.holds Tryz.pinned (.plain (OpenSpec.upto topSoundSpec)) topSoundUptoCard

/-- THE SECOND FORM's CARD OF 'palinglaw45.ShrinkWitness'. -/
def shrinkWitnessUptoCard : Claim7 := { stood := { row := shrinkWitnessUptoRow, standIns := [], harness := (true, "acfc063f5f2ba94aefcbaccc324fef5c0471003f7b8dc1c4b4f34d4b34297108"), looks := true }, kinds := [], alts := [], laidByText := true, laidKinds := [.data, .pinned], laidTests := true, laidLooks := .later }
def ShrinkWitnessUptoCardSaid : Prop := Claim7.holds Tryz.pinned (.plain (OpenSpec.upto shrinkWitnessSpec)) shrinkWitnessUptoCard
end Rows
end Go.Proofs.YtodbnbfjhjcanaaGreatDoor
