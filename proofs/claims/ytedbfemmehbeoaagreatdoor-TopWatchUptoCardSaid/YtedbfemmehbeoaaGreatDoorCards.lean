/-
  DERIVED. GIVEN WITH THE SEED: THE CARDS: each row of YtedbfemmehbeoaaGreatDoorRows.lean that lists a variable, with what it lists TIED to the program's text (the seventh form; the later family's looks); each row that meets fmt, with fmt's text TOLD by the authors' own Lean function (tested against real Go, not proved from fmt's source: count such statements apart). THE CARD IS WHAT COUNTS. Prove the row's statement (the work); the ties are given (YtedbfemmehbeoaaGreatDoorTie.lean); close each card by the builder's one call (the guide's Derived/Test/ToyasCard.lean, 'card_holds'). Laid BY PROGRAM, IN A SANDBOX (cutbox-door.mjs). By AI agents, Wed Nov 11 2026. No macro, syntax, notation, axiom, sorry.
-/
import Derived.Test.YtedbfemmehbeoaaGreatDoorRows
import GoSem.ClaimSeven
namespace Go.Proofs.YtedbfemmehbeoaaGreatDoor
namespace Rows

/-- THE TIED CARD OF 'palingtop.TopWatch'. -/
def topWatchCard : Claim7 := { stood := { row := topWatchRow, standIns := [], harness := (true, "5724b625e19d58b6ef6c0c63a693dcae1e2b05b237fd1e1fc2491972c3098e93"), looks := true }, kinds := [], alts := [], laidByText := true, laidKinds := [.data, .data, .data, .pinned], laidTests := true, laidLooks := .later }
def TopWatchCardSaid : Prop := Claim7.holds Tryz.pinned (.plain (OpenSpec.ofChange topWatchSpec)) topWatchCard

/-- THE TIED CARD OF 'palinglaw39.MachineShows'. -/
def machineShowsCard : Claim7 := { stood := { row := machineShowsRow, standIns := [], harness := (true, "5724b625e19d58b6ef6c0c63a693dcae1e2b05b237fd1e1fc2491972c3098e93"), looks := true }, kinds := [], alts := [], laidByText := true, laidKinds := [.data, .data, .data, .pinned], laidTests := true, laidLooks := .later }
def MachineShowsCardSaid : Prop := Claim7.holds Tryz.pinned (.plain (OpenSpec.ofChange machineShowsSpec)) machineShowsCard

/-- THE SECOND FORM's CARD OF 'palingtop.TopWatch'. -/
def topWatchUptoCard : Claim7 := { stood := { row := topWatchUptoRow, standIns := [], harness := (true, "5724b625e19d58b6ef6c0c63a693dcae1e2b05b237fd1e1fc2491972c3098e93"), looks := true }, kinds := [], alts := [], laidByText := true, laidKinds := [.data, .data, .data, .pinned], laidTests := true, laidLooks := .later }
def TopWatchUptoCardSaid : Prop := Claim7.holds Tryz.pinned (.plain (OpenSpec.upto topWatchSpec)) topWatchUptoCard

/-- THE SECOND FORM's CARD OF 'palinglaw39.MachineShows'. -/
def machineShowsUptoCard : Claim7 := { stood := { row := machineShowsUptoRow, standIns := [], harness := (true, "5724b625e19d58b6ef6c0c63a693dcae1e2b05b237fd1e1fc2491972c3098e93"), looks := true }, kinds := [], alts := [], laidByText := true, laidKinds := [.data, .data, .data, .pinned], laidTests := true, laidLooks := .later }
def MachineShowsUptoCardSaid : Prop := Claim7.holds Tryz.pinned (.plain (OpenSpec.upto machineShowsSpec)) machineShowsUptoCard
end Rows
end Go.Proofs.YtedbfemmehbeoaaGreatDoor
