/-
  DERIVED. GIVEN WITH THE SEED: THE CARDS: each row of YtjomehmhkcnadaaGreatDoorRows.lean that lists a variable, with what it lists TIED to the program's text (the seventh form; the later family's looks); each row that meets fmt, with fmt's text TOLD by the authors' own Lean function (tested against real Go, not proved from fmt's source: count such statements apart). THE CARD IS WHAT COUNTS. Prove the row's statement (the work); the ties are given (YtjomehmhkcnadaaGreatDoorTie.lean); close each card by the builder's one call (the guide's Derived/Test/ToyasCard.lean, 'card_holds'). Laid BY PROGRAM, IN A SANDBOX (cutbox-door.mjs). By AI agents, Wed Nov 11 2026. No macro, syntax, notation, axiom, sorry.
-/
import Derived.Test.YtjomehmhkcnadaaGreatDoorRows
import GoSem.ClaimSeven
namespace Go.Proofs.YtjomehmhkcnadaaGreatDoor
namespace Rows

/-- THE TIED CARD OF 'palinglaw39.MachineScripts'. -/
def machineScriptsCard : Claim7 := { stood := { row := machineScriptsRow, standIns := [], harness := (true, "3256ff341bdd916f41be6424f4a8b4e2ad832a71d90afec0065a9948d518493a"), looks := false }, kinds := [], alts := [], laidByText := true, laidKinds := [.data, .data, .data, .pinned], laidTests := true, laidLooks := .later }
def MachineScriptsCardSaid : Prop := Claim7.holds Tryz.pinned (.plain (OpenSpec.ofChange machineScriptsSpec)) machineScriptsCard

/-- THE TIED CARD OF 'palinglaw39.MachineTells'. -/
def machineTellsCard : Claim7 := { stood := { row := machineTellsRow, standIns := [], harness := (true, "3256ff341bdd916f41be6424f4a8b4e2ad832a71d90afec0065a9948d518493a"), looks := false }, kinds := [], alts := [], laidByText := true, laidKinds := [.data, .data, .data, .pinned], laidTests := true, laidLooks := .later }
def MachineTellsCardSaid : Prop := Claim7.holds Tryz.pinned (.plain (OpenSpec.ofChange machineTellsSpec)) machineTellsCard

/-- THE SECOND FORM's CARD OF 'palinglaw39.MachineScripts'. -/
def machineScriptsUptoCard : Claim7 := { stood := { row := machineScriptsUptoRow, standIns := [], harness := (true, "3256ff341bdd916f41be6424f4a8b4e2ad832a71d90afec0065a9948d518493a"), looks := false }, kinds := [], alts := [], laidByText := true, laidKinds := [.data, .data, .data, .pinned], laidTests := true, laidLooks := .later }
def MachineScriptsUptoCardSaid : Prop := Claim7.holds Tryz.pinned (.plain (OpenSpec.upto machineScriptsSpec)) machineScriptsUptoCard

/-- THE SECOND FORM's CARD OF 'palinglaw39.MachineTells'. -/
def machineTellsUptoCard : Claim7 := { stood := { row := machineTellsUptoRow, standIns := [], harness := (true, "3256ff341bdd916f41be6424f4a8b4e2ad832a71d90afec0065a9948d518493a"), looks := false }, kinds := [], alts := [], laidByText := true, laidKinds := [.data, .data, .data, .pinned], laidTests := true, laidLooks := .later }
def MachineTellsUptoCardSaid : Prop := Claim7.holds Tryz.pinned (.plain (OpenSpec.upto machineTellsSpec)) machineTellsUptoCard
end Rows
end Go.Proofs.YtjomehmhkcnadaaGreatDoor
