/-
  DERIVED. GIVEN WITH THE SEED: THE CARDS: each row of YticmobkdaneelaaGreatDoorRows.lean that lists a variable, with what it lists TIED to the program's text (the seventh form; the later family's looks); each row that meets fmt, with fmt's text TOLD by the authors' own Lean function (tested against real Go, not proved from fmt's source: count such statements apart). THE CARD IS WHAT COUNTS. Prove the row's statement (the work); the ties are given (YticmobkdaneelaaGreatDoorTie.lean); close each card by the builder's one call (the guide's Derived/Test/ToyasCard.lean, 'card_holds'). Laid BY PROGRAM, IN A SANDBOX (cutbox-door.mjs). By AI agents, Wed Nov 11 2026. No macro, syntax, notation, axiom, sorry.
-/
import Derived.Test.YticmobkdaneelaaGreatDoorRows
import GoSem.ClaimSeven
namespace Go.Proofs.YticmobkdaneelaaGreatDoor
namespace Rows

/-- THE TIED CARD OF 'palinglaw51.DrillQuiet'. -/
def drillQuietCard : Claim7 := { stood := { row := drillQuietRow, standIns := [], harness := (true, "712a1ee596b3644c79ee6ade2881533e9cacbc7edbee33b2a9f374daa27fe21d"), looks := true }, kinds := [], alts := [], laidByText := true, laidKinds := [.data, .pinned], laidTests := true, laidLooks := .later }
def DrillQuietCardSaid : Prop := Claim7.holds Tryz.pinned (.plain (OpenSpec.ofChange drillQuietSpec)) drillQuietCard

/-- THE SECOND FORM's CARD OF 'palinglaw51.DrillQuiet'. -/
def drillQuietUptoCard : Claim7 := { stood := { row := drillQuietUptoRow, standIns := [], harness := (true, "712a1ee596b3644c79ee6ade2881533e9cacbc7edbee33b2a9f374daa27fe21d"), looks := true }, kinds := [], alts := [], laidByText := true, laidKinds := [.data, .pinned], laidTests := true, laidLooks := .later }
def DrillQuietUptoCardSaid : Prop := Claim7.holds Tryz.pinned (.plain (OpenSpec.upto drillQuietSpec)) drillQuietUptoCard
end Rows
end Go.Proofs.YticmobkdaneelaaGreatDoor
