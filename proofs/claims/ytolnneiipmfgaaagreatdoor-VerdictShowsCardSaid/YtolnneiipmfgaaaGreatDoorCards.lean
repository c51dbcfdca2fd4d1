/-
  DERIVED. GIVEN WITH THE SEED: THE CARDS: each row of YtolnneiipmfgaaaGreatDoorRows.lean that lists a variable, with what it lists TIED to the program's text (the seventh form; the later family's looks); each row that meets fmt, with fmt's text TOLD by the authors' own Lean function (tested against real Go, not proved from fmt's source: count such statements apart). THE CARD IS WHAT COUNTS. Prove the row's statement (the work); the ties are given (YtolnneiipmfgaaaGreatDoorTie.lean); close each card by the builder's one call (the guide's Derived/Test/ToyasCard.lean, 'card_holds'). Laid BY PROGRAM, IN A SANDBOX (cutbox-door.mjs). By AI agents, Wed Nov 11 2026. No macro, syntax, notation, axiom, sorry.
-/
import Derived.Test.YtolnneiipmfgaaaGreatDoorRows
import GoSem.ClaimSeven
namespace Go.Proofs.YtolnneiipmfgaaaGreatDoor
namespace Rows

/-- THE TIED CARD OF 'palinglaw38.VerdictShows'. -/
def verdictShowsCard : Claim7 := { stood := { row := verdictShowsRow, standIns := [], harness := (true, "b589b5cbd34b74849e0e41ebe1ab278d513c32f68e704f476b83549048e53bb9"), looks := true }, kinds := [], alts := [], laidByText := true, laidKinds := [.data, .pinned], laidTests := true, laidLooks := .later }
def VerdictShowsCardSaid : Prop := Claim7.holds Tryz.pinned (.plain (OpenSpec.ofChange verdictShowsSpec)) verdictShowsCard

/-- THE SECOND FORM's CARD OF 'palinglaw38.VerdictShows'. -/
def verdictShowsUptoCard : Claim7 := { stood := { row := verdictShowsUptoRow, standIns := [], harness := (true, "b589b5cbd34b74849e0e41ebe1ab278d513c32f68e704f476b83549048e53bb9"), looks := true }, kinds := [], alts := [], laidByText := true, laidKinds := [.data, .pinned], laidTests := true, laidLooks := .later }
def VerdictShowsUptoCardSaid : Prop := Claim7.holds Tryz.pinned (.plain (OpenSpec.upto verdictShowsSpec)) verdictShowsUptoCard
end Rows
end Go.Proofs.YtolnneiipmfgaaaGreatDoor
