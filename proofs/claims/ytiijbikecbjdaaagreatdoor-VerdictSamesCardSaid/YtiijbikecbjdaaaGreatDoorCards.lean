/-
  DERIVED. GIVEN WITH THE SEED: THE CARDS: each row of YtiijbikecbjdaaaGreatDoorRows.lean that lists a variable, with what it lists TIED to the program's text (the seventh form; the later family's looks); each row that meets fmt, with fmt's text TOLD by the authors' own Lean function (tested against real Go, not proved from fmt's source: count such statements apart). THE CARD IS WHAT COUNTS. Prove the row's statement (the work); the ties are given (YtiijbikecbjdaaaGreatDoorTie.lean); close each card by the builder's one call (the guide's Derived/Test/ToyasCard.lean, 'card_holds'). Laid BY PROGRAM, IN A SANDBOX (cutbox-door.mjs). By AI agents, Wed Nov 11 2026. No macro, syntax, notation, axiom, sorry.
-/
import Derived.Test.YtiijbikecbjdaaaGreatDoorRows
import GoSem.ClaimSeven
namespace Go.Proofs.YtiijbikecbjdaaaGreatDoor
namespace Rows

/-- THE TIED CARD OF 'palinglaw38.VerdictSames'. -/
def verdictSamesCard : Claim7 := { stood := { row := verdictSamesRow, standIns := [], harness := (true, "0fd6c5aec827901524d062485e5b7118e4e0ea20042b42c92f1a9ae92f6e3334"), looks := true }, kinds := [], alts := [], laidByText := true, laidKinds := [.data, .pinned], laidTests := true, laidLooks := .later }
def VerdictSamesCardSaid : Prop := Claim7.holds Tryz.pinned (.plain (OpenSpec.ofChange verdictSamesSpec)) verdictSamesCard

/-- THE TIED CARD OF 'palinglaw38.VerdictOne'. -/
def verdictOneCard : Claim7 := { stood := { row := verdictOneRow, standIns := [], harness := (true, "0fd6c5aec827901524d062485e5b7118e4e0ea20042b42c92f1a9ae92f6e3334"), looks := true }, kinds := [], alts := [], laidByText := true, laidKinds := [.data, .pinned], laidTests := true, laidLooks := .later }
def VerdictOneCardSaid : Prop := Claim7.holds Tryz.pinned (.plain (OpenSpec.ofChange verdictOneSpec)) verdictOneCard

/-- THE SECOND FORM's CARD OF 'palinglaw38.VerdictSames'. -/
def verdictSamesUptoCard : Claim7 := { stood := { row := verdictSamesUptoRow, standIns := [], harness := (true, "0fd6c5aec827901524d062485e5b7118e4e0ea20042b42c92f1a9ae92f6e3334"), looks := true }, kinds := [], alts := [], laidByText := true, laidKinds := [.data, .pinned], laidTests := true, laidLooks := .later }
def VerdictSamesUptoCardSaid : Prop := Claim7.holds Tryz.pinned (.plain (OpenSpec.upto verdictSamesSpec)) verdictSamesUptoCard

/-- THE SECOND FORM's CARD OF 'palinglaw38.VerdictOne'. -/
def verdictOneUptoCard : Claim7 := { stood := { row := verdictOneUptoRow, standIns := [], harness := (true, "0fd6c5aec827901524d062485e5b7118e4e0ea20042b42c92f1a9ae92f6e3334"), looks := true }, kinds := [], alts := [], laidByText := true, laidKinds := [.data, .pinned], laidTests := true, laidLooks := .later }
def VerdictOneUptoCardSaid : Prop := Claim7.holds Tryz.pinned (.plain (OpenSpec.upto verdictOneSpec)) verdictOneUptoCard
end Rows
end Go.Proofs.YtiijbikecbjdaaaGreatDoor
