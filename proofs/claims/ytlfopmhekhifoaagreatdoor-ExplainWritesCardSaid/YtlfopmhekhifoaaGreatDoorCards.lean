/-
  DERIVED. GIVEN WITH THE SEED: THE CARDS: each row of YtlfopmhekhifoaaGreatDoorRows.lean that lists a variable, with what it lists TIED to the program's text (the seventh form; the later family's looks); each row that meets fmt, with fmt's text TOLD by the authors' own Lean function (tested against real Go, not proved from fmt's source: count such statements apart). THE CARD IS WHAT COUNTS. Prove the row's statement (the work); the ties are given (YtlfopmhekhifoaaGreatDoorTie.lean); close each card by the builder's one call (the guide's Derived/Test/ToyasCard.lean, 'card_holds'). Laid BY PROGRAM, IN A SANDBOX (cutbox-door.mjs). By AI agents, Wed Nov 11 2026. No macro, syntax, notation, axiom, sorry.
-/
import Derived.Test.YtlfopmhekhifoaaGreatDoorRows
import GoSem.ClaimSeven
namespace Go.Proofs.YtlfopmhekhifoaaGreatDoor
namespace Rows

/-- THE TIED CARD OF 'palinglaw44.ExplainWrites'. -/
def explainWritesCard : Claim7 := { stood := { row := explainWritesRow, standIns := [], harness := (true, "4414a3afb3fa9fe9edcf8e09df7bd7e34105e4ff7f9a94c41ee679c794a3f658"), looks := false }, kinds := [], alts := [], laidByText := true, laidKinds := [.data, .pinned], laidTests := true, laidLooks := .later }
def ExplainWritesCardSaid : Prop := Claim7.holds Tryz.pinned (.plain (OpenSpec.ofChange explainWritesSpec)) explainWritesCard

/-- THE TIED CARD OF 'palinglaw44.ExplainRefuses'. -/
def explainRefusesCard : Claim7 := { stood := { row := explainRefusesRow, standIns := [], harness := (true, "4414a3afb3fa9fe9edcf8e09df7bd7e34105e4ff7f9a94c41ee679c794a3f658"), looks := false }, kinds := [], alts := [], laidByText := true, laidKinds := [.data, .pinned], laidTests := true, laidLooks := .later }
def ExplainRefusesCardSaid : Prop := Claim7.holds Tryz.pinned (.plain (OpenSpec.ofChange explainRefusesSpec)) explainRefusesCard

/-- THE SECOND FORM's CARD OF 'palinglaw44.ExplainWrites'. -/
def explainWritesUptoCard : Claim7 := { stood := { row := explainWritesUptoRow, standIns := [], harness := (true, "4414a3afb3fa9fe9edcf8e09df7bd7e34105e4ff7f9a94c41ee679c794a3f658"), looks := false }, kinds := [], alts := [], laidByText := true, laidKinds := [.data, .pinned], laidTests := true, laidLooks := .later }
def ExplainWritesUptoCardSaid : Prop := Claim7.holds Tryz.pinned (.plain (OpenSpec.upto explainWritesSpec)) explainWritesUptoCard

/-- THE SECOND FORM's CARD OF 'palinglaw44.ExplainRefuses'. -/
def explainRefusesUptoCard : Claim7 := { stood := { row := explainRefusesUptoRow, standIns := [], harness := (true, "4414a3afb3fa9fe9edcf8e09df7bd7e34105e4ff7f9a94c41ee679c794a3f658"), looks := false }, kinds := [], alts := [], laidByText := true, laidKinds := [.data, .pinned], laidTests := true, laidLooks := .later }
def ExplainRefusesUptoCardSaid : Prop := Claim7.holds Tryz.pinned (.plain (OpenSpec.upto explainRefusesSpec)) explainRefusesUptoCard
end Rows
end Go.Proofs.YtlfopmhekhifoaaGreatDoor
