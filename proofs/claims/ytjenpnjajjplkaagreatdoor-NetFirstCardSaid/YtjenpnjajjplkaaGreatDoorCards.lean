/-
  DERIVED. GIVEN WITH THE SEED: THE CARDS: each row of YtjenpnjajjplkaaGreatDoorRows.lean that lists a variable, with what it lists TIED to the program's text (the seventh form; the later family's looks); each row that meets fmt, with fmt's text TOLD by the authors' own Lean function (tested against real Go, not proved from fmt's source: count such statements apart). THE CARD IS WHAT COUNTS. Prove the row's statement (the work); the ties are given (YtjenpnjajjplkaaGreatDoorTie.lean); close each card by the builder's one call (the guide's Derived/Test/ToyasCard.lean, 'card_holds'). Laid BY PROGRAM, IN A SANDBOX (cutbox-door.mjs). By AI agents, Wed Nov 11 2026. No macro, syntax, notation, axiom, sorry.
-/
import Derived.Test.YtjenpnjajjplkaaGreatDoorRows
import GoSem.ClaimSeven
namespace Go.Proofs.YtjenpnjajjplkaaGreatDoor
namespace Rows

/-- THE TIED CARD OF 'palinglaw39.MachineBack'. -/
def machineBackCard : Claim7 := { stood := { row := machineBackRow, standIns := [], harness := (true, "d049fd129f745915c24696369f423f1361de32988b6a3f23e86ce51f6889fe79"), looks := false }, kinds := [], alts := [], laidByText := true, laidKinds := [.data, .data, .data, .pinned], laidTests := true, laidLooks := .later }
def MachineBackCardSaid : Prop := Claim7.holds Tryz.pinned (.plain (OpenSpec.ofChange machineBackSpec)) machineBackCard

/-- THE TIED CARD OF 'palinglaw22.NetBuilds'. -/
def netBuildsCard : Claim7 := { stood := { row := netBuildsRow, standIns := [], harness := (true, "d049fd129f745915c24696369f423f1361de32988b6a3f23e86ce51f6889fe79"), looks := false }, kinds := [], alts := [], laidByText := true, laidKinds := [.data, .pinned], laidTests := true, laidLooks := .later }
def NetBuildsCardSaid : Prop := Claim7.holds Tryz.pinned (.plain (OpenSpec.ofChange netBuildsSpec)) netBuildsCard

/-- THE TIED CARD OF 'palinglaw22.NetTexts'. -/
def netTextsCard : Claim7 := { stood := { row := netTextsRow, standIns := [], harness := (true, "d049fd129f745915c24696369f423f1361de32988b6a3f23e86ce51f6889fe79"), looks := false }, kinds := [], alts := [], laidByText := true, laidKinds := [.data, .pinned], laidTests := true, laidLooks := .later }
def NetTextsCardSaid : Prop := Claim7.holds Tryz.pinned (.plain (OpenSpec.ofChange netTextsSpec)) netTextsCard

/-- THE TIED CARD OF 'palinglaw22.NetFirst'. -/
def netFirstCard : Claim7 := { stood := { row := netFirstRow, standIns := [], harness := (true, "d049fd129f745915c24696369f423f1361de32988b6a3f23e86ce51f6889fe79"), looks := false }, kinds := [], alts := [], laidByText := true, laidKinds := [.data, .pinned], laidTests := true, laidLooks := .later }
def NetFirstCardSaid : Prop := Claim7.holds Tryz.pinned (.plain (OpenSpec.ofChange netFirstSpec)) netFirstCard

/-- THE TIED CARD OF 'palinglaw22.NetSound'. -/
def netSoundCard : Claim7 := { stood := { row := netSoundRow, standIns := [], harness := (true, "d049fd129f745915c24696369f423f1361de32988b6a3f23e86ce51f6889fe79"), looks := false }, kinds := [], alts := [], laidByText := true, laidKinds := [.data, .pinned], laidTests := true, laidLooks := .later }
def NetSoundCardSaid : Prop := Claim7.holds Tryz.pinned (.plain (OpenSpec.ofChange netSoundSpec)) netSoundCard

/-- THE TIED CARD OF 'palinglaw44.ExplainProves'. -/
def explainProvesCard : Claim7 := { stood := { row := explainProvesRow, standIns := [], harness := (true, "d049fd129f745915c24696369f423f1361de32988b6a3f23e86ce51f6889fe79"), looks := false }, kinds := [], alts := [], laidByText := true, laidKinds := [.data, .pinned], laidTests := true, laidLooks := .later }
def ExplainProvesCardSaid : Prop := Claim7.holds Tryz.pinned (.plain (OpenSpec.ofChange explainProvesSpec)) explainProvesCard

/-- THE TIED CARD OF 'palinglaw49.OrderNets'. -/
def orderNetsCard : Claim7 := { stood := { row := orderNetsRow, standIns := [], harness := (true, "d049fd129f745915c24696369f423f1361de32988b6a3f23e86ce51f6889fe79"), looks := false }, kinds := [], alts := [], laidByText := true, laidKinds := [.data, .pinned], laidTests := true, laidLooks := .later }
def OrderNetsCardSaid : Prop := Claim7.holds Tryz.pinned (.plain (OpenSpec.ofChange orderNetsSpec)) orderNetsCard

/-- THE SECOND FORM's CARD OF 'palinglaw39.MachineBack'. -/
def machineBackUptoCard : Claim7 := { stood := { row := machineBackUptoRow, standIns := [], harness := (true, "d049fd129f745915c24696369f423f1361de32988b6a3f23e86ce51f6889fe79"), looks := false }, kinds := [], alts := [], laidByText := true, laidKinds := [.data, .data, .data, .pinned], laidTests := true, laidLooks := .later }
def MachineBackUptoCardSaid : Prop := Claim7.holds Tryz.pinned (.plain (OpenSpec.upto machineBackSpec)) machineBackUptoCard

/-- THE SECOND FORM's CARD OF 'palinglaw22.NetBuilds'. -/
def netBuildsUptoCard : Claim7 := { stood := { row := netBuildsUptoRow, standIns := [], harness := (true, "d049fd129f745915c24696369f423f1361de32988b6a3f23e86ce51f6889fe79"), looks := false }, kinds := [], alts := [], laidByText := true, laidKinds := [.data, .pinned], laidTests := true, laidLooks := .later }
def NetBuildsUptoCardSaid : Prop := Claim7.holds Tryz.pinned (.plain (OpenSpec.upto netBuildsSpec)) netBuildsUptoCard

/-- THE SECOND FORM's CARD OF 'palinglaw22.NetTexts'. -/
def netTextsUptoCard : Claim7 := { stood := { row := netTextsUptoRow, standIns := [], harness := (true, "d049fd129f745915c24696369f423f1361de32988b6a3f23e86ce51f6889fe79"), looks := false }, kinds := [], alts := [], laidByText := true, laidKinds := [.data, .pinned], laidTests := true, laidLooks := .later }
def NetTextsUptoCardSaid : Prop := Claim7.holds Tryz.pinned (.plain (OpenSpec.upto netTextsSpec)) netTextsUptoCard

/-- THE SECOND FORM's CARD OF 'palinglaw22.NetFirst'. -/
def netFirstUptoCard : Claim7 := { stood := { row := netFirstUptoRow, standIns := [], harness := (true, "d049fd129f745915c24696369f423f1361de32988b6a3f23e86ce51f6889fe79"), looks := false }, kinds := [], alts := [], laidByText := true, laidKinds := [.data, .pinned], laidTests := true, laidLooks := .later }
def NetFirstUptoCardSaid : Prop := Claim7.holds Tryz.pinned (.plain (OpenSpec.upto netFirstSpec)) netFirstUptoCard

/-- THE SECOND FORM's CARD OF 'palinglaw22.NetSound'. -/
def netSoundUptoCard : Claim7 := { stood := { row := netSoundUptoRow, standIns := [], harness := (true, "d049fd129f745915c24696369f423f1361de32988b6a3f23e86ce51f6889fe79"), looks := false }, kinds := [], alts := [], laidByText := true, laidKinds := [.data, .pinned], laidTests := true, laidLooks := .later }
def NetSoundUptoCardSaid : Prop := Claim7.holds Tryz.pinned (.plain (OpenSpec.upto netSoundSpec)) netSoundUptoCard

/-- THE SECOND FORM's CARD OF 'palinglaw44.ExplainProves'. -/
def explainProvesUptoCard : Claim7 := { stood := { row := explainProvesUptoRow, standIns := [], harness := (true, "d049fd129f745915c24696369f423f1361de32988b6a3f23e86ce51f6889fe79"), looks := false }, kinds := [], alts := [], laidByText := true, laidKinds := [.data, .pinned], laidTests := true, laidLooks := .later }
def ExplainProvesUptoCardSaid : Prop := Claim7.holds Tryz.pinned (.plain (OpenSpec.upto explainProvesSpec)) explainProvesUptoCard

/-- THE SECOND FORM's CARD OF 'palinglaw49.OrderNets'. -/
def orderNetsUptoCard : Claim7 := { stood := { row := orderNetsUptoRow, standIns := [], harness := (true, "d049fd129f745915c24696369f423f1361de32988b6a3f23e86ce51f6889fe79"), looks := false }, kinds := [], alts := [], laidByText := true, laidKinds := [.data, .pinned], laidTests := true, laidLooks := .later }
def OrderNetsUptoCardSaid : Prop := Claim7.holds Tryz.pinned (.plain (OpenSpec.upto orderNetsSpec)) orderNetsUptoCard
end Rows
end Go.Proofs.YtjenpnjajjplkaaGreatDoor
