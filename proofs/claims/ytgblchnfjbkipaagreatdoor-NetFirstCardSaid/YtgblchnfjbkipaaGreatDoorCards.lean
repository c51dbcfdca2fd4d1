/-
  DERIVED. GIVEN WITH THE SEED: THE CARDS: each row of YtgblchnfjbkipaaGreatDoorRows.lean that lists a variable, with what it lists TIED to the program's text (the seventh form; the later family's looks); each row that meets fmt, with fmt's text TOLD by the authors' own Lean function (tested against real Go, not proved from fmt's source: count such statements apart). THE CARD IS WHAT COUNTS. Prove the row's statement (the work); the ties are given (YtgblchnfjbkipaaGreatDoorTie.lean); close each card by the builder's one call (the guide's Derived/Test/ToyasCard.lean, 'card_holds'). Laid BY PROGRAM, IN A SANDBOX (cutbox-door.mjs). By AI agents, Wed Nov 11 2026. No macro, syntax, notation, axiom, sorry.
-/
import Derived.Test.YtgblchnfjbkipaaGreatDoorRows
import GoSem.ClaimSeven
namespace Go.Proofs.YtgblchnfjbkipaaGreatDoor
namespace Rows

/-- THE TIED CARD OF 'palinglaw49.OrderSorts'. -/
def orderSortsCard : Claim7 := { stood := { row := orderSortsRow, standIns := [], harness := (true, "3f6af94f8c32c5bce5a1ab8a14a0f655bb578ff8d5124cf5898aee3e9cdf08b6"), looks := false }, kinds := [], alts := [], laidByText := true, laidKinds := [.data, .pinned], laidTests := true, laidLooks := .later }
def OrderSortsCardSaid : Prop := Claim7.holds Tryz.pinned (.plain (OpenSpec.ofChange orderSortsSpec)) orderSortsCard

/-- THE TIED CARD OF 'palinglaw49.OrderTexts'. -/
def orderTextsCard : Claim7 := { stood := { row := orderTextsRow, standIns := [], harness := (true, "3f6af94f8c32c5bce5a1ab8a14a0f655bb578ff8d5124cf5898aee3e9cdf08b6"), looks := false }, kinds := [], alts := [], laidByText := true, laidKinds := [.data, .pinned], laidTests := true, laidLooks := .later }
def OrderTextsCardSaid : Prop := Claim7.holds Tryz.pinned (.plain (OpenSpec.ofChange orderTextsSpec)) orderTextsCard

/-- THE TIED CARD OF 'palinglaw49.OrderLess'. -/
def orderLessCard : Claim7 := { stood := { row := orderLessRow, standIns := [], harness := (true, "3f6af94f8c32c5bce5a1ab8a14a0f655bb578ff8d5124cf5898aee3e9cdf08b6"), looks := false }, kinds := [], alts := [], laidByText := true, laidKinds := [.data, .pinned], laidTests := true, laidLooks := .later }
def OrderLessCardSaid : Prop := Claim7.holds Tryz.pinned (.plain (OpenSpec.ofChange orderLessSpec)) orderLessCard

/-- THE TIED CARD OF 'palinglaw49.OrderOnce'. -/
def orderOnceCard : Claim7 := { stood := { row := orderOnceRow, standIns := [], harness := (true, "3f6af94f8c32c5bce5a1ab8a14a0f655bb578ff8d5124cf5898aee3e9cdf08b6"), looks := false }, kinds := [], alts := [], laidByText := true, laidKinds := [.data, .pinned], laidTests := true, laidLooks := .later }
def OrderOnceCardSaid : Prop := Claim7.holds Tryz.pinned (.plain (OpenSpec.ofChange orderOnceSpec)) orderOnceCard

/-- THE TIED CARD OF 'palinglaw22.NetBuilds'. -/
def netBuildsCard : Claim7 := { stood := { row := netBuildsRow, standIns := [], harness := (true, "3f6af94f8c32c5bce5a1ab8a14a0f655bb578ff8d5124cf5898aee3e9cdf08b6"), looks := false }, kinds := [], alts := [], laidByText := true, laidKinds := [.data, .pinned], laidTests := true, laidLooks := .later }
def NetBuildsCardSaid : Prop := Claim7.holds Tryz.pinned (.plain (OpenSpec.ofChange netBuildsSpec)) netBuildsCard

/-- THE TIED CARD OF 'palinglaw22.NetTexts'. -/
def netTextsCard : Claim7 := { stood := { row := netTextsRow, standIns := [], harness := (true, "3f6af94f8c32c5bce5a1ab8a14a0f655bb578ff8d5124cf5898aee3e9cdf08b6"), looks := false }, kinds := [], alts := [], laidByText := true, laidKinds := [.data, .pinned], laidTests := true, laidLooks := .later }
def NetTextsCardSaid : Prop := Claim7.holds Tryz.pinned (.plain (OpenSpec.ofChange netTextsSpec)) netTextsCard

/-- THE TIED CARD OF 'palinglaw22.NetFirst'. -/
def netFirstCard : Claim7 := { stood := { row := netFirstRow, standIns := [], harness := (true, "3f6af94f8c32c5bce5a1ab8a14a0f655bb578ff8d5124cf5898aee3e9cdf08b6"), looks := false }, kinds := [], alts := [], laidByText := true, laidKinds := [.data, .pinned], laidTests := true, laidLooks := .later }
def NetFirstCardSaid : Prop := Claim7.holds Tryz.pinned (.plain (OpenSpec.ofChange netFirstSpec)) netFirstCard

/-- THE TIED CARD OF 'palinglaw22.NetSound'. -/
def netSoundCard : Claim7 := { stood := { row := netSoundRow, standIns := [], harness := (true, "3f6af94f8c32c5bce5a1ab8a14a0f655bb578ff8d5124cf5898aee3e9cdf08b6"), looks := false }, kinds := [], alts := [], laidByText := true, laidKinds := [.data, .pinned], laidTests := true, laidLooks := .later }
def NetSoundCardSaid : Prop := Claim7.holds Tryz.pinned (.plain (OpenSpec.ofChange netSoundSpec)) netSoundCard

/-- THE TIED CARD OF 'palinglaw49.OrderNets'. -/
def orderNetsCard : Claim7 := { stood := { row := orderNetsRow, standIns := [], harness := (true, "3f6af94f8c32c5bce5a1ab8a14a0f655bb578ff8d5124cf5898aee3e9cdf08b6"), looks := false }, kinds := [], alts := [], laidByText := true, laidKinds := [.data, .pinned], laidTests := true, laidLooks := .later }
def OrderNetsCardSaid : Prop := Claim7.holds Tryz.pinned (.plain (OpenSpec.ofChange orderNetsSpec)) orderNetsCard

/-- THE SECOND FORM's CARD OF 'palinglaw49.OrderSorts'. -/
def orderSortsUptoCard : Claim7 := { stood := { row := orderSortsUptoRow, standIns := [], harness := (true, "3f6af94f8c32c5bce5a1ab8a14a0f655bb578ff8d5124cf5898aee3e9cdf08b6"), looks := false }, kinds := [], alts := [], laidByText := true, laidKinds := [.data, .pinned], laidTests := true, laidLooks := .later }
def OrderSortsUptoCardSaid : Prop := Claim7.holds Tryz.pinned (.plain (OpenSpec.upto orderSortsSpec)) orderSortsUptoCard

/-- THE SECOND FORM's CARD OF 'palinglaw49.OrderTexts'. -/
def orderTextsUptoCard : Claim7 := { stood := { row := orderTextsUptoRow, standIns := [], harness := (true, "3f6af94f8c32c5bce5a1ab8a14a0f655bb578ff8d5124cf5898aee3e9cdf08b6"), looks := false }, kinds := [], alts := [], laidByText := true, laidKinds := [.data, .pinned], laidTests := true, laidLooks := .later }
def OrderTextsUptoCardSaid : Prop := Claim7.holds Tryz.pinned (.plain (OpenSpec.upto orderTextsSpec)) orderTextsUptoCard

/-- THE SECOND FORM's CARD OF 'palinglaw49.OrderLess'. -/
def orderLessUptoCard : Claim7 := { stood := { row := orderLessUptoRow, standIns := [], harness := (true, "3f6af94f8c32c5bce5a1ab8a14a0f655bb578ff8d5124cf5898aee3e9cdf08b6"), looks := false }, kinds := [], alts := [], laidByText := true, laidKinds := [.data, .pinned], laidTests := true, laidLooks := .later }
def OrderLessUptoCardSaid : Prop := Claim7.holds Tryz.pinned (.plain (OpenSpec.upto orderLessSpec)) orderLessUptoCard

/-- THE SECOND FORM's CARD OF 'palinglaw49.OrderOnce'. -/
def orderOnceUptoCard : Claim7 := { stood := { row := orderOnceUptoRow, standIns := [], harness := (true, "3f6af94f8c32c5bce5a1ab8a14a0f655bb578ff8d5124cf5898aee3e9cdf08b6"), looks := false }, kinds := [], alts := [], laidByText := true, laidKinds := [.data, .pinned], laidTests := true, laidLooks := .later }
def OrderOnceUptoCardSaid : Prop := Claim7.holds Tryz.pinned (.plain (OpenSpec.upto orderOnceSpec)) orderOnceUptoCard

/-- THE SECOND FORM's CARD OF 'palinglaw22.NetBuilds'. -/
def netBuildsUptoCard : Claim7 := { stood := { row := netBuildsUptoRow, standIns := [], harness := (true, "3f6af94f8c32c5bce5a1ab8a14a0f655bb578ff8d5124cf5898aee3e9cdf08b6"), looks := false }, kinds := [], alts := [], laidByText := true, laidKinds := [.data, .pinned], laidTests := true, laidLooks := .later }
def NetBuildsUptoCardSaid : Prop := Claim7.holds Tryz.pinned (.plain (OpenSpec.upto netBuildsSpec)) netBuildsUptoCard

/-- THE SECOND FORM's CARD OF 'palinglaw22.NetTexts'. -/
def netTextsUptoCard : Claim7 := { stood := { row := netTextsUptoRow, standIns := [], harness := (true, "3f6af94f8c32c5bce5a1ab8a14a0f655bb578ff8d5124cf5898aee3e9cdf08b6"), looks := false }, kinds := [], alts := [], laidByText := true, laidKinds := [.data, .pinned], laidTests := true, laidLooks := .later }
def NetTextsUptoCardSaid : Prop := Claim7.holds Tryz.pinned (.plain (OpenSpec.upto netTextsSpec)) netTextsUptoCard

/-- THE SECOND FORM's CARD OF 'palinglaw22.NetFirst'. -/
def netFirstUptoCard : Claim7 := { stood := { row := netFirstUptoRow, standIns := [], harness := (true, "3f6af94f8c32c5bce5a1ab8a14a0f655bb578ff8d5124cf5898aee3e9cdf08b6"), looks := false }, kinds := [], alts := [], laidByText := true, laidKinds := [.data, .pinned], laidTests := true, laidLooks := .later }
def NetFirstUptoCardSaid : Prop := Claim7.holds Tryz.pinned (.plain (OpenSpec.upto netFirstSpec)) netFirstUptoCard

/-- THE SECOND FORM's CARD OF 'palinglaw22.NetSound'. -/
def netSoundUptoCard : Claim7 := { stood := { row := netSoundUptoRow, standIns := [], harness := (true, "3f6af94f8c32c5bce5a1ab8a14a0f655bb578ff8d5124cf5898aee3e9cdf08b6"), looks := false }, kinds := [], alts := [], laidByText := true, laidKinds := [.data, .pinned], laidTests := true, laidLooks := .later }
def NetSoundUptoCardSaid : Prop := Claim7.holds Tryz.pinned (.plain (OpenSpec.upto netSoundSpec)) netSoundUptoCard

/-- THE SECOND FORM's CARD OF 'palinglaw49.OrderNets'. -/
def orderNetsUptoCard : Claim7 := { stood := { row := orderNetsUptoRow, standIns := [], harness := (true, "3f6af94f8c32c5bce5a1ab8a14a0f655bb578ff8d5124cf5898aee3e9cdf08b6"), looks := false }, kinds := [], alts := [], laidByText := true, laidKinds := [.data, .pinned], laidTests := true, laidLooks := .later }
def OrderNetsUptoCardSaid : Prop := Claim7.holds Tryz.pinned (.plain (OpenSpec.upto orderNetsSpec)) orderNetsUptoCard
end Rows
end Go.Proofs.YtgblchnfjbkipaaGreatDoor
