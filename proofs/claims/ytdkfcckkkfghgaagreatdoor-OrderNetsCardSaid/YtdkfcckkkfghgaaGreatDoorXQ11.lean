/-
  J40: parts of a proof, joined by program.
-/
import Derived.Test.YtdkfcckkkfghgaaGreatDoorRows
import Derived.ProofKit
import Derived.Test.YtdkfcckkkfghgaaGreatDoorCards
set_option linter.all false
set_option linter.unusedVariables false
set_option linter.unusedSimpArgs false
set_option linter.deprecated false
namespace Go.Proofs.YtdkfcckkkfghgaaGreatDoor
open Go.ChangeShapes Go.WideShapes Go.ChangeAt Go.RowKit
set_option maxRecDepth 100000
theorem Tv:Tryz.checked.prog.inPlace 3=Rows.orderNetsRow.inPlace:=by kernel_rfl
theorem M8:Tryz.checked.prog.unfollowed 3=Rows.orderNetsRow.unfollowed:=by kernel_rfl
theorem Sj:Tryz.checked.prog.recurses 3=Rows.orderNetsRow.recurses:=by kernel_rfl
theorem Wu:Tryz.checked.prog.varsNamed 3=Rows.orderNetsRow.named:=by kernel_rfl
theorem X3:Tryz.checked.prog.liftsFinal=Rows.orderNetsRow.lifted:=by kernel_rfl
theorem Tu:laidOutB Tryz.checked.prog=true:=by kernel_rfl
theorem Wy:Tryz.checked.prog.mayEnter=true:=by kernel_rfl
theorem Ww:Tryz.checked.prog.stopsHeard=true:=by kernel_rfl
theorem Wx:joinedFacts Tryz.checked.prog 3 Tryz.f3 Rows.orderNetsSpec Rows.orderNetsRow=true:=by
 unfold joinedFacts
 rw[Tv,M8,Sj,Wu,X3,Tu,Wy,Ww]
 kernel_rfl
theorem Aca:Rows.orderNetsRow.wfByText (OpenSpec.ofChange Rows.orderNetsSpec)=true:=by kernel_rfl
theorem X2 : Tryz.pinned.checked.prog.mainIs = some (true, "6af7b04978dbfa4694bdbeeb43e14aa20afa3123859740cca6fb8e9dbd4809a7".toList) := by kernel_rfl
theorem orderNets_fnamed : Tryz.prog.funcNamed "paling/palinglaw49.OrderNets" = some 3 := by kernel_rfl
theorem Wv:false=Tryz.pinned.checked.prog.looks []:=by kernel_rfl
theorem Tt:([22].all fun u=>!Tryz.prog.wantsStandIn u)=true:=by kernel_rfl
theorem X4:false=Rows.orderNetsRow.goesBy Tryz.pinned.checked.prog:=by kernel_rfl
end Go.Proofs.YtdkfcckkkfghgaaGreatDoor
