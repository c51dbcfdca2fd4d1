/-
  J39: parts of a proof, joined by program.
-/
import Derived.Test.YtjenpnjajjplkaaGreatDoorRows
import Derived.ProofKit
import Derived.Test.YtjenpnjajjplkaaGreatDoorCards
set_option linter.all false
set_option linter.unusedVariables false
set_option linter.unusedSimpArgs false
set_option linter.deprecated false
namespace Go.Proofs.YtjenpnjajjplkaaGreatDoor
open Go.ChangeShapes Go.WideShapes Go.ChangeAt Go.RowKit
set_option maxRecDepth 100000
theorem Lb:Tryz.checked.prog.inPlace 3=Rows.machineBackRow.inPlace:=by kernel_rfl
theorem Jd:Tryz.checked.prog.unfollowed 3=Rows.machineBackRow.unfollowed:=by kernel_rfl
theorem J9:Tryz.checked.prog.recurses 3=Rows.machineBackRow.recurses:=by kernel_rfl
theorem My:Tryz.checked.prog.varsNamed 3=Rows.machineBackRow.named:=by kernel_rfl
theorem O7:Tryz.checked.prog.liftsFinal=Rows.machineBackRow.lifted:=by kernel_rfl
theorem La:laidOutB Tryz.checked.prog=true:=by kernel_rfl
theorem M2:Tryz.checked.prog.mayEnter=true:=by kernel_rfl
theorem M0:Tryz.checked.prog.stopsHeard=true:=by kernel_rfl
theorem M1:joinedFacts Tryz.checked.prog 3 Tryz.f3 Rows.machineBackSpec Rows.machineBackRow=true:=by
 unfold joinedFacts
 rw[Lb,Jd,J9,My,O7,La,M2,M0]
 kernel_rfl
theorem Td:Rows.machineBackRow.wfByText (OpenSpec.ofChange Rows.machineBackSpec)=true:=by kernel_rfl
theorem O6 : Tryz.pinned.checked.prog.mainIs = some (true, "d049fd129f745915c24696369f423f1361de32988b6a3f23e86ce51f6889fe79".toList) := by kernel_rfl
theorem machineBack_fnamed : Tryz.prog.funcNamed "paling/palinglaw39.MachineBack" = some 3 := by kernel_rfl
theorem Mz:false=Tryz.pinned.checked.prog.looks []:=by kernel_rfl
theorem K9:([22,23,24].all fun u=>!Tryz.prog.wantsStandIn u)=true:=by kernel_rfl
theorem O8:false=Rows.machineBackRow.goesBy Tryz.pinned.checked.prog:=by kernel_rfl
end Go.Proofs.YtjenpnjajjplkaaGreatDoor
