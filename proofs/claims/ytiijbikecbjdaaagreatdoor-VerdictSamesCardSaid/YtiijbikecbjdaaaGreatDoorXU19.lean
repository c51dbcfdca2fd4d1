/-
  J43: parts of a proof, joined by program.
-/
import Derived.Test.YtiijbikecbjdaaaGreatDoorRows
import Derived.ProofKit
import Derived.Test.YtiijbikecbjdaaaGreatDoorCards
set_option linter.all false
set_option linter.unusedVariables false
set_option linter.unusedSimpArgs false
set_option linter.deprecated false
namespace Go.Proofs.YtiijbikecbjdaaaGreatDoor
open Go.ChangeShapes Go.WideShapes Go.ChangeAt Go.RowKit
set_option maxRecDepth 100000
theorem Sc:Tryz.checked.prog.inPlace 3=Rows.verdictSamesRow.inPlace:=by kernel_rfl
theorem Mw:Tryz.checked.prog.unfollowed 3=Rows.verdictSamesRow.unfollowed:=by kernel_rfl
theorem Q4:Tryz.checked.prog.recurses 3=Rows.verdictSamesRow.recurses:=by kernel_rfl
theorem Vm:Tryz.checked.prog.varsNamed 3=Rows.verdictSamesRow.named:=by kernel_rfl
theorem Wq:Tryz.checked.prog.liftsFinal=Rows.verdictSamesRow.lifted:=by kernel_rfl
theorem Sb:laidOutB Tryz.checked.prog=true:=by kernel_rfl
theorem Vq:Tryz.checked.prog.mayEnter=true:=by kernel_rfl
theorem Vo:Tryz.checked.prog.stopsHeard=true:=by kernel_rfl
theorem Vp:joinedFacts Tryz.checked.prog 3 Tryz.f3 Rows.verdictSamesSpec Rows.verdictSamesRow=true:=by
 unfold joinedFacts
 rw[Sc,Mw,Q4,Vm,Wq,Sb,Vq,Vo]
 kernel_rfl
theorem Abk:Rows.verdictSamesRow.wfByText (OpenSpec.ofChange Rows.verdictSamesSpec)=true:=by kernel_rfl
theorem Wp : Tryz.pinned.checked.prog.mainIs = some (true, "0fd6c5aec827901524d062485e5b7118e4e0ea20042b42c92f1a9ae92f6e3334".toList) := by kernel_rfl
theorem verdictSames_fnamed : Tryz.prog.funcNamed "paling/palinglaw38.VerdictSames" = some 3 := by kernel_rfl
theorem Vn:true=Tryz.pinned.checked.prog.looks []:=by kernel_rfl
theorem Sa:([25,25].all λ u=>!Tryz.prog.wantsStandIn u)=true:=by kernel_rfl
theorem Wr:false=Rows.verdictSamesRow.goesBy Tryz.pinned.checked.prog:=by kernel_rfl
end Go.Proofs.YtiijbikecbjdaaaGreatDoor
