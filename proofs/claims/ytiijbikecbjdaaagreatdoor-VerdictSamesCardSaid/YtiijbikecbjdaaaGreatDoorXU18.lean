/-
  J42: parts of a proof, joined by program.
-/
import Derived.Test.YtiijbikecbjdaaaGreatDoorRows
import Derived.ProofKit
import Derived.Test.YtiijbikecbjdaaaGreatDoorCards
set_option linter.all false
set_option linter.unusedVariables false
set_option linter.unusedSimpArgs false
set_option linter.deprecated false
namespace Go.Proofs.YtiijbikecbjdaaaGreatDoor
open Go.ChangeShapes Go.WideShapes Go.ChangeAt Go.RowKit
set_option maxRecDepth 100000
theorem Vt:Tryz.checked.prog.inPlace 4=Rows.verdictOneRow.inPlace:=by kernel_rfl
theorem Q5:Tryz.checked.prog.unfollowed 4=Rows.verdictOneRow.unfollowed:=by kernel_rfl
theorem Uk:Tryz.checked.prog.recurses 4=Rows.verdictOneRow.recurses:=by kernel_rfl
theorem Y0:Tryz.checked.prog.varsNamed 4=Rows.verdictOneRow.named:=by kernel_rfl
theorem Abm:Tryz.checked.prog.liftsFinal=Rows.verdictOneRow.lifted:=by kernel_rfl
theorem Vs:laidOutB Tryz.checked.prog=true:=by kernel_rfl
theorem Y4:Tryz.checked.prog.mayEnter=true:=by kernel_rfl
theorem Y2:Tryz.checked.prog.stopsHeard=true:=by kernel_rfl
theorem Y3:joinedFacts Tryz.checked.prog 4 Tryz.f4 Rows.verdictOneSpec Rows.verdictOneRow=true:=by
 unfold joinedFacts
 rw[Vt,Q5,Uk,Y0,Abm,Vs,Y4,Y2]
 kernel_rfl
theorem Afg:Rows.verdictOneRow.wfByText (OpenSpec.ofChange Rows.verdictOneSpec)=true:=by kernel_rfl
theorem Abl : Tryz.pinned.checked.prog.mainIs = some (true, "0fd6c5aec827901524d062485e5b7118e4e0ea20042b42c92f1a9ae92f6e3334".toList) := by kernel_rfl
theorem verdictOne_fnamed : Tryz.prog.funcNamed "paling/palinglaw38.VerdictOne" = some 4 := by kernel_rfl
theorem Y1:true=Tryz.pinned.checked.prog.looks []:=by kernel_rfl
theorem Vr:([27,27].all λ u=>!Tryz.prog.wantsStandIn u)=true:=by kernel_rfl
theorem Abn:false=Rows.verdictOneRow.goesBy Tryz.pinned.checked.prog:=by kernel_rfl
end Go.Proofs.YtiijbikecbjdaaaGreatDoor
