/-
  J38: parts of a proof, joined by program.
-/
import Derived.Test.YtjenpnjajjplkaaGreatDoorRows
import Derived.ProofKit
import Derived.Test.YtjenpnjajjplkaaGreatDoorCards
set_option linter.all false
set_option linter.unusedVariables false
set_option linter.unusedSimpArgs false
set_option linter.deprecated false
namespace Go.Proofs.YtjenpnjajjplkaaGreatDoor
open Go.ChangeShapes Go.WideShapes Go.ChangeAt Go.RowKit
set_option maxRecDepth 100000
theorem Tp:Tryz.checked.prog.inPlace 4=Rows.netBuildsRow.inPlace:=by kernel_rfl
theorem Oh:Tryz.checked.prog.unfollowed 4=Rows.netBuildsRow.unfollowed:=by kernel_rfl
theorem Sg:Tryz.checked.prog.recurses 4=Rows.netBuildsRow.recurses:=by kernel_rfl
theorem Wc:Tryz.checked.prog.varsNamed 4=Rows.netBuildsRow.named:=by kernel_rfl
theorem Xt:Tryz.checked.prog.liftsFinal=Rows.netBuildsRow.lifted:=by kernel_rfl
theorem To:laidOutB Tryz.checked.prog=true:=by kernel_rfl
theorem Wg:Tryz.checked.prog.mayEnter=true:=by kernel_rfl
theorem We:Tryz.checked.prog.stopsHeard=true:=by kernel_rfl
theorem Wf:joinedFacts Tryz.checked.prog 4 Tryz.f4 Rows.netBuildsSpec Rows.netBuildsRow=true:=by
 unfold joinedFacts
 rw[Tp,Oh,Sg,Wc,Xt,To,Wg,We]
 kernel_rfl
theorem Abi:Rows.netBuildsRow.wfByText (OpenSpec.ofChange Rows.netBuildsSpec)=true:=by kernel_rfl
theorem Xs : Tryz.pinned.checked.prog.mainIs = some (true, "d049fd129f745915c24696369f423f1361de32988b6a3f23e86ce51f6889fe79".toList) := by kernel_rfl
theorem netBuilds_fnamed : Tryz.prog.funcNamed "paling/palinglaw22.NetBuilds" = some 4 := by kernel_rfl
theorem Wd:false=Tryz.pinned.checked.prog.looks []:=by kernel_rfl
theorem Tn:([22].all fun u=>!Tryz.prog.wantsStandIn u)=true:=by kernel_rfl
theorem Xu:false=Rows.netBuildsRow.goesBy Tryz.pinned.checked.prog:=by kernel_rfl
end Go.Proofs.YtjenpnjajjplkaaGreatDoor
