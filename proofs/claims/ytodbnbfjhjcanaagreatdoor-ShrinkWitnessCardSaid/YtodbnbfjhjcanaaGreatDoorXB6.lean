/- Parts of a proof. -/
import Derived.ProofKit
import Derived.Test.YtodbnbfjhjcanaaGreatDoorCards
set_option linter.all false
namespace Go.Proofs.YtodbnbfjhjcanaaGreatDoor
open Go.ChangeShapes Go.WideShapes Go.ChangeAt Go.RowKit
set_option maxRecDepth 100000
def Vf:Tryz.checked.prog.inPlace 4=Rows.shrinkWitnessRow.inPlace:=by kernel_rfl
def Sd:Tryz.checked.prog.unfollowed 4=Rows.shrinkWitnessRow.unfollowed:=by kernel_rfl
def T3:Tryz.checked.prog.recurses 4=Rows.shrinkWitnessRow.recurses:=by kernel_rfl
def Yc:Tryz.checked.prog.varsNamed 4=Rows.shrinkWitnessRow.named:=by kernel_rfl
def Zs:Tryz.checked.prog.liftsFinal=Rows.shrinkWitnessRow.lifted:=by kernel_rfl
def Ve:laidOutB Tryz.checked.prog=true:=by kernel_rfl
def Yg:Tryz.checked.prog.mayEnter=true:=by kernel_rfl
def Ye:Tryz.checked.prog.stopsHeard=true:=by kernel_rfl
def Yf:joinedFacts Tryz.checked.prog 4 Tryz.f4 Rows.shrinkWitnessSpec Rows.shrinkWitnessRow=true:=by
 unfold joinedFacts;rw[Vf,Sd,T3,Yc,Zs,Ve,Yg,Ye]
 kernel_rfl
def eW:Rows.shrinkWitnessRow.wfByText (OpenSpec.ofChange Rows.shrinkWitnessSpec)=true:=by kernel_rfl
def Zr : Tryz.pinned.checked.prog.mainIs = some (true, "acfc063f5f2ba94aefcbaccc324fef5c0471003f7b8dc1c4b4f34d4b34297108".toList) := by kernel_rfl
def shrinkWitness_fnamed : Tryz.prog.funcNamed "paling/palinglaw45.ShrinkWitness" = some 4 := by kernel_rfl
def Yd:true=Tryz.pinned.checked.prog.looks []:=by kernel_rfl
def Vd:([22,22,23,24].all λu=>!Tryz.prog.wantsStandIn u)=true:=by kernel_rfl
def Zt:false=Rows.shrinkWitnessRow.goesBy Tryz.pinned.checked.prog:=by kernel_rfl
end Go.Proofs.YtodbnbfjhjcanaaGreatDoor
