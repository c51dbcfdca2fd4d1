/- Parts of a proof. -/
import Derived.ProofKit
import Derived.Test.YtodbnbfjhjcanaaGreatDoorCards
set_option linter.all false
namespace Go.Proofs.YtodbnbfjhjcanaaGreatDoor
open Go.ChangeShapes Go.WideShapes Go.ChangeAt Go.RowKit
set_option maxRecDepth 100000
def cG:Tryz.checked.prog.inPlace 3=Rows.topSoundRow.inPlace:=by kernel_rfl
def Xb:Tryz.checked.prog.unfollowed 3=Rows.topSoundRow.unfollowed:=by kernel_rfl
def Zh:Tryz.checked.prog.recurses 3=Rows.topSoundRow.recurses:=by kernel_rfl
def nD:Tryz.checked.prog.varsNamed 3=Rows.topSoundRow.named:=by kernel_rfl
def Ab7:Tryz.checked.prog.liftsFinal=Rows.topSoundRow.lifted:=by kernel_rfl
def cF:laidOutB Tryz.checked.prog=true:=by kernel_rfl
def nH:Tryz.checked.prog.mayEnter=true:=by kernel_rfl
def nF:Tryz.checked.prog.stopsHeard=true:=by kernel_rfl
def nG:joinedFacts Tryz.checked.prog 3 Tryz.f3 Rows.topSoundSpec Rows.topSoundRow=true:=by
 unfold joinedFacts;rw[cG,Xb,Zh,nD,Ab7,cF,nH,nF]
 kernel_rfl
def Ah8:Rows.topSoundRow.wfByText (OpenSpec.ofChange Rows.topSoundSpec)=true:=by kernel_rfl
def Ab6 : Tryz.pinned.checked.prog.mainIs = some (true, "acfc063f5f2ba94aefcbaccc324fef5c0471003f7b8dc1c4b4f34d4b34297108".toList) := by kernel_rfl
def topSound_fnamed : Tryz.prog.funcNamed "paling/palingtop.TopSound" = some 3 := by kernel_rfl
def nE:true=Tryz.pinned.checked.prog.looks []:=by kernel_rfl
def cE:([22,22,23,24,3].all λu=>!Tryz.prog.wantsStandIn u)=true:=by kernel_rfl
def Ab8:false=Rows.topSoundRow.goesBy Tryz.pinned.checked.prog:=by kernel_rfl
end Go.Proofs.YtodbnbfjhjcanaaGreatDoor
