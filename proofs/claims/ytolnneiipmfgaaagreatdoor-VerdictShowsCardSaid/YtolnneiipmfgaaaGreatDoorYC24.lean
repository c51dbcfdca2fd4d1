/- Parts of a proof. -/
import Derived.ProofKit
import Derived.Test.YtolnneiipmfgaaaGreatDoorCards
set_option linter.all false
set_option linter.unusedVariables false
set_option linter.unusedSimpArgs false
set_option linter.deprecated false
namespace Go.Proofs.YtolnneiipmfgaaaGreatDoor
open Go.ChangeShapes Go.WideShapes Go.ChangeAt Go.RowKit
set_option maxRecDepth 100000
def Uv:Tryz.checked.prog.inPlace 3=Rows.verdictShowsRow.inPlace:=by kernel_rfl
def Q0:Tryz.checked.prog.unfollowed 3=Rows.verdictShowsRow.unfollowed:=by kernel_rfl
def Uk:Tryz.checked.prog.recurses 3=Rows.verdictShowsRow.recurses:=by kernel_rfl
def Yg:Tryz.checked.prog.varsNamed 3=Rows.verdictShowsRow.named:=by kernel_rfl
def Zi:Tryz.checked.prog.liftsFinal=Rows.verdictShowsRow.lifted:=by kernel_rfl
def Uu:laidOutB Tryz.checked.prog=true:=by kernel_rfl
def Yk:Tryz.checked.prog.mayEnter=true:=by kernel_rfl
def Yi:Tryz.checked.prog.stopsHeard=true:=by kernel_rfl
def Yj:joinedFacts Tryz.checked.prog 3 Tryz.f3 Rows.verdictShowsSpec Rows.verdictShowsRow=true:=by
 unfold joinedFacts;rw[Uv,Q0,Uk,Yg,Zi,Uu,Yk,Yi]
 kernel_rfl
def Aeg:Rows.verdictShowsRow.wfByText (OpenSpec.ofChange Rows.verdictShowsSpec)=true:=by kernel_rfl
def Zh : Tryz.pinned.checked.prog.mainIs = some (true, "b589b5cbd34b74849e0e41ebe1ab278d513c32f68e704f476b83549048e53bb9".toList) := by kernel_rfl
def verdictShows_fnamed : Tryz.prog.funcNamed "paling/palinglaw38.VerdictShows" = some 3 := by kernel_rfl
def Yh:true=Tryz.pinned.checked.prog.looks []:=by kernel_rfl
def Ut:([22,22].all λu=>!Tryz.prog.wantsStandIn u)=true:=by kernel_rfl
def Zj:false=Rows.verdictShowsRow.goesBy Tryz.pinned.checked.prog:=by kernel_rfl
end Go.Proofs.YtolnneiipmfgaaaGreatDoor
