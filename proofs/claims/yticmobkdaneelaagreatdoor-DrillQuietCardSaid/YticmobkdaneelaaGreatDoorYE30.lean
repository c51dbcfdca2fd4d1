/- Parts of a proof. -/
import Derived.Test.YticmobkdaneelaaGreatDoorYE28
set_option linter.all false
set_option linter.unusedVariables false
set_option linter.unusedSimpArgs false
set_option linter.deprecated false
namespace Go.Sy.YticmobkdaneelaaGreatDoor
open Go.Proofs Go.Proofs.Tryz
attribute [local irreducible] Go.Sy.G Go.Sy.DR
set_option maxRecDepth 100000
set_option maxHeartbeats 4000000
def A4t(n:Net)(hn:n.Fin)(l:LineM)(hl:LineW l):Sp 189 [Am n,A3 l] (.tup [Am (putVrf n l).1,Aa (putVrf n l).2]):=cT F189 ntmps189 λF hF=>by
 have ar:=@beg_ok n l 8;have aa:=putVrf.eq_1 n l;have q1:=Aea n hn l hl 8;have db:=Te n hn;generalize putVrf n l=res at *;generalize begT n l 8=b at *;obtain ⟨d,e⟩:=b;dsimp only at aa ar q1;by_cases h1:e≠0
 ·have g1:(e != 0)=true:=by rw[xG];exact h1
  rw[zG h1]at aa;subst aa;refine gD q1 F266 ?_;refine Ak 4 (C6 emptyN) E vL ?_;exact gA
 have g1:(e != 0)=false:=by rw[bne_eq_false_iff_eq];omega
 rw[zD h1]at aa;obtain ⟨_,hr,i,hi,ab⟩:=ar q_;subst hi;clear ar;have aq:(i:Int).toNat<n.devices.length:=ab;have ep:nth n.devices (i:Int)=n.devices[(i:Int).toNat]'aq:=Ai aq;clear ep;have nq:=hl.fin.i;have hle:=hl.fin.e;have q2:=Ait n hn hr (i:Int) l.name;have q5:=Es l.imports q_;have q6:=Es l.exports q_;have il:n.vrfs.length<2147483648:=hn.vrfs;generalize Adc n (i:Int) l.name=v2 at *;by_cases h2:0≤v2
 ·have g2:decide (v2≥0)=true:=zO h2;rw[zG h2]at aa;subst aa;refine gB q1 F266 q2 F267 ?_;refine Ak 4 (C6 emptyN) E vL ?_;exact gA
 have g2:decide (v2≥0)=false:=zL h2;rw[zD h2]at aa;by_cases h5:n.vrfs.length=16
 ·have g5:((n.vrfs.length:Int)==16)=true:=by rw[yJ];omega
  rw[zG h5]at aa;subst aa;refine gB q1 F266 q2 F267 ?_;refine Ak 4 (C6 emptyN) E vL ?_;exact gA
 have g5:((n.vrfs.length:Int)==16)=false:=by rw[zR];omega
 rw[zD h5]at aa;subst aa;refine gB q1 F266 q2 F267 ?_;refine X (Ad [(0,901),(1,902),(2,903),(3,904),(4,905),(5,906),(6,907),(7,908)] E F30 db E W E V) ?_;refine gJ q5 F91 q6 F91 ?_;refine Xd (Ag Γ.toTy 51 E E E E E (.row E) (.lit (e:=Ca) (l:=[(⟨l.row,(i:Int),l.name,l.imports,l.exports⟩:Vrf)]) E E) j_ (by simp only[yC];omega) (by simp only[yC];omega)) ?_;refine T ?_;refine Aj 901 E ?_;refine Aj 902 E ?_;refine Aj 903 E ?_;refine Aj 904 E ?_;refine Aj 905 E ?_;refine Aj 906 E ?_;refine Aj 51 E ?_;refine Aj 908 E ?_;exact D
end Go.Sy.YticmobkdaneelaaGreatDoor
