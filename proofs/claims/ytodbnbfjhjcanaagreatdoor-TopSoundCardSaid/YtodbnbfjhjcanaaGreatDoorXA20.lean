/- Parts of a proof. -/
import Derived.Test.YtodbnbfjhjcanaaGreatDoorXA18
set_option maxHeartbeats 4000000
set_option linter.all false
namespace Go.Sy.Zaa
open Go.Proofs Go.Proofs.Tryz
attribute [local irreducible]G DR
set_option maxRecDepth 100000
def A0y(n:Net)(hn:n.Fin)(l:LineM)(hl:LineW l):Sp 281 [Am n,A3 l] (.tup [Am (putVrf n l).1,Aa (putVrf n l).2]):=cT F281 ntmps281 λF hF=>by
 have ar:=@beg_ok n l 8;have aa:=putVrf.eq_1 n l;have q1:=lY n hn l hl 8;have de:=Qz n hn;generalize putVrf n l=res at *;generalize begT n l 8=b at *;obtain ⟨d,e⟩:=b;dsimp only at aa ar q1;by_cases h1:e≠0
 .have g1:(e != 0)=true:=by rw[xC];exact h1
  rw[zE h1]at aa;subst aa;refine gC q1 F354 ?_;exact Ak 4 (C8 emptyN) E vL gA
 have g1:(e != 0)=false:=by rw[bne_eq_false_iff_eq];omega
 rw[zD h1]at aa;obtain ⟨_,hr,i,hi,ab⟩:=ar z_;subst hi;clear ar;have aq:(i:Int).toNat<n.devices.length:=ab;have eu:nth n.devices (i:Int)=n.devices[(i:Int).toNat]'aq:=Ag aq;clear eu;have ot:=hl.fin.i;have hle:=hl.fin.e;have q2:=Ad2 n hn hr (i:Int) l.name;have q5:=Kk l.imports z_;have q6:=Kk l.exports z_;have im:n.vrfs.length<2147483648:=hn.vrfs;generalize fS n (i:Int) l.name=v2 at *;by_cases h2:0<=v2
 .have g2:decide (v2>=0)=true:=zK h2;rw[zE h2]at aa;subst aa;refine gB q1 F354 q2 F355 ?_;exact Ak 4 (C8 emptyN) E vL gA
 have g2:decide (v2>=0)=false:=zL h2;rw[zD h2]at aa;by_cases h5:n.vrfs.length=16
 .have g5:((n.vrfs.length:Int)==16)=true:=by rw[yJ];omega
  rw[zE h5]at aa;subst aa;refine gB q1 F354 q2 F355 ?_;exact Ak 4 (C8 emptyN) E vL gA
 have g5:((n.vrfs.length:Int)==16)=false:=by rw[zT];omega
 rw[zD h5]at aa;subst aa;refine gB q1 F354 q2 F355 ?_;refine X (Ad [(0,901),(1,902),(2,903),(3,904),(4,905),(5,906),(6,907),(7,908)] E F102 de E W E V) ?_;refine gI q5 F170 q6 F170 ?_;refine Xd (Ah Γ.toTy 51 E E E E E (.row E) (.lit (e:=Cu) (l:=[(⟨l.row,(i:Int),l.name,l.imports,l.exports⟩:Vrf)]) E E) y_ (by simp only[yF];omega) (by simp only[yF];omega)) ?_;refine T ?_;exact Aj 901 E (Aj 902 E (Aj 903 E (Aj 904 E (Aj 905 E (Aj 906 E (Aj 51 E (Aj 908 E D)))))))
end Go.Sy.Zaa
