/- Parts of a proof. -/
import Derived.Test.YtodbnbfjhjcanaaGreatDoorXA17
set_option maxHeartbeats 4000000
set_option linter.all false
namespace Go.Sy.Zaa
open Go.Proofs Go.Proofs.Tryz
attribute [local irreducible]G DR
set_option maxRecDepth 100000
def Kf{k:Type}{p:k->Bool}{l:List k}(h:¬Bs p l<0):∃i:Nat,Bs p l=i/\i<l.length:=by
 have:=Il p l;exact⟨(Bs p l).toNat,by omega,by omega⟩
theorem iH{f0 m0:Nat}{g0:Func}(F0:fT f0 g0)(n0:g0.ntmps=m0)(h:fT f0 g0->g0.ntmps=m0->∀ (n:Net) (hn:n.Fin) (l:LineM) (hl:LineW l) (k:Int),Sp f0 [Am n,A3 l,Aa k] (.tup [Aa (begT n l k).1,Aa (begT n l k).2]):=by
 intro F0 n0 n hn l hl k
 refine cT F0 n0 λF hF=>?_
 have q1:=La l hl;have q2:=A0 n hn;have aa:=begT.eq_1 n l k;have hf:=fitsB.eq_1 n l k;generalize begT n l k=res at *;generalize fitsB n l k=f at *;cases h1:(l.kind==k) with
 |false=>
  have g1:(l.kind != k)=true:=by rw[bne,h1];rfl
  rw[h1,yC]at hf;rw[hf,zE rfl]at aa;subst aa;exact gA
 |true=>
  have g1:(l.kind != k)=false:=by rw[bne,h1];rfl
  rw[h1,yD]at hf;cases h2:Cn l with
  |false=>
   rw[h2]at q1 hf;rw[hf,yC,zE rfl]at aa;subst aa;refine gC q1 F349 ?_;exact D
  |true=>
   rw[h2]at q1 hf;cases h3:Ac n with
   |false=>
    rw[h3]at q2 hf;rw[hf,wS,zE rfl]at aa;subst aa;refine gB q1 F349 q2 F39 ?_;exact D
   |true=>
    have q3:=I5 n hn h3 l.dev;rw[h3]at q2 hf;rw[hf,zD qq]at aa;generalize Cf n l.dev=d at *;by_cases h4:d<0
    .have g4:decide (d<0)=true:=zK h4;rw[zE h4]at aa;subst aa;refine gB q1 F349 q2 F39 ?_;refine C q3 F96 ?_;exact D
    .have g4:decide (d<0)=false:=zL h4;rw[zD h4]at aa;subst aa;refine gB q1 F349 q2 F39 ?_;refine C q3 F96 ?_;exact D):∀ (n:Net) (hn:n.Fin) (l:LineM) (hl:LineW l) (k:Int),Sp f0 [Am n,A3 l,Aa k] (.tup [Aa (begT n l k).1,Aa (begT n l k).2]):=h F0 n0
def Qt:=iH F352 ntmps352
def lY:=iH F354 ntmps354
def beg_ok{n:Net}{l:LineM}{k:Int}(h:(begT n l k).2=0):fitsB n l k=true/\Ac n=true/\∃i:Nat,(begT n l k).1=i/\i<n.devices.length:=by
 unfold begT at h|-;cases hf:fitsB n l k with
 |false=>rw[hf,zE rfl]at h;exact zX h y_
 |true=>
  rw[hf,zD qq]at h;rw[zD qq];by_cases hd:Cf n l.dev<0
  .rw[zE hd]at h;exact zX h y_
  .rw[zD hd];refine⟨E,?_,Kf hd⟩;unfold fitsB at hf;simp only[zG]at hf;exact hf.2.2
def ownerC(a:Int)(d:Device):Sp 361 [A4 d,.ref 1 (A9 a) 0] (Ab (d.vtep==a)):=cT F361 ntmps361 λF hF=>by
 exact gA
def An1(n:Net)(hn:n.Fin)(a:Int):Sp 286 [Am n,A9 a] (Aa (D0 n a)):=cT F286 ntmps286 λF hF=>by
 have q:=Ky n.devices (λd=>d.vtep==a) 361 [] [.ref 1 (A9 a) 0] rfl (λd _=>⟨⟨_,_,F361⟩,ownerC a d⟩) hn.devices;refine fW ?_;exact Ba 3 1 (A9 a) E E E (c0 q F226 gD)
def A1k(dev vni:Int)(d:Domain):Sp 360 [At d,.ref 1 (Aa dev) 0,.ref 1 (Aa vni) 0] (Ab (d.dev==dev&&(d.vni==vni&&vni != 0))):=cT F360 ntmps360 λF hF=>by
 cases h:(d.dev==dev)
 .exact gA
 .cases h2:(d.vni==vni)
  .exact gA
  .exact gA
def Z7(n:Net)(hn:n.Fin)(dev vni:Int):Sp 285 [Am n,Aa dev,Aa vni] (Aa (Ql n dev vni)):=cT F285 ntmps285 λF hF=>by
 have q:=Ey n.domains (λd=>d.dev==dev&&(d.vni==vni&&vni != 0)) 360 [] [.ref 1 (Aa dev) 0,.ref 1 (Aa vni) 0] rfl (λd _=>⟨⟨_,_,F360⟩,A1k dev vni d⟩) hn.domains;refine fW ?_;exact Ba 4 1 (Aa dev) E E E (Ba 5 1 (Aa vni) E E E (c0 q F222 gD))
def A1j(dev vni:Int)(f:Flood):Sp 359 [Bm f,.ref 1 (Aa dev) 0,.ref 1 (Aa vni) 0] (Ab (f.dev==dev&&f.vni==vni)):=cT F359 ntmps359 λF hF=>by
 cases h:(f.dev==dev)
 .exact gA
 .exact gA
def Agi(n:Net)(hn:n.Fin)(dev vni:Int):Sp 284 [Am n,Aa dev,Aa vni] (Aa (Jd n dev vni)):=cT F284 ntmps284 λF hF=>by
 have q:=dF n.floods (λf=>f.dev==dev&&f.vni==vni) 359 [] [.ref 1 (Aa dev) 0,.ref 1 (Aa vni) 0] rfl (λf _=>⟨⟨_,_,F359⟩,A1j dev vni f⟩) hn.floods;refine fW ?_;exact Ba 4 1 (Aa dev) E E E (Ba 5 1 (Aa vni) E E E (c0 q F358 gD))
def A1i(n:Net)(hn:n.Fin)(l:LineM)(hl:LineW l):Sp 278 [Am n,A3 l] (.tup [Am (putVtep n l).1,Aa (putVtep n l).2]):=cT F278 ntmps278 λF hF=>by
 have q1:=Qt n hn l hl 5;have ar:=@beg_ok n l 5;have aa:=putVtep.eq_1 n l;have q2:=An1 n hn l.addr;have q3:=Qz n hn;generalize putVtep n l=res at *;generalize begT n l 5=b at *;obtain ⟨d,e⟩:=b;dsimp only at aa ar q1;by_cases h1:e≠0
 .have g1:(e != 0)=true:=by rw[xC];exact h1
  rw[zE h1]at aa;subst aa;refine gC q1 F352 ?_;exact Ak 4 (C8 emptyN) E vL gA
 have g1:(e != 0)=false:=by rw[bne_eq_false_iff_eq];omega
 rw[zD h1]at aa;obtain ⟨_,_,i,hi,ab⟩:=ar z_;subst hi;clear ar;have aq:(i:Int).toNat<n.devices.length:=ab;have eu:nth n.devices (i:Int)=n.devices[(i:Int).toNat]'aq:=Ag aq;rw[eu]at aa;by_cases h2:(n.devices[(i:Int).toNat]'aq).vtep≠0
 .have g2:((n.devices[(i:Int).toNat]'aq).vtep != 0)=true:=by rw[xC];exact h2
  rw[zE (.inl h2)]at aa;subst aa;refine gC q1 F352 ?_;exact Ak 4 (C8 emptyN) E vL gA
 have g2:((n.devices[(i:Int).toNat]'aq).vtep != 0)=false:=by rw[bne_eq_false_iff_eq];omega
 by_cases h3:0<=D0 n l.addr
 .have g3:decide (D0 n l.addr>=0)=true:=zK h3;rw[zE (.inr h3)]at aa;subst aa;refine gB q1 F352 q2 F286 ?_;exact Ak 4 (C8 emptyN) E vL gA
 have g3:decide (D0 n l.addr>=0)=false:=zL h3;rw[zD (λh=>h.elim h2 h3)]at aa;have bj:Yn n.devices (i:Int) l.addr=n.devices.set (i:Int).toNat { (n.devices[(i:Int).toNat]'aq) with vtep:=l.addr}:=by rw[Yn,eu]
 rw[bj]at aa;subst aa;have ag:n.devices≠[]:=λe=>by rw[e]at ab;cases ab
 refine gB q1 F352 q2 F286 ?_;refine X (Ad [(0,901),(1,902),(2,903),(3,904),(4,905),(5,906),(6,907),(7,908)] E F102 q3 E W E V) ?_;refine⟨ag,?_⟩;refine T ?_;refine⟨{ (n.devices[(i:Int).toNat]'aq) with vtep:=l.addr},rfl,rfl,?_⟩;refine T ?_;exact Aj 901 E (Aj 902 E (Aj 903 E (Aj 904 E (Aj 905 E (Aj 906 E (Aj 907 E (Aj 908 E D)))))))
end Go.Sy.Zaa
