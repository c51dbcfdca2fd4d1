/- Parts of a proof. -/
import Derived.Test.YticmobkdaneelaaGreatDoorYE27
import Derived.Test.YticmobkdaneelaaGreatDoorYE19
set_option linter.all false
set_option linter.unusedVariables false
set_option linter.unusedSimpArgs false
set_option linter.deprecated false
namespace Go.Sy.YticmobkdaneelaaGreatDoor
open Go.Proofs Go.Proofs.Tryz
attribute [local irreducible] Go.Sy.G Go.Sy.DR
set_option maxRecDepth 100000
set_option maxHeartbeats 4000000
def K6{α:Type}{p:α→Bool}{l:List α}(h:¬Bv p l<0):∃i:Nat,Bv p l=i∧i<l.length:=by
 have:=Iy p l;exact⟨(Bv p l).toNat,by omega,by omega⟩
def Qb(n:Net)(hn:n.Fin)(l:LineM)(hl:LineW l)(k:Int):Sp 264 [Am n,A3 l,Aa k] (.tup [Aa (begT n l k).1,Aa (begT n l k).2]):=cT F264 ntmps264 λF hF=>by
 have q1:=Ky l hl;have q2:=A1 n hn;have aa:=begT.eq_1 n l k;have hf:=fitsB.eq_1 n l k;generalize begT n l k=res at *;generalize fitsB n l k=f at *;cases h1:(l.kind==k) with
 |false=>
  have g1:(l.kind != k)=true:=by rw[bne,h1];rfl
  rw[h1,yE]at hf;rw[hf,zG rfl]at aa;subst aa;exact gA
 |true=>
  have g1:(l.kind != k)=false:=by rw[bne,h1];rfl
  rw[h1,yF]at hf;cases h2:Cj l with
  |false=>
   rw[h2]at q1 hf;rw[hf,yE,zG rfl]at aa;subst aa;refine gD q1 F261 ?_;exact D
  |true=>
   rw[h2]at q1 hf;cases h3:Ac n with
   |false=>
    rw[h3]at q2 hf;rw[hf,wR,zG rfl]at aa;subst aa;refine gB q1 F261 q2 F22 ?_;exact D
   |true=>
    have q3:=Ke n hn h3 l.dev;rw[h3]at q2 hf;rw[hf,zD y_]at aa;generalize Cn n l.dev=d at *;by_cases h4:d<0
    ·have g4:decide (d<0)=true:=zO h4;rw[zG h4]at aa;subst aa;refine gB q1 F261 q2 F22 ?_;refine C q3 F258 ?_;exact D
    ·have g4:decide (d<0)=false:=zL h4;rw[zD h4]at aa;subst aa;refine gB q1 F261 q2 F22 ?_;refine C q3 F258 ?_;exact D
def Aea(n:Net)(hn:n.Fin)(l:LineM)(hl:LineW l)(k:Int):Sp 266 [Am n,A3 l,Aa k] (.tup [Aa (begT n l k).1,Aa (begT n l k).2]):=cT F266 ntmps266 λF hF=>by
 have q1:=Ky l hl;have q2:=A1 n hn;have aa:=begT.eq_1 n l k;have hf:=fitsB.eq_1 n l k;generalize begT n l k=res at *;generalize fitsB n l k=f at *;cases h1:(l.kind==k) with
 |false=>
  have g1:(l.kind != k)=true:=by rw[bne,h1];rfl
  rw[h1,yE]at hf;rw[hf,zG rfl]at aa;subst aa;exact gA
 |true=>
  have g1:(l.kind != k)=false:=by rw[bne,h1];rfl
  rw[h1,yF]at hf;cases h2:Cj l with
  |false=>
   rw[h2]at q1 hf;rw[hf,yE,zG rfl]at aa;subst aa;refine gD q1 F261 ?_;exact D
  |true=>
   rw[h2]at q1 hf;cases h3:Ac n with
   |false=>
    rw[h3]at q2 hf;rw[hf,wR,zG rfl]at aa;subst aa;refine gB q1 F261 q2 F22 ?_;exact D
   |true=>
    have q3:=Ke n hn h3 l.dev;rw[h3]at q2 hf;rw[hf,zD y_]at aa;generalize Cn n l.dev=d at *;by_cases h4:d<0
    ·have g4:decide (d<0)=true:=zO h4;rw[zG h4]at aa;subst aa;refine gB q1 F261 q2 F22 ?_;refine C q3 F258 ?_;exact D
    ·have g4:decide (d<0)=false:=zL h4;rw[zD h4]at aa;subst aa;refine gB q1 F261 q2 F22 ?_;refine C q3 F258 ?_;exact D
def beg_ok{n:Net}{l:LineM}{k:Int}(h:(begT n l k).2=0):fitsB n l k=true∧Ac n=true∧∃i:Nat,(begT n l k).1=i∧i<n.devices.length:=by
 unfold begT at h⊢;cases hf:fitsB n l k with
 |false=>rw[hf,zG rfl]at h;exact zY h j_
 |true=>
  rw[hf,zD y_]at h;rw[zD y_];by_cases hd:Cn n l.dev<0
  ·rw[zG hd]at h;exact zY h j_
  ·rw[zD hd];refine⟨E,?_,K6 hd⟩;unfold fitsB at hf;simp only[zE]at hf;exact hf.2.2
def ownerC(a:Int)(d:Device):Sp 274 [Ax d,.ref 1 (Bb a) 0] (Ab (d.vtep==a)):=cT F274 ntmps274 λF hF=>by
 exact gA
def Asl(n:Net)(hn:n.Fin)(a:Int):Sp 194 [Am n,Bb a] (Aa (D2 n a)):=cT F194 ntmps194 λF hF=>by
 have q:=Kj n.devices (λd=>d.vtep==a) 274 [] [.ref 1 (Bb a) 0] rfl (λd _=>⟨⟨_,_,F274⟩,ownerC a d⟩) hn.devices;refine fW ?_;refine Bf 3 1 (Bb a) E E E ?_;refine c0 q F273 ?_;exact gC
def A5c(dev vni:Int)(d:Domain):Sp 272 [As d,.ref 1 (Aa dev) 0,.ref 1 (Aa vni) 0] (Ab (d.dev==dev&&(d.vni==vni&&vni != 0))):=cT F272 ntmps272 λF hF=>by
 cases h:(d.dev==dev)
 ·exact gA
 ·cases h2:(d.vni==vni)
  ·exact gA
  ·exact gA
def Zc(n:Net)(hn:n.Fin)(dev vni:Int):Sp 193 [Am n,Aa dev,Aa vni] (Aa (O4 n dev vni)):=cT F193 ntmps193 λF hF=>by
 have q:=Ev n.domains (λd=>d.dev==dev&&(d.vni==vni&&vni != 0)) 272 [] [.ref 1 (Aa dev) 0,.ref 1 (Aa vni) 0] rfl (λd _=>⟨⟨_,_,F272⟩,A5c dev vni d⟩) hn.domains;refine fW ?_;refine Bf 4 1 (Aa dev) E E E ?_;refine Bf 5 1 (Aa vni) E E E ?_;refine c0 q F164 ?_;exact gC
def A5b(dev vni:Int)(f:Flood):Sp 271 [Ba f,.ref 1 (Aa dev) 0,.ref 1 (Aa vni) 0] (Ab (f.dev==dev&&f.vni==vni)):=cT F271 ntmps271 λF hF=>by
 cases h:(f.dev==dev)
 ·exact gA
 ·exact gA
def Ak2(n:Net)(hn:n.Fin)(dev vni:Int):Sp 192 [Am n,Aa dev,Aa vni] (Aa (I5 n dev vni)):=cT F192 ntmps192 λF hF=>by
 have q:=Aa9 n.floods (λf=>f.dev==dev&&f.vni==vni) 271 [] [.ref 1 (Aa dev) 0,.ref 1 (Aa vni) 0] rfl (λf _=>⟨⟨_,_,F271⟩,A5b dev vni f⟩) hn.floods;refine fW ?_;refine Bf 4 1 (Aa dev) E E E ?_;refine Bf 5 1 (Aa vni) E E E ?_;refine c0 q F270 ?_;exact gC
def A5a(n:Net)(hn:n.Fin)(l:LineM)(hl:LineW l):Sp 186 [Am n,A3 l] (.tup [Am (putVtep n l).1,Aa (putVtep n l).2]):=cT F186 ntmps186 λF hF=>by
 have q1:=Qb n hn l hl 5;have ar:=@beg_ok n l 5;have aa:=putVtep.eq_1 n l;have q2:=Asl n hn l.addr;have q3:=Te n hn;generalize putVtep n l=res at *;generalize begT n l 5=b at *;obtain ⟨d,e⟩:=b;dsimp only at aa ar q1;by_cases h1:e≠0
 ·have g1:(e != 0)=true:=by rw[xG];exact h1
  rw[zG h1]at aa;subst aa;refine gD q1 F264 ?_;refine Ak 4 (C6 emptyN) E vL ?_;exact gA
 have g1:(e != 0)=false:=by rw[bne_eq_false_iff_eq];omega
 rw[zD h1]at aa;obtain ⟨_,_,i,hi,ab⟩:=ar q_;subst hi;clear ar;have aq:(i:Int).toNat<n.devices.length:=ab;have ep:nth n.devices (i:Int)=n.devices[(i:Int).toNat]'aq:=Ai aq;rw[ep]at aa;by_cases h2:(n.devices[(i:Int).toNat]'aq).vtep≠0
 ·have g2:((n.devices[(i:Int).toNat]'aq).vtep != 0)=true:=by rw[xG];exact h2
  rw[zG (.inl h2)]at aa;subst aa;refine gD q1 F264 ?_;refine Ak 4 (C6 emptyN) E vL ?_;exact gA
 have g2:((n.devices[(i:Int).toNat]'aq).vtep != 0)=false:=by rw[bne_eq_false_iff_eq];omega
 by_cases h3:0≤D2 n l.addr
 ·have g3:decide (D2 n l.addr≥0)=true:=zO h3;rw[zG (.inr h3)]at aa;subst aa;refine gB q1 F264 q2 F194 ?_;refine Ak 4 (C6 emptyN) E vL ?_;exact gA
 have g3:decide (D2 n l.addr≥0)=false:=zL h3;rw[zD (λh=>h.elim h2 h3)]at aa;have a7:Xu n.devices (i:Int) l.addr=n.devices.set (i:Int).toNat { (n.devices[(i:Int).toNat]'aq) with vtep:=l.addr}:=by rw[Xu,ep]
 rw[a7]at aa;subst aa;have ag:n.devices≠[]:=λe=>by rw[e]at ab;cases ab
 refine gB q1 F264 q2 F194 ?_;refine X (Ad [(0,901),(1,902),(2,903),(3,904),(4,905),(5,906),(6,907),(7,908)] E F30 q3 E W E V) ?_;refine⟨ag,?_⟩;refine T ?_;refine⟨{ (n.devices[(i:Int).toNat]'aq) with vtep:=l.addr},rfl,rfl,?_⟩;refine T ?_;refine Aj 901 E ?_;refine Aj 902 E ?_;refine Aj 903 E ?_;refine Aj 904 E ?_;refine Aj 905 E ?_;refine Aj 906 E ?_;refine Aj 907 E ?_;refine Aj 908 E ?_;exact D
end Go.Sy.YticmobkdaneelaaGreatDoor
