/- Parts of a proof. -/
import Derived.Test.YtodbnbfjhjcanaaGreatDoorXA18
set_option maxHeartbeats 4000000
set_option linter.all false
namespace Go.Sy.Zaa
open Go.Proofs Go.Proofs.Tryz
attribute [local irreducible]G DR
set_option maxRecDepth 100000
def cU{a b x:Int}(hb:0<=b/\b<=32)(ha:0<=a/\a<4294967296)(hx:0<=x/\x<4294967296):Acu a b x=Tl a b x:=by
 obtain ⟨y,rfl⟩:=xM ha.1;obtain ⟨z,rfl⟩:=xM hx.1;obtain ⟨k,hk,dw⟩:∃k:Nat,(32-b).toNat=k/\k<=32:=⟨_,rfl,by omega⟩
 have hq:0<2^k:=Nat.two_pow_pos k;rw[Acu,Adw b hb,hk,Aye y z k z_ z_ dw,Tl,zK hb.1,zK hb.2,yD,yD,Lg y k b hb hk,Lg z k b hb hk];generalize 2^k=q at *;have h1:=uD y q;have h2:=uD z q;have e1:y-y%q=q*(y/q):=by omega
 have e2:z-z%q=q*(z/q):=by omega
 rw[e1,e2,wO,zJ,yJ];constructor
 .intro h;rw[h]
 .intro h;exact Nat.eq_of_mul_eq_mul_left hq (by exact_mod_cast h)
def clashS(n:Net)(x:Irb)(hv:0<=x.vrf/\x.vrf.toNat<n.vrfs.length)(hb:0<=x.bits/\x.bits<=32)(hx:0<=x.addr/\x.addr<4294967296)(dev a b:Int)(ha:0<=a/\a<4294967296)(dx:0<=b/\b<=32):Sp 357 [Am n,Cr x,Aa dev,Aqt a b] (Ab (clashB n dev a b x)):=cT F357 ntmps357 λF hF=>by
 have q1:=Ab1 x.addr x.bits a hb;have q2:=Ab1 a b x.addr dx;rw[cU hb hx ha]at q1;rw[cU dx ha hx]at q2;have hc:=clashB.eq_1 n dev a b x;have hv0:=hv.2;rw[Ag hv0]at hc;generalize clashB n dev a b x=r at *;generalize Tl x.addr x.bits a=p1 at *;generalize Tl a b x.addr=p2 at *;cases h1:(x.addr==a) with
 |true=>
  rw[h1,vG]at hc;subst hc;exact gA
 |false=>
  rw[h1,vY]at hc;cases h2:((n.vrfs[x.vrf.toNat]'hv0).dev != dev) with
  |false=>
   rw[h2,yC]at hc;subst hc;exact gA
  |true=>
   rw[h2,yD]at hc;cases p1 with
   |true=>
    rw[vG]at hc;subst hc;refine gC q1 F315 ?_;exact D
   |false=>
    rw[vY]at hc;subst hc;refine gB q1 F315 q2 F315 ?_;exact D
def irbC(n:Net)(x:Irb)(hv:0<=x.vrf/\x.vrf.toNat<n.vrfs.length)(hb:0<=x.bits/\x.bits<=32)(hx:0<=x.addr/\x.addr<4294967296)(dev:Int)(l:LineM)(ha:0<=l.addr/\l.addr<4294967296)(dx:0<=l.bits/\l.bits<=32):Sp 356 [Cr x,.ref 8 (Am n) 0,.ref 1 (Aa dev) 0,.ref 17 (A3 l) 0] (Ab (clashB n dev l.addr l.bits x)):=cT F356 ntmps356 λF hF=>by
 have q:=clashS n x hv hb hx dev l.addr l.bits ha dx;generalize clashB n dev l.addr l.bits x=r at *;refine gC q F357 ?_;exact D
def Apb{n:Net}{l:LineM}{k:Int}(h:fitsB n l k=true):l.kind=k/\Cn l=true/\Ac n=true:=by
 unfold fitsB at h;simp only[zG,yJ]at h;exact⟨h.1,h.2.1,h.2.2⟩
def Anh{l:LineM}(h:Cn l=true)(hk:l.kind=9):0<=l.bits/\l.bits<=32:=by
 rw[Cn,zG]at h;have:=h.1;simp[Bn,hk]at this;have:=Ux this.2.2;omega
def A15(n:Net)(hn:n.Fin)(ha:C7 n)(l:LineM)(hl:LineW l):Sp 282 [Am n,A3 l] (.tup [Am (putIrb n l).1,Aa (putIrb n l).2]):=cT F282 ntmps282 λF hF=>by
 have ar:=@beg_ok n l 9;have aa:=putIrb.eq_1 n l;have q1:=lY n hn l hl 9;have de:=Qz n hn;generalize putIrb n l=res at *;generalize begT n l 9=b at *;obtain ⟨d,e⟩:=b;dsimp only at aa ar q1;by_cases h1:e≠0
 .have g1:(e != 0)=true:=by rw[xC];exact h1
  rw[zE h1]at aa;subst aa;refine gC q1 F354 ?_;exact Ak 4 (C8 emptyN) E vL gA
 have g1:(e != 0)=false:=by rw[bne_eq_false_iff_eq];omega
 rw[zD h1]at aa;obtain ⟨np,hr,i,hi,ab⟩:=ar z_;subst hi;clear ar;have aq:(i:Int).toNat<n.devices.length:=ab;have eu:nth n.devices (i:Int)=n.devices[(i:Int).toNat]'aq:=Ag aq;clear eu;obtain ⟨hk9,tu,_⟩:=Apb np;have yl:=Anh tu hk9;have q2:=Ad2 n hn hr (i:Int) l.name;have q3:=Lp n hn hr (i:Int) l.vlan;have po:∀x∈n.irbs,(0<=x.vrf/\x.vrf.toNat<n.vrfs.length)/\(0<=x.bits/\x.bits<=32):=λx hx=>by
  obtain ⟨j,hj,rfl⟩:=wU hx;have:=Azs hr hj;simp only[Aao,Af,zG,zJ]at this;omega
 have qc:=K5 n.irbs (clashB n (i:Int) l.addr l.bits) 356 [] [.ref 8 (Am n) 0,.ref 1 (Aa (i:Int)) 0,.ref 17 (A3 l) 0] rfl (λx hx=>⟨⟨_,_,F356⟩,irbC n x (po x hx).1 (po x hx).2 (ha x hx) (i:Int) l hl.ok.addr yl⟩) hn.irbs;rw[Iz]at qc;have es:Da n (i:Int) l.vlan<0\/∃k:Nat,Da n (i:Int) l.vlan=k/\k<n.domains.length:=by
  by_cases h:Da n (i:Int) l.vlan<0
  .exact .inl h
  .exact .inr (Kf h)
 generalize fS n (i:Int) l.name=v2 at *;generalize Da n (i:Int) l.vlan=dm at *;generalize n.irbs.any (clashB n (i:Int) l.addr l.bits)=cl at *;by_cases h2:v2<0
 .have g2:decide (v2<0)=true:=zK h2;rw[zE h2]at aa;subst aa;refine gB q1 F354 q2 F355 ?_;refine C q3 F181 ?_;exact Ak 4 (C8 emptyN) E vL gA
 have g2:decide (v2<0)=false:=zL h2;rw[zD h2]at aa;by_cases h3:dm<0
 .have g3:decide (dm<0)=true:=zK h3;rw[zE h3]at aa;subst aa;refine gB q1 F354 q2 F355 ?_;refine C q3 F181 ?_;exact Ak 4 (C8 emptyN) E vL gA
 have g3:decide (dm<0)=false:=zL h3;rw[zD h3]at aa;obtain ⟨k,hk,lc⟩:=es.resolve_left h3;subst hk;clear es;have bc:(k:Int).toNat<n.domains.length:=lc;have wk:nth n.domains (k:Int)=n.domains[(k:Int).toNat]'bc:=Ag bc;rw[wk]at aa;by_cases h4:0<=(n.domains[(k:Int).toNat]'bc).irb
 .have g4:decide ((n.domains[(k:Int).toNat]'bc).irb>=0)=true:=zK h4;rw[zE (.inl h4)]at aa;subst aa;refine gB q1 F354 q2 F355 ?_;refine C q3 F181 ?_;exact Ak 4 (C8 emptyN) E vL gA
 have g4:decide ((n.domains[(k:Int).toNat]'bc).irb>=0)=false:=zL h4;cases cl with
 |true=>
  rw[zE (.inr rfl)]at aa;subst aa;refine gB q1 F354 q2 F355 ?_;refine C q3 F181 ?_;refine Ba 2 8 (Am n) E E E (Ba 3 17 (A3 l) E E E ?_);refine Ba 6 1 (Aa (i:Int)) E E E (C qc F333 ?_);exact Ak 4 (C8 emptyN) E vL gA
 |false=>
  rw[zD (λh=>h.elim h4 qq)]at aa;subst aa;have ag:n.domains≠[]:=λe=>by rw[e]at lc;cases lc
  have im:n.irbs.length<2147483648:=hn.irbs;refine gB q1 F354 q2 F355 ?_;refine C q3 F181 ?_;refine Ba 2 8 (Am n) E E E (Ba 3 17 (A3 l) E E E ?_);refine Ba 6 1 (Aa (i:Int)) E E E (C qc F333 ?_);refine X (Ad [(0,901),(1,902),(2,903),(3,904),(4,905),(5,906),(6,907),(7,908)] E F102 de E W E V) ?_;refine⟨ag,?_⟩;refine T ?_;refine⟨(⟨(n.domains[(k:Int).toNat]'bc).dev,(n.domains[(k:Int).toNat]'bc).vlan,(n.domains[(k:Int).toNat]'bc).vni,(n.irbs.length:Int),(n.domains[(k:Int).toNat]'bc).row,(n.domains[(k:Int).toNat]'bc).peers⟩:Domain),E,E,?_⟩;refine T ?_;refine X (Ah Γ.toTy 77 E E E E E (.row E) (.lit (e:=Cr) (l:=[(⟨l.row,(k:Int),v2,l.addr,l.bits⟩:Irb)]) E E) y_ (by simp only[yF];omega) (by simp only[yF];omega)) ?_;exact Aj 901 E (Aj 902 E (Aj 903 E (Aj 904 E (Aj 905 E (Aj 906 E (Aj 907 E (Aj 77 E D)))))))
end Go.Sy.Zaa
