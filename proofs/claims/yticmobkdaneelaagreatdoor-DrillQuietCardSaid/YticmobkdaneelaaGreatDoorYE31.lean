/- Parts of a proof. -/
import Derived.Test.YticmobkdaneelaaGreatDoorYE28
set_option linter.all false
set_option linter.unusedVariables false
set_option linter.unusedSimpArgs false
set_option linter.deprecated false
namespace Go.Sy.YticmobkdaneelaaGreatDoor
open Go.Proofs Go.Proofs.Tryz
attribute [local irreducible] Go.Sy.G Go.Sy.DR
set_option maxRecDepth 100000
set_option maxHeartbeats 4000000
def Aa0{a b x:Int}(hb:0≤b∧b≤32)(ha:0≤a∧a<4294967296)(hx:0≤x∧x<4294967296):Ahq a b x=Ss a b x:=by
 obtain ⟨y,rfl⟩:=xB ha.1;obtain ⟨z,rfl⟩:=xB hx.1;obtain ⟨k,hk,dg⟩:∃k:Nat,(32-b).toNat=k∧k≤32:=⟨_,rfl,by omega⟩
 have hq:0<2^k:=Nat.two_pow_pos k;rw[Ahq,Ain b hb,hk,A2e y z k q_ q_ dg,Ss,zO hb.1,zO hb.2,yF,yF,K8 y k b hb hk,K8 z k b hb hk];generalize 2^k=q at *;have h1:=vX y q;have h2:=vX z q;have e1:y-y%q=q*(y/q):=by omega
 have e2:z-z%q=q*(z/q):=by omega
 rw[e1,e2,wN,zJ,yJ];constructor
 ·intro h;rw[h]
 ·intro h;exact Nat.eq_of_mul_eq_mul_left hq (by exact_mod_cast h)
def clashS(n:Net)(x:Irb)(hv:0≤x.vrf∧x.vrf.toNat<n.vrfs.length)(hb:0≤x.bits∧x.bits≤32)(hx:0≤x.addr∧x.addr<4294967296)(dev a b:Int)(ha:0≤a∧a<4294967296)(du:0≤b∧b≤32):Sp 269 [Am n,B4 x,Aa dev,Au8 a b] (Ab (clashB n dev a b x)):=cT F269 ntmps269 λF hF=>by
 have q1:=Ag2 x.addr x.bits a hb;have q2:=Ag2 a b x.addr du;rw[Aa0 hb hx ha]at q1;rw[Aa0 du ha hx]at q2;have hc:=clashB.eq_1 n dev a b x;have y8:=hv.2;rw[Ai y8]at hc;generalize clashB n dev a b x=r at *;generalize Ss x.addr x.bits a=p1 at *;generalize Ss a b x.addr=p2 at *;cases h1:(x.addr==a) with
 |true=>
  rw[h1,vD]at hc;subst hc;exact gA
 |false=>
  rw[h1,uH]at hc;cases h2:((n.vrfs[x.vrf.toNat]'y8).dev != dev) with
  |false=>
   rw[h2,yE]at hc;subst hc;exact gA
  |true=>
   rw[h2,yF]at hc;cases p1 with
   |true=>
    rw[vD]at hc;subst hc;refine gD q1 F337 ?_;exact D
   |false=>
    rw[uH]at hc;subst hc;refine gB q1 F337 q2 F337 ?_;exact D
def irbC(n:Net)(x:Irb)(hv:0≤x.vrf∧x.vrf.toNat<n.vrfs.length)(hb:0≤x.bits∧x.bits≤32)(hx:0≤x.addr∧x.addr<4294967296)(dev:Int)(l:LineM)(ha:0≤l.addr∧l.addr<4294967296)(du:0≤l.bits∧l.bits≤32):Sp 268 [B4 x,.ref 8 (Am n) 0,.ref 1 (Aa dev) 0,.ref 17 (A3 l) 0] (Ab (clashB n dev l.addr l.bits x)):=cT F268 ntmps268 λF hF=>by
 have q:=clashS n x hv hb hx dev l.addr l.bits ha du;generalize clashB n dev l.addr l.bits x=r at *;refine gD q F269 ?_;exact D
def Atr{n:Net}{l:LineM}{k:Int}(h:fitsB n l k=true):l.kind=k∧Cj l=true∧Ac n=true:=by
 unfold fitsB at h;simp only[zE,yJ]at h;exact⟨h.1,h.2.1,h.2.2⟩
def Ar1{l:LineM}(h:Cj l=true)(hk:l.kind=9):0≤l.bits∧l.bits≤32:=by
 rw[Cj,zE]at h;have:=h.1;simp[Bm,hk]at this;have:=T7 this.2.2;omega
def A5w(n:Net)(hn:n.Fin)(ha:Dr n)(l:LineM)(hl:LineW l):Sp 190 [Am n,A3 l] (.tup [Am (putIrb n l).1,Aa (putIrb n l).2]):=cT F190 ntmps190 λF hF=>by
 have ar:=@beg_ok n l 9;have aa:=putIrb.eq_1 n l;have q1:=Aea n hn l hl 9;have db:=Te n hn;generalize putIrb n l=res at *;generalize begT n l 9=b at *;obtain ⟨d,e⟩:=b;dsimp only at aa ar q1;by_cases h1:e≠0
 ·have g1:(e != 0)=true:=by rw[xG];exact h1
  rw[zG h1]at aa;subst aa;refine gD q1 F266 ?_;refine Ak 4 (C6 emptyN) E vL ?_;exact gA
 have g1:(e != 0)=false:=by rw[bne_eq_false_iff_eq];omega
 rw[zD h1]at aa;obtain ⟨m8,hr,i,hi,ab⟩:=ar q_;subst hi;clear ar;have aq:(i:Int).toNat<n.devices.length:=ab;have ep:nth n.devices (i:Int)=n.devices[(i:Int).toNat]'aq:=Ai aq;clear ep;obtain ⟨hk9,vv,_⟩:=Atr m8;have xz:=Ar1 vv hk9;have q2:=Ait n hn hr (i:Int) l.name;have q3:=Lg n hn hr (i:Int) l.vlan;have x3:∀x∈n.irbs,(0≤x.vrf∧x.vrf.toNat<n.vrfs.length)∧(0≤x.bits∧x.bits≤32):=λx hx=>by
  obtain ⟨j,hj,rfl⟩:=wD hx;have:=A3p hr hj;simp only[Afu,Ah,zE,zJ]at this;omega
 have qc:=Ks n.irbs (clashB n (i:Int) l.addr l.bits) 268 [] [.ref 8 (Am n) 0,.ref 1 (Aa (i:Int)) 0,.ref 17 (A3 l) 0] rfl (λx hx=>⟨⟨_,_,F268⟩,irbC n x (x3 x hx).1 (x3 x hx).2 (ha x hx) (i:Int) l hl.ok.addr xz⟩) hn.irbs;rw[Kl]at qc;have fy:C2 n (i:Int) l.vlan<0∨∃k:Nat,C2 n (i:Int) l.vlan=k∧k<n.domains.length:=by
  by_cases h:C2 n (i:Int) l.vlan<0
  ·exact .inl h
  ·exact .inr (K6 h)
 generalize Adc n (i:Int) l.name=v2 at *;generalize C2 n (i:Int) l.vlan=dm at *;generalize n.irbs.any (clashB n (i:Int) l.addr l.bits)=cl at *;by_cases h2:v2<0
 ·have g2:decide (v2<0)=true:=zO h2;rw[zG h2]at aa;subst aa;refine gB q1 F266 q2 F267 ?_;refine C q3 F102 ?_;refine Ak 4 (C6 emptyN) E vL ?_;exact gA
 have g2:decide (v2<0)=false:=zL h2;rw[zD h2]at aa;by_cases h3:dm<0
 ·have g3:decide (dm<0)=true:=zO h3;rw[zG h3]at aa;subst aa;refine gB q1 F266 q2 F267 ?_;refine C q3 F102 ?_;refine Ak 4 (C6 emptyN) E vL ?_;exact gA
 have g3:decide (dm<0)=false:=zL h3;rw[zD h3]at aa;obtain ⟨k,hk,s7⟩:=fy.resolve_left h3;subst hk;clear fy;have bj:(k:Int).toNat<n.domains.length:=s7;have u9:nth n.domains (k:Int)=n.domains[(k:Int).toNat]'bj:=Ai bj;rw[u9]at aa;by_cases h4:0≤(n.domains[(k:Int).toNat]'bj).irb
 ·have g4:decide ((n.domains[(k:Int).toNat]'bj).irb≥0)=true:=zO h4;rw[zG (.inl h4)]at aa;subst aa;refine gB q1 F266 q2 F267 ?_;refine C q3 F102 ?_;refine Ak 4 (C6 emptyN) E vL ?_;exact gA
 have g4:decide ((n.domains[(k:Int).toNat]'bj).irb≥0)=false:=zL h4;cases cl with
 |true=>
  rw[zG (.inr rfl)]at aa;subst aa;refine gB q1 F266 q2 F267 ?_;refine C q3 F102 ?_;refine Bf 2 8 (Am n) E E E ?_;refine Bf 3 17 (A3 l) E E E ?_;refine Bf 6 1 (Aa (i:Int)) E E E ?_;refine C qc F240 ?_;refine Ak 4 (C6 emptyN) E vL ?_;exact gA
 |false=>
  rw[zD (λh=>h.elim h4 y_)]at aa;subst aa;have ag:n.domains≠[]:=λe=>by rw[e]at s7;cases s7
  have il:n.irbs.length<2147483648:=hn.irbs;refine gB q1 F266 q2 F267 ?_;refine C q3 F102 ?_;refine Bf 2 8 (Am n) E E E ?_;refine Bf 3 17 (A3 l) E E E ?_;refine Bf 6 1 (Aa (i:Int)) E E E ?_;refine C qc F240 ?_;refine X (Ad [(0,901),(1,902),(2,903),(3,904),(4,905),(5,906),(6,907),(7,908)] E F30 db E W E V) ?_;refine⟨ag,?_⟩;refine T ?_;refine⟨(⟨(n.domains[(k:Int).toNat]'bj).dev,(n.domains[(k:Int).toNat]'bj).vlan,(n.domains[(k:Int).toNat]'bj).vni,(n.irbs.length:Int),(n.domains[(k:Int).toNat]'bj).row,(n.domains[(k:Int).toNat]'bj).peers⟩:Domain),E,E,?_⟩;refine T ?_;refine X (Ag Γ.toTy 77 E E E E E (.row E) (.lit (e:=B4) (l:=[(⟨l.row,(k:Int),v2,l.addr,l.bits⟩:Irb)]) E E) j_ (by simp only[yC];omega) (by simp only[yC];omega)) ?_;refine Aj 901 E ?_;refine Aj 902 E ?_;refine Aj 903 E ?_;refine Aj 904 E ?_;refine Aj 905 E ?_;refine Aj 906 E ?_;refine Aj 907 E ?_;refine Aj 77 E ?_;exact D
end Go.Sy.YticmobkdaneelaaGreatDoor
