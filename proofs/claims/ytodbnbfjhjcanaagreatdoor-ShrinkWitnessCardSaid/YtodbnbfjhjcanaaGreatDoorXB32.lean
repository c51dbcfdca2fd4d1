/- Parts of a proof. -/
import Derived.Test.YtodbnbfjhjcanaaGreatDoorXB31
set_option maxHeartbeats 4000000
set_option linter.all false
namespace Go.Sy.Zaa
open Go.Proofs Go.Proofs.Tryz
attribute [local irreducible]G DR
set_option maxRecDepth 100000
def fD{a b x:Int}(hb:0<=b/\b<=32)(ha:0<=a/\a<4294967296)(hx:0<=x/\x<4294967296):Ae1 a b x=Uc a b x:=by
 obtain ⟨y,rfl⟩:=xO ha.1;obtain ⟨z,rfl⟩:=xO hx.1;obtain ⟨k,hk,cx⟩:∃k:Nat,(32-b).toNat=k/\k<=32:=⟨_,rfl,by omega⟩
 have hq:0<2^k:=Nat.two_pow_pos k;rw[Ae1,Aft b hb,hk,A1b y z k q_ q_ cx,Uc,zL hb.1,zL hb.2,yG,yG,L0 y k b hb hk,L0 z k b hb hk];generalize 2^k=q at *;have h1:=uM y q;have h2:=uM z q;have e1:y-y%q=q*(y/q):=by omega
 have e2:z-z%q=q*(z/q):=by omega
 rw[e1,e2,wP,zJ,yJ];constructor
 .intro h;rw[h]
 .intro h;exact Nat.eq_of_mul_eq_mul_left hq (by exact_mod_cast h)
def clashS(n:Net)(x:Irb)(hv:0<=x.vrf/\x.vrf.toNat<n.vrfs.length)(hb:0<=x.bits/\x.bits<=32)(hx:0<=x.addr/\x.addr<4294967296)(dev a b:Int)(ha:0<=a/\a<4294967296)(dy:0<=b/\b<=32):Sp 357 [Am n,Cq x,Aa dev,Atg a b] (Ab (clashB n dev a b x)):=cT F357 ntmps357 λF hF=>by
 have q1:=Aea x.addr x.bits a hb;have q2:=Aea a b x.addr dy;rw[fD hb hx ha]at q1;rw[fD dy ha hx]at q2;have hc:=clashB.eq_1 n dev a b x;have hv0:=hv.2;rw[Ae hv0]at hc;generalize clashB n dev a b x=r at *;generalize Uc x.addr x.bits a=p1 at *;generalize Uc a b x.addr=p2 at *;cases h1:(x.addr==a) with
 |true=>
  rw[h1,vN]at hc;subst hc;exact gA
 |false=>
  rw[h1,vQ]at hc;cases h2:((n.vrfs[x.vrf.toNat]'hv0).dev != dev) with
  |false=>
   rw[h2,yF]at hc;subst hc;exact gA
  |true=>
   rw[h2,yG]at hc;cases p1 with
   |true=>
    rw[vN]at hc;subst hc;refine gC q1 F315 ?_;exact D
   |false=>
    rw[vQ]at hc;subst hc;refine gB q1 F315 q2 F315 ?_;exact D
def irbC(n:Net)(x:Irb)(hv:0<=x.vrf/\x.vrf.toNat<n.vrfs.length)(hb:0<=x.bits/\x.bits<=32)(hx:0<=x.addr/\x.addr<4294967296)(dev:Int)(l:LineM)(ha:0<=l.addr/\l.addr<4294967296)(dy:0<=l.bits/\l.bits<=32):Sp 356 [Cq x,.ref 8 (Am n) 0,.ref 1 (Aa dev) 0,.ref 17 (A5 l) 0] (Ab (clashB n dev l.addr l.bits x)):=cT F356 ntmps356 λF hF=>by
 have q:=clashS n x hv hb hx dev l.addr l.bits ha dy;generalize clashB n dev l.addr l.bits x=r at *;refine gC q F357 ?_;exact D
def Arw{n:Net}{l:LineM}{k:Int}(h:fitsB n l k=true):l.kind=k/\D6 l=true/\Ac n=true:=by
 unfold fitsB at h;simp only[zG,yJ]at h;exact⟨h.1,h.2.1,h.2.2⟩
def Ap1{l:LineM}(h:D6 l=true)(hk:l.kind=9):0<=l.bits/\l.bits<=32:=by
 rw[D6,zG]at h;have:=h.1;simp[By,hk]at this;have:=Vo this.2.2;omega
def A43(n:Net)(hn:n.Fin)(ha:C7 n)(l:LineM)(hl:LineW l):Sp 282 [Am n,A5 l] (.tup [Am (putIrb n l).1,Aa (putIrb n l).2]):=cT F282 ntmps282 λF hF=>by
 have aq:=@beg_ok n l 9;have aa:=putIrb.eq_1 n l;have q1:=Aas n hn l hl 9;have dh:=Ss n hn;generalize putIrb n l=res at *;generalize begT n l 9=b at *;obtain ⟨d,e⟩:=b;dsimp only at aa aq q1;by_cases h1:e≠0
 .have g1:(e != 0)=true:=by rw[xC];exact h1
  rw[zE h1]at aa;subst aa;refine gC q1 F354 ?_;exact Ak 4 (Dc emptyN) E vL gA
 have g1:(e != 0)=false:=by rw[bne_eq_false_iff_eq];omega
 rw[zD h1]at aa;obtain ⟨o9,hr,i,hi,ab⟩:=aq q_;subst hi;clear aq;have an:(i:Int).toNat<n.devices.length:=ab;have fu:nth n.devices (i:Int)=n.devices[(i:Int).toNat]'an:=Ae an;clear fu;obtain ⟨hk9,v7,_⟩:=Arw o9;have z6:=Ap1 v7 hk9;have q2:=Af2 n hn hr (i:Int) l.name;have q3:=L6 n hn hr (i:Int) l.vlan;have r6:∀x∈n.irbs,(0<=x.vrf/\x.vrf.toNat<n.vrfs.length)/\(0<=x.bits/\x.bits<=32):=λx hx=>by
  obtain ⟨j,hj,rfl⟩:=wN hx;have:=A2q hr hj;simp only[Aco,Ag,zG,zJ]at this;omega
 have qc:=Lm n.irbs (clashB n (i:Int) l.addr l.bits) 356 [] [.ref 8 (Am n) 0,.ref 1 (Aa (i:Int)) 0,.ref 17 (A5 l) 0] rfl (λx hx=>⟨⟨_,_,F356⟩,irbC n x (r6 x hx).1 (r6 x hx).2 (ha x hx) (i:Int) l hl.ok.addr z6⟩) hn.irbs;rw[I8]at qc;have fh:C8 n (i:Int) l.vlan<0\/∃k:Nat,C8 n (i:Int) l.vlan=k/\k<n.domains.length:=by
  by_cases h:C8 n (i:Int) l.vlan<0
  .exact .inl h
  .exact .inr (Kq h)
 generalize oM n (i:Int) l.name=v2 at *;generalize C8 n (i:Int) l.vlan=dm at *;generalize n.irbs.any (clashB n (i:Int) l.addr l.bits)=cl at *;by_cases h2:v2<0
 .have g2:decide (v2<0)=true:=zL h2;rw[zE h2]at aa;subst aa;refine gB q1 F354 q2 F355 ?_;refine C q3 F181 ?_;exact Ak 4 (Dc emptyN) E vL gA
 have g2:decide (v2<0)=false:=zK h2;rw[zD h2]at aa;by_cases h3:dm<0
 .have g3:decide (dm<0)=true:=zL h3;rw[zE h3]at aa;subst aa;refine gB q1 F354 q2 F355 ?_;refine C q3 F181 ?_;exact Ak 4 (Dc emptyN) E vL gA
 have g3:decide (dm<0)=false:=zK h3;rw[zD h3]at aa;obtain ⟨k,hk,p7⟩:=fh.resolve_left h3;subst hk;clear fh;have bf:(k:Int).toNat<n.domains.length:=p7;have xo:nth n.domains (k:Int)=n.domains[(k:Int).toNat]'bf:=Ae bf;rw[xo]at aa;by_cases h4:0<=(n.domains[(k:Int).toNat]'bf).irb
 .have g4:decide ((n.domains[(k:Int).toNat]'bf).irb>=0)=true:=zL h4;rw[zE (.inl h4)]at aa;subst aa;refine gB q1 F354 q2 F355 ?_;refine C q3 F181 ?_;exact Ak 4 (Dc emptyN) E vL gA
 have g4:decide ((n.domains[(k:Int).toNat]'bf).irb>=0)=false:=zK h4;cases cl with
 |true=>
  rw[zE (.inr rfl)]at aa;subst aa;refine gB q1 F354 q2 F355 ?_;refine C q3 F181 ?_;refine Bf 2 8 (Am n) E E E (Bf 3 17 (A5 l) E E E ?_);refine Bf 6 1 (Aa (i:Int)) E E E (C qc F333 ?_);exact Ak 4 (Dc emptyN) E vL gA
 |false=>
  rw[zD (λh=>h.elim h4 y_)]at aa;subst aa;have af:n.domains≠[]:=λe=>by rw[e]at p7;cases p7
  have jl:n.irbs.length<2147483648:=hn.irbs;refine gB q1 F354 q2 F355 ?_;refine C q3 F181 ?_;refine Bf 2 8 (Am n) E E E (Bf 3 17 (A5 l) E E E ?_);refine Bf 6 1 (Aa (i:Int)) E E E (C qc F333 ?_);refine X (Ad [(0,901),(1,902),(2,903),(3,904),(4,905),(5,906),(6,907),(7,908)] E F102 dh E W E V) ?_;refine⟨af,?_⟩;refine T ?_;refine⟨(⟨(n.domains[(k:Int).toNat]'bf).dev,(n.domains[(k:Int).toNat]'bf).vlan,(n.domains[(k:Int).toNat]'bf).vni,(n.irbs.length:Int),(n.domains[(k:Int).toNat]'bf).row,(n.domains[(k:Int).toNat]'bf).peers⟩:Domain),E,E,?_⟩;refine T ?_;refine X (Ah Γ.toTy 77 E E E E E (.row E) (.lit (e:=Cq) (l:=[(⟨l.row,(k:Int),v2,l.addr,l.bits⟩:Irb)]) E E) j_ (by simp only[zW];omega) (by simp only[zW];omega)) ?_;exact Ai 901 E (Ai 902 E (Ai 903 E (Ai 904 E (Ai 905 E (Ai 906 E (Ai 907 E (Ai 77 E D)))))))
end Go.Sy.Zaa
