/- Parts of a proof. -/
import Derived.Test.YtodbnbfjhjcanaaGreatDoorXB18
set_option maxHeartbeats 4000000
set_option linter.all false
namespace Go.Sy.Zaa
open Go.Proofs Go.Proofs.Tryz
attribute [local irreducible]G DR
set_option maxRecDepth 100000
def cN:=iA Bc 4 F392 ntmps392
def A0y(dom m:Int)(s:Static):Sp 393 [Bc s,.ref 1 (Aa dom) 0,.ref 1 (Bl m) 0] (Ab (s.domain==dom&&s.mac==m)):=cT F393 ntmps393 λF hF=>by
 cases h:(s.domain==dom)
 .exact gA
 .exact gA
def A0x(n:Net)(hn:n.Fin)(dom m:Int):Sp 351 [Am n,Aa dom,Bl m] (Aa (Ajb n dom m)):=cT F351 ntmps351 λF hF=>by
 have q:=cN n.statics (λs:Static=>s.domain==dom&&s.mac==m) 393 [] [.ref 1 (Aa dom) 0,.ref 1 (Bl m) 0] rfl (λx _=>⟨⟨_,_,F393⟩,A0y dom m x⟩) hn.statics;refine fW ?_;exact Bf 4 1 (Aa dom) E E E (Bf 5 1 (Bl m) E E E (c0 q F392 gD))
def Apk(n:Net)(hn:n.Fin)(l:LineM)(hl:LineW l):Sp 277 [Am n,A5 l] (.tup [Am (putStatic n l).1,Aa (putStatic n l).2]):=cT F277 ntmps277 λF hF=>by
 have qr:=Lt l hl;have qn:=A2 n hn;have dh:=Ss n hn;have aa:=putStatic.eq_1 n l;dsimp only at aa;have hf:=fitsB.eq_1 n l 4;generalize putStatic n l=res at *;generalize fitsB n l 4=f at *;cases h1:(l.kind==4) with
 |false=>
  have g1:(l.kind != 4)=true:=by rw[bne,h1];rfl
  rw[h1,yF]at hf;rw[hf,zE rfl]at aa;subst aa;refine T ?_;exact Ak 4 (Dc emptyN) E vL gA
 |true=>
 have g1:(l.kind != 4)=false:=by rw[bne,h1];rfl
 rw[h1,yG]at hf;cases h2:D6 l with
 |false=>
  rw[h2]at qr hf;rw[hf,yF,zE rfl]at aa;subst aa;refine gC qr F349 ?_;exact Ak 4 (Dc emptyN) E vL gA
 |true=>
 rw[h2]at qr hf;cases hr:Ac n with
 |false=>
  rw[hr]at qn hf;rw[hf,wR,zE rfl]at aa;subst aa;refine gB qr F349 qn F39 ?_;exact Ak 4 (Dc emptyN) E vL gA
 |true=>
 rw[hr]at qn hf;rw[hf,zD y_]at aa;have q1:=Je n hn hr l.dev;have q2:=Uh n hn hr (Ci n l.dev) l.port;have q3:=L6 n hn hr (Ci n l.dev) l.vlan;have q5:=A0x n hn (C8 n (Ci n l.dev) l.vlan) l.mac;have sw:Sg n (Ci n l.dev) l.port<0\/∃k:Nat,Sg n (Ci n l.dev) l.port=k/\k<n.ports.length:=by
  by_cases h:Sg n (Ci n l.dev) l.port<0
  .exact .inl h
  .exact .inr (Kq h)
 have jl:n.statics.length<2147483648:=hn.statics;generalize Sg n (Ci n l.dev) l.port=pt at *;generalize C8 n (Ci n l.dev) l.vlan=dm at *;generalize Ci n l.dev=dv at *;generalize Ajb n dm l.mac=en at *;by_cases h3:dv<0
 .have g3:decide (dv<0)=true:=zL h3;rw[zE (.inl h3)]at aa;subst aa;refine gB qr F349 qn F39 ?_;refine gK q1 F96 q2 F95 ?_;refine C q3 F181 ?_;exact Ak 4 (Dc emptyN) E vL gA
 have g3:decide (dv<0)=false:=zK h3;by_cases h4:pt<0
 .have g4:decide (pt<0)=true:=zL h4;rw[zE (.inr h4)]at aa;subst aa;refine gB qr F349 qn F39 ?_;refine gK q1 F96 q2 F95 ?_;refine C q3 F181 ?_;exact Ak 4 (Dc emptyN) E vL gA
 have g4:decide (pt<0)=false:=zK h4;rw[zD (λh=>h.elim h3 h4)]at aa;obtain ⟨p,hp,ay⟩:=sw.resolve_left h4;subst hp;clear sw;have eo:(p:Int).toNat<n.ports.length:=ay;have hnp:nth n.ports (p:Int)=n.ports[(p:Int).toNat]'eo:=Ae eo;rw[hnp]at aa;by_cases h5:dm<0
 .have g5:decide (dm<0)=true:=zL h5;rw[zE (.inl h5)]at aa;subst aa;refine gB qr F349 qn F39 ?_;refine gK q1 F96 q2 F95 ?_;refine C q3 F181 ?_;exact Ak 4 (Dc emptyN) E vL gA
 have g5:decide (dm<0)=false:=zK h5;have q4:=cE (n.ports[(p:Int).toNat]'eo) l.vlan (hn.tagged _ (zI eo));cases hb:Cy (n.ports[(p:Int).toNat]'eo) l.vlan with
 |false=>
  rw[hb]at q4;rw[zE (.inr hb)]at aa;subst aa;refine gB qr F349 qn F39 ?_;refine gK q1 F96 q2 F95 ?_;refine gK q3 F181 q4 F150 ?_;exact Ak 4 (Dc emptyN) E vL gA
 |true=>
 rw[hb]at q4;rw[zD (λh=>h.elim h5 (by rw[hb];simp))]at aa;by_cases h6:0<=en
 .have g6:decide (en>=0)=true:=zL h6;rw[zE h6]at aa;subst aa;refine gB qr F349 qn F39 ?_;refine gK q1 F96 q2 F95 ?_;refine gK q3 F181 q4 F150 ?_;refine C q5 F351 ?_;exact Ak 4 (Dc emptyN) E vL gA
 have g6:decide (en>=0)=false:=zK h6;rw[zD h6]at aa;by_cases h7:n.statics.length=64
 .have g7:((n.statics.length:Int)==64)=true:=by rw[yJ];omega
  rw[zE h7]at aa;subst aa;refine gB qr F349 qn F39 ?_;refine gK q1 F96 q2 F95 ?_;refine gK q3 F181 q4 F150 ?_;refine C q5 F351 ?_;exact Ak 4 (Dc emptyN) E vL gA
 have g7:((n.statics.length:Int)==64)=false:=by rw[zU];omega
 rw[zD h7]at aa;subst aa;refine gB qr F349 qn F39 ?_;refine gK q1 F96 q2 F95 ?_;refine gK q3 F181 q4 F150 ?_;refine C q5 F351 ?_;refine X (Ad [(0,901),(1,902),(2,903),(3,904),(4,905),(5,906),(6,907),(7,908)] E F102 dh E W E V) ?_;refine X (Ah Γ.toTy 87 E E E E E (.row E) (.lit (e:=Bc) (l:=[(⟨l.row,dm,(p:Int),l.mac⟩:Static)]) E E) j_ (by simp only[zW];omega) (by simp only[zW];omega)) ?_;exact Ai 901 E (Ai 902 E (Ai 903 E (Ai 904 E (Ai 87 E (Ai 906 E (Ai 907 E (Ai 908 E D)))))))
end Go.Sy.Zaa
