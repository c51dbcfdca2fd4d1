/- Parts of a proof. -/
import Derived.Test.YtodbnbfjhjcanaaGreatDoorXA18
set_option maxHeartbeats 4000000
set_option linter.all false
namespace Go.Sy.Zaa
open Go.Proofs Go.Proofs.Tryz
attribute [local irreducible]G DR
set_option maxRecDepth 100000
def aN:=iA Bb 4 F392 ntmps392
def Ax2(dom m:Int)(s:Static):Sp 393 [Bb s,.ref 1 (Aa dom) 0,.ref 1 (Bi m) 0] (Ab (s.domain==dom&&s.mac==m)):=cT F393 ntmps393 λF hF=>by
 cases h:(s.domain==dom)
 .exact gA
 .exact gA
def Ax1(n:Net)(hn:n.Fin)(dom m:Int):Sp 351 [Am n,Aa dom,Bi m] (Aa (Ag4 n dom m)):=cT F351 ntmps351 λF hF=>by
 have q:=aN n.statics (λs:Static=>s.domain==dom&&s.mac==m) 393 [] [.ref 1 (Aa dom) 0,.ref 1 (Bi m) 0] rfl (λx _=>⟨⟨_,_,F393⟩,Ax2 dom m x⟩) hn.statics;refine fW ?_;exact Ba 4 1 (Aa dom) E E E (Ba 5 1 (Bi m) E E E (c0 q F392 gD))
def Am2(n:Net)(hn:n.Fin)(l:LineM)(hl:LineW l):Sp 277 [Am n,A3 l] (.tup [Am (putStatic n l).1,Aa (putStatic n l).2]):=cT F277 ntmps277 λF hF=>by
 have qr:=La l hl;have qn:=A0 n hn;have de:=Qz n hn;have aa:=putStatic.eq_1 n l;dsimp only at aa;have hf:=fitsB.eq_1 n l 4;generalize putStatic n l=res at *;generalize fitsB n l 4=f at *;cases h1:(l.kind==4) with
 |false=>
  have g1:(l.kind != 4)=true:=by rw[bne,h1];rfl
  rw[h1,yC]at hf;rw[hf,zE rfl]at aa;subst aa;refine T ?_;exact Ak 4 (C8 emptyN) E vL gA
 |true=>
 have g1:(l.kind != 4)=false:=by rw[bne,h1];rfl
 rw[h1,yD]at hf;cases h2:Cn l with
 |false=>
  rw[h2]at qr hf;rw[hf,yC,zE rfl]at aa;subst aa;refine gC qr F349 ?_;exact Ak 4 (C8 emptyN) E vL gA
 |true=>
 rw[h2]at qr hf;cases hr:Ac n with
 |false=>
  rw[hr]at qn hf;rw[hf,wS,zE rfl]at aa;subst aa;refine gB qr F349 qn F39 ?_;exact Ak 4 (C8 emptyN) E vL gA
 |true=>
 rw[hr]at qn hf;rw[hf,zD qq]at aa;have q1:=I5 n hn hr l.dev;have q2:=Tp n hn hr (Cf n l.dev) l.port;have q3:=Lp n hn hr (Cf n l.dev) l.vlan;have q5:=Ax1 n hn (Da n (Cf n l.dev) l.vlan) l.mac;have ru:M7 n (Cf n l.dev) l.port<0\/∃k:Nat,M7 n (Cf n l.dev) l.port=k/\k<n.ports.length:=by
  by_cases h:M7 n (Cf n l.dev) l.port<0
  .exact .inl h
  .exact .inr (Kf h)
 have im:n.statics.length<2147483648:=hn.statics;generalize M7 n (Cf n l.dev) l.port=pt at *;generalize Da n (Cf n l.dev) l.vlan=dm at *;generalize Cf n l.dev=dv at *;generalize Ag4 n dm l.mac=en at *;by_cases h3:dv<0
 .have g3:decide (dv<0)=true:=zK h3;rw[zE (.inl h3)]at aa;subst aa;refine gB qr F349 qn F39 ?_;refine gI q1 F96 q2 F95 ?_;refine C q3 F181 ?_;exact Ak 4 (C8 emptyN) E vL gA
 have g3:decide (dv<0)=false:=zL h3;by_cases h4:pt<0
 .have g4:decide (pt<0)=true:=zK h4;rw[zE (.inr h4)]at aa;subst aa;refine gB qr F349 qn F39 ?_;refine gI q1 F96 q2 F95 ?_;refine C q3 F181 ?_;exact Ak 4 (C8 emptyN) E vL gA
 have g4:decide (pt<0)=false:=zL h4;rw[zD (λh=>h.elim h3 h4)]at aa;obtain ⟨p,hp,bd⟩:=ru.resolve_left h4;subst hp;clear ru;have fg:(p:Int).toNat<n.ports.length:=bd;have hnp:nth n.ports (p:Int)=n.ports[(p:Int).toNat]'fg:=Ag fg;rw[hnp]at aa;by_cases h5:dm<0
 .have g5:decide (dm<0)=true:=zK h5;rw[zE (.inl h5)]at aa;subst aa;refine gB qr F349 qn F39 ?_;refine gI q1 F96 q2 F95 ?_;refine C q3 F181 ?_;exact Ak 4 (C8 emptyN) E vL gA
 have g5:decide (dm<0)=false:=zL h5;have q4:=aD (n.ports[(p:Int).toNat]'fg) l.vlan (hn.tagged _ (zI fg));cases hb:Cz (n.ports[(p:Int).toNat]'fg) l.vlan with
 |false=>
  rw[hb]at q4;rw[zE (.inr hb)]at aa;subst aa;refine gB qr F349 qn F39 ?_;refine gI q1 F96 q2 F95 ?_;refine gI q3 F181 q4 F150 ?_;exact Ak 4 (C8 emptyN) E vL gA
 |true=>
 rw[hb]at q4;rw[zD (λh=>h.elim h5 (by rw[hb];simp))]at aa;by_cases h6:0<=en
 .have g6:decide (en>=0)=true:=zK h6;rw[zE h6]at aa;subst aa;refine gB qr F349 qn F39 ?_;refine gI q1 F96 q2 F95 ?_;refine gI q3 F181 q4 F150 ?_;refine C q5 F351 ?_;exact Ak 4 (C8 emptyN) E vL gA
 have g6:decide (en>=0)=false:=zL h6;rw[zD h6]at aa;by_cases h7:n.statics.length=64
 .have g7:((n.statics.length:Int)==64)=true:=by rw[yJ];omega
  rw[zE h7]at aa;subst aa;refine gB qr F349 qn F39 ?_;refine gI q1 F96 q2 F95 ?_;refine gI q3 F181 q4 F150 ?_;refine C q5 F351 ?_;exact Ak 4 (C8 emptyN) E vL gA
 have g7:((n.statics.length:Int)==64)=false:=by rw[zT];omega
 rw[zD h7]at aa;subst aa;refine gB qr F349 qn F39 ?_;refine gI q1 F96 q2 F95 ?_;refine gI q3 F181 q4 F150 ?_;refine C q5 F351 ?_;refine X (Ad [(0,901),(1,902),(2,903),(3,904),(4,905),(5,906),(6,907),(7,908)] E F102 de E W E V) ?_;refine X (Ah Γ.toTy 87 E E E E E (.row E) (.lit (e:=Bb) (l:=[(⟨l.row,dm,(p:Int),l.mac⟩:Static)]) E E) y_ (by simp only[yF];omega) (by simp only[yF];omega)) ?_;exact Aj 901 E (Aj 902 E (Aj 903 E (Aj 904 E (Aj 87 E (Aj 906 E (Aj 907 E (Aj 908 E D)))))))
end Go.Sy.Zaa
