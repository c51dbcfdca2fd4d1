/- Parts of a proof. -/
import Derived.Test.YtedbfemmehbeoaaGreatDoorXC14
set_option maxHeartbeats 4000000
set_option linter.all false
namespace Go.Sy.Zaa
open Go.Proofs Go.Proofs.Tryz
attribute [local irreducible]G DR
set_option maxRecDepth 100000
def Acs:=iA Bp 4 F409 ntmps409
def Baz(dom m:Int)(s:I2):Sp 410 [Bp s,.ref 1 (Aa dom) 0,.ref 1 (B1 m) 0] (Ab (s.l==dom&&s.an==m)):=cT F410 ntmps410 λF g=>by
 cases h:(s.l==dom)
 .exact gA
 .exact gA
def Bay(n:Ai)(g:n.Fin)(dom m:Int):Sp 350 [Aq n,Aa dom,B1 m] (Aa (Ard n dom m)):=cT F350 ntmps350 λF i=>by
 have q:=Acs n.ab (λs:I2=>s.l==dom&&s.an==m) 410 [] [.ref 1 (Aa dom) 0,.ref 1 (B1 m) 0] rfl (λx _=>⟨⟨_,_,F410⟩,Baz dom m x⟩) g.ab;refine fW ?_;exact Bi 4 1 (Aa dom) q_ q_ q_ (Bi 5 1 (B1 m) q_ q_ q_ (c0 q F409 gC))
def Ayq(n:Ai)(r:n.Fin)(l:A2)(hl:E7 l):Sp 284 [Aq n,Be l] (.tup [Aq (De n l).1,Aa (De n l).2]):=cT F284 ntmps284 λF hF=>by
 have i:=S3 l hl;have j:=A7 n r;have dr:=Yb n r;have g:=De.eq_1 n l;dsimp only at g;have o:=Es.eq_1 n l 4;generalize De n l=a1 at *;generalize Es n l 4=f at *;cases h1:(l.kind==4) with
 |false=>
  have g1:(l.kind != 4)=true:=by rw[bne,h1];rfl
  rw[h1,yE]at o;rw[o,zE rfl]at g;subst g;refine T ?_;exact An 4 (Eo Au) q_ vL gA
 |true=>
 have g1:(l.kind != 4)=false:=by rw[bne,h1];rfl
 rw[h1,yB]at o;cases h2:Hp l with
 |false=>
  rw[h2]at i o;rw[o,yE,zE rfl]at g;subst g;refine gD i F348 ?_;exact An 4 (Eo Au) q_ vL gA
 |true=>
 rw[h2]at i o;cases R:Ac n with
 |false=>
  rw[R]at j o;rw[o,wR,zE rfl]at g;subst g;refine gB i F348 j F49 ?_;exact An 4 (Eo Au) q_ vL gA
 |true=>
 rw[R]at j o;rw[o,zD qx]at g;have t:=M2 n r R l.q;have I:=Zz n r R (Cg n l.q) l.ac;have J:=Tt n r R (Cg n l.q) l.z;have q5:=Bay n r (Ep n (Cg n l.q) l.z) l.an;have tc:L4 n (Cg n l.q) l.ac<0\/∃k:Nat,L4 n (Cg n l.q) l.ac=k/\k<n.g.length:=by
  by_cases h:L4 n (Cg n l.q) l.ac<0
  .exact .inl h
  .exact .inr (Qp h)
 have je:n.ab.length<2147483648:=r.ab;generalize L4 n (Cg n l.q) l.ac=pt at *;generalize Ep n (Cg n l.q) l.z=dm at *;generalize Cg n l.q=dv at *;generalize Ard n dm l.an=en at *;by_cases h3:dv<0
 .have g3:decide (dv<0)=true:=zL h3;rw[zE (.inl h3)]at g;subst g;refine gB i F348 j F49 ?_;refine gN t F112 I F111 ?_;refine C J F195 ?_;exact An 4 (Eo Au) q_ vL gA
 have g3:decide (dv<0)=false:=zJ h3;by_cases h4:pt<0
 .have g4:decide (pt<0)=true:=zL h4;rw[zE (.inr h4)]at g;subst g;refine gB i F348 j F49 ?_;refine gN t F112 I F111 ?_;refine C J F195 ?_;exact An 4 (Eo Au) q_ vL gA
 have g4:decide (pt<0)=false:=zJ h4;rw[zD (λh=>h.elim h3 h4)]at g;obtain ⟨p,hp,bd⟩:=tc.resolve_left h4;subst hp;clear tc;have d8:(p:Int).toNat<n.g.length:=bd;have a0:Af n.g (p:Int)=n.g[(p:Int).toNat]'d8:=Aj d8;rw[a0]at g;by_cases h5:dm<0
 .have g5:decide (dm<0)=true:=zL h5;rw[zE (.inl h5)]at g;subst g;refine gB i F348 j F49 ?_;refine gN t F112 I F111 ?_;refine C J F195 ?_;exact An 4 (Eo Au) q_ vL gA
 have g5:decide (dm<0)=false:=zJ h5;have P:=Aci (n.g[(p:Int).toNat]'d8) l.z (r.u _ (zI d8));cases hb:Hk (n.g[(p:Int).toNat]'d8) l.z with
 |false=>
  rw[hb]at P;rw[zE (.inr hb)]at g;subst g;refine gB i F348 j F49 ?_;refine gN t F112 I F111 ?_;refine gN J F195 P F185 ?_;exact An 4 (Eo Au) q_ vL gA
 |true=>
 rw[hb]at P;rw[zD (λh=>h.elim h5 (by rw[hb];simp))]at g;by_cases h6:0<=en
 .have g6:decide (en>=0)=true:=zL h6;rw[zE h6]at g;subst g;refine gB i F348 j F49 ?_;refine gN t F112 I F111 ?_;refine gN J F195 P F185 ?_;refine C q5 F350 ?_;exact An 4 (Eo Au) q_ vL gA
 have g6:decide (en>=0)=false:=zJ h6;rw[zD h6]at g;by_cases h7:n.ab.length=64
 .have g7:((n.ab.length:Int)==64)=true:=by rw[yL];omega
  rw[zE h7]at g;subst g;refine gB i F348 j F49 ?_;refine gN t F112 I F111 ?_;refine gN J F195 P F185 ?_;refine C q5 F350 ?_;exact An 4 (Eo Au) q_ vL gA
 have g7:((n.ab.length:Int)==64)=false:=by rw[zU];omega
 rw[zD h7]at g;subst g;refine gB i F348 j F49 ?_;refine gN t F112 I F111 ?_;refine gN J F195 P F185 ?_;refine C q5 F350 ?_;refine X (Ad [(0,901),(1,902),(2,903),(3,904),(4,905),(5,906),(6,907),(7,908)] q_ F79 dr q_ W q_ V) ?_;refine X (Ah Γ.toTy 87 q_ q_ q_ q_ q_ (.row q_) (.lit (e:=Bp) (l:=[(⟨l.row,dm,(p:Int),l.an⟩:I2)]) q_ q_) qq (by simp only[yD];omega) (by simp only[yD];omega)) ?_;exact Ao 901 q_ (Ao 902 q_ (Ao 903 q_ (Ao 904 q_ (Ao 87 q_ (Ao 906 q_ (Ao 907 q_ (Ao 908 q_ D)))))))
end Go.Sy.Zaa
