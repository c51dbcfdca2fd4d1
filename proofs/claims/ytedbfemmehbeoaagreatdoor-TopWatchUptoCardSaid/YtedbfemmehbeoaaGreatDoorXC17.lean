/- Parts of a proof. -/
import Derived.Test.YtedbfemmehbeoaaGreatDoorXC14
set_option maxHeartbeats 4000000
set_option linter.all false
namespace Go.Sy.Zaa
open Go.Proofs Go.Proofs.Tryz
attribute [local irreducible]G DR
set_option maxRecDepth 100000
def Aem{a b x:Int}(g:0<=b/\b<=32)(j:0<=a/\a<4294967296)(l:0<=x/\x<4294967296):Al9 a b x=Zv a b x:=by
 obtain ⟨y,rfl⟩:=xK j.1;obtain ⟨z,rfl⟩:=xK l.1;obtain ⟨k,i,o⟩:∃k:Nat,(32-b).toNat=k/\k<=32:=⟨_,rfl,by omega⟩
 have p:0<2^k:=Nat.two_pow_pos k;rw[Al9,Ana b g,i,Bbf y z k j_ j_ o,Zv,zL g.1,zL g.2,yB,yB,Th y k b g i,Th z k b g i];generalize 2^k=q at *;have I:=uI y q;have J:=uI z q;have r:y-y%q=q*(y/q):=by omega
 have t:z-z%q=q*(z/q):=by omega
 rw[r,t,xY,zK,yL];constructor
 .intro h;rw[h]
 .intro h;exact Nat.eq_of_mul_eq_mul_left p (by exact_mod_cast h)
def clashS(n:Ai)(x:Irb)(R:0<=x.bb/\x.bb.toNat<n.ag.length)(l:0<=x.bits/\x.bits<=32)(o:0<=x.addr/\x.addr<4294967296)(dev a b:Int)(p:0<=a/\a<4294967296)(t:0<=b/\b<=32):Sp 356 [Aq n,Dx x,Aa dev,A22 a b] (Ab (Qf n dev a b x)):=cT F356 ntmps356 λF hF=>by
 have j:=Ala x.addr x.bits a l;have I:=Ala a b x.addr t;rw[Aem l o p]at j;rw[Aem t p o]at I;have g:=Qf.eq_1 n dev a b x;have i:=R.2;rw[Aj i]at g;generalize Qf n dev a b x=r at *;generalize Zv x.addr x.bits a=p1 at *;generalize Zv a b x.addr=p2 at *;cases J:(x.addr==a) with
 |true=>
  rw[J,wT]at g;subst g;exact gA
 |false=>
  rw[J,vI]at g;cases P:((n.ag[x.bb.toNat]'i).q != dev) with
  |false=>
   rw[P,yE]at g;subst g;exact gA
  |true=>
   rw[P,yB]at g;cases p1 with
   |true=>
    rw[wT]at g;subst g;refine gD j F378 ?_;exact D
   |false=>
    rw[vI]at g;subst g;refine gB j F378 I F378 ?_;exact D
def irbC(n:Ai)(x:Irb)(g:0<=x.bb/\x.bb.toNat<n.ag.length)(i:0<=x.bits/\x.bits<=32)(j:0<=x.addr/\x.addr<4294967296)(dev:Int)(l:A2)(o:0<=l.addr/\l.addr<4294967296)(p:0<=l.bits/\l.bits<=32):Sp 355 [Dx x,.ref 8 (Aq n) 0,.ref 1 (Aa dev) 0,.ref 17 (Be l) 0] (Ab (Qf n dev l.addr l.bits x)):=cT F355 ntmps355 λF t=>by
 have q:=clashS n x g i j dev l.addr l.bits o p;generalize Qf n dev l.addr l.bits x=r at *;refine gD q F356 ?_;exact D
def A07{n:Ai}{l:A2}{k:Int}(h:Es n l k=true):l.kind=k/\Hp l=true/\Ac n=true:=by
 unfold Es at h;simp only[zG,yL]at h;exact⟨h.1,h.2.1,h.2.2⟩
def Ay8{l:A2}(h:Hp l=true)(g:l.kind=9):0<=l.bits/\l.bits<=32:=by
 rw[Hp,zG]at h;have:=h.1;simp[Cq,g]at this;have:=bR this.2.2;omega
def Bfd(n:Ai)(r:n.Fin)(ha:Eb n)(l:A2)(hl:E7 l):Sp 289 [Aq n,Be l] (.tup [Aq (Iy n l).1,Aa (Iy n l).2]):=cT F289 ntmps289 λF hF=>by
 have aq:=@beg_ok n l 9;have g:=Iy.eq_1 n l;have p:=Ahv n r l hl 9;have dr:=Yb n r;generalize Iy n l=a1 at *;generalize Eh n l 9=b at *;obtain ⟨d,e⟩:=b;dsimp only at g aq p;by_cases h1:e≠0
 .have g1:(e != 0)=true:=by rw[xF];exact h1
  rw[zE h1]at g;subst g;refine gD p F353 ?_;exact An 4 (Eo Au) q_ vL gA
 have g1:(e != 0)=false:=by rw[bne_eq_false_iff_eq];omega
 rw[zD h1]at g;obtain ⟨ox,hr,i,hi,ab⟩:=aq j_;subst hi;clear aq;have ar:(i:Int).toNat<n.j.length:=ab;have fp:Af n.j (i:Int)=n.j[(i:Int).toNat]'ar:=Aj ar;clear fp;obtain ⟨a0,wq,_⟩:=A07 ox;have zm:=Ay8 wq a0;have t:=Ani n r hr (i:Int) l.name;have I:=Tt n r hr (i:Int) l.z;have ru:∀x∈n.r,(0<=x.bb/\x.bb.toNat<n.ag.length)/\(0<=x.bits/\x.bits<=32):=λx J=>by
  obtain ⟨j,hj,rfl⟩:=wH J;have:=Bcr hr hj;simp only[Ajq,Am,zG,zK]at this;omega
 have qc:=Sn n.r (Qf n (i:Int) l.addr l.bits) 355 [] [.ref 8 (Aq n) 0,.ref 1 (Aa (i:Int)) 0,.ref 17 (Be l) 0] rfl (λx J=>⟨⟨_,_,F355⟩,irbC n x (ru x J).1 (ru x J).2 (ha x J) (i:Int) l hl.ok.addr zm⟩) r.r;rw[Mr]at qc;have fg:Ep n (i:Int) l.z<0\/∃k:Nat,Ep n (i:Int) l.z=k/\k<n.c.length:=by
  by_cases h:Ep n (i:Int) l.z<0
  .exact .inl h
  .exact .inr (Qp h)
 generalize Agz n (i:Int) l.name=R at *;generalize Ep n (i:Int) l.z=dm at *;generalize n.r.any (Qf n (i:Int) l.addr l.bits)=cl at *;by_cases h2:R<0
 .have g2:decide (R<0)=true:=zL h2;rw[zE h2]at g;subst g;refine gB p F353 t F354 ?_;refine C I F195 ?_;exact An 4 (Eo Au) q_ vL gA
 have g2:decide (R<0)=false:=zJ h2;rw[zD h2]at g;by_cases P:dm<0
 .have g3:decide (dm<0)=true:=zL P;rw[zE P]at g;subst g;refine gB p F353 t F354 ?_;refine C I F195 ?_;exact An 4 (Eo Au) q_ vL gA
 have g3:decide (dm<0)=false:=zJ P;rw[zD P]at g;obtain ⟨k,hk,py⟩:=fg.resolve_left P;subst hk;clear fg;have o:(k:Int).toNat<n.c.length:=py;have x8:Af n.c (k:Int)=n.c[(k:Int).toNat]'o:=Aj o;rw[x8]at g;by_cases h4:0<=(n.c[(k:Int).toNat]'o).ar
 .have g4:decide ((n.c[(k:Int).toNat]'o).ar>=0)=true:=zL h4;rw[zE (.inl h4)]at g;subst g;refine gB p F353 t F354 ?_;refine C I F195 ?_;exact An 4 (Eo Au) q_ vL gA
 have g4:decide ((n.c[(k:Int).toNat]'o).ar>=0)=false:=zJ h4;cases cl with
 |true=>
  rw[zE (.inr rfl)]at g;subst g;refine gB p F353 t F354 ?_;refine C I F195 ?_;refine Bi 2 8 (Aq n) q_ q_ q_ (Bi 3 17 (Be l) q_ q_ q_ ?_);refine Bi 6 1 (Aa (i:Int)) q_ q_ q_ (C qc F334 ?_);exact An 4 (Eo Au) q_ vL gA
 |false=>
  rw[zD (λh=>h.elim h4 qx)]at g;subst g;have ag:n.c≠[]:=λe=>by rw[e]at py;cases py
  have je:n.r.length<2147483648:=r.r;refine gB p F353 t F354 ?_;refine C I F195 ?_;refine Bi 2 8 (Aq n) q_ q_ q_ (Bi 3 17 (Be l) q_ q_ q_ ?_);refine Bi 6 1 (Aa (i:Int)) q_ q_ q_ (C qc F334 ?_);refine X (Ad [(0,901),(1,902),(2,903),(3,904),(4,905),(5,906),(6,907),(7,908)] q_ F79 dr q_ W q_ V) ?_;refine⟨ag,?_⟩;refine T ?_;refine⟨(⟨(n.c[(k:Int).toNat]'o).q,(n.c[(k:Int).toNat]'o).z,(n.c[(k:Int).toNat]'o).ao,(n.r.length:Int),(n.c[(k:Int).toNat]'o).row,(n.c[(k:Int).toNat]'o).ae⟩:A0),q_,q_,?_⟩;refine T ?_;refine X (Ah Γ.toTy 77 q_ q_ q_ q_ q_ (.row q_) (.lit (e:=Dx) (l:=[(⟨l.row,(k:Int),R,l.addr,l.bits⟩:Irb)]) q_ q_) qq (by simp only[yD];omega) (by simp only[yD];omega)) ?_;exact Ao 901 q_ (Ao 902 q_ (Ao 903 q_ (Ao 904 q_ (Ao 905 q_ (Ao 906 q_ (Ao 907 q_ (Ao 77 q_ D)))))))
end Go.Sy.Zaa
