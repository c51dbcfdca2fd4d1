/- Parts of a proof. -/
import Derived.Test.YtedbfemmehbeoaaGreatDoorXC16
import Derived.Test.YtedbfemmehbeoaaGreatDoorXC17
import Derived.Test.YtedbfemmehbeoaaGreatDoorXC19
import Derived.Test.YtedbfemmehbeoaaGreatDoorXC22
set_option maxHeartbeats 4000000
set_option linter.all false
namespace Go.Sy.Zaa
open Go.Proofs Go.Proofs.Tryz
section
attribute [local irreducible]G DR
set_option maxRecDepth 100000
def Be4(n:Ai)(i:n.Fin)(ha:Eb n)(l:A2)(j:E7 l):Sp 224 [Aq n,Be l] (.tup [Aq (La n l).1,Aa (La n l).2]):=cT F224 ntmps224 λF hF=>by
 have g:=La.eq_1 n l;generalize La n l=a0 at *;by_cases o:l.kind=1
 .have g1:(l.kind==1)=true:=by rw[yL];exact o
  have q:=A1q n i l j;rw[zE o]at g;rw[<-g]at q;refine gD q F281 ?_;exact D
 have g1:(l.kind==1)=false:=by rw[zU];exact o
 rw[zD o]at g;by_cases p:l.kind=2
 .have g2:(l.kind==2)=true:=by rw[yL];exact p
  have q:=Bad n i l j;rw[zE p]at g;rw[<-g]at q;refine gD q F282 ?_;exact D
 have g2:(l.kind==2)=false:=by rw[zU];exact p
 rw[zD p]at g;by_cases r:l.kind=3
 .have g3:(l.kind==3)=true:=by rw[yL];exact r
  have q:=Bbs n i l j;rw[zE r]at g;rw[<-g]at q;refine gD q F283 ?_;exact D
 have g3:(l.kind==3)=false:=by rw[zU];exact r
 rw[zD r]at g;by_cases t:l.kind=4
 .have g4:(l.kind==4)=true:=by rw[yL];exact t
  have q:=Ayq n i l j;rw[zE t]at g;rw[<-g]at q;refine gD q F284 ?_;exact D
 have g4:(l.kind==4)=false:=by rw[zU];exact t
 rw[zD t]at g;by_cases I:l.kind=5
 .have g5:(l.kind==5)=true:=by rw[yL];exact I
  have q:=Beu n i l j;rw[zE I]at g;rw[<-g]at q;refine gD q F285 ?_;exact D
 have g5:(l.kind==5)=false:=by rw[zU];exact I
 rw[zD I]at g;by_cases J:l.kind=6
 .have g6:(l.kind==6)=true:=by rw[yL];exact J
  have q:=ovVniS n i l j;rw[zE J]at g;rw[<-g]at q;refine gD q F286 ?_;exact D
 have g6:(l.kind==6)=false:=by rw[zU];exact J
 rw[zD J]at g;by_cases P:l.kind=7
 .have g7:(l.kind==7)=true:=by rw[yL];exact P
  have q:=Bak n i l j;rw[zE P]at g;rw[<-g]at q;refine gD q F287 ?_;exact D
 have g7:(l.kind==7)=false:=by rw[zU];exact P
 rw[zD P]at g;by_cases R:l.kind=8
 .have g8:(l.kind==8)=true:=by rw[yL];exact R
  have q:=Bd4 n i l j;rw[zE R]at g;rw[<-g]at q;refine gD q F288 ?_;exact D
 have g8:(l.kind==8)=false:=by rw[zU];exact R
 rw[zD R]at g;by_cases h9:l.kind=9
 .have g9:(l.kind==9)=true:=by rw[yL];exact h9
  have q:=Bfd n i ha l j;rw[zE h9]at g;rw[<-g]at q;refine gD q F289 ?_;exact D
 have g9:(l.kind==9)=false:=by rw[zU];exact h9
 rw[zD h9]at g;subst g;refine T ?_;exact An 4 (Eo Au) q_ vL gA
def A3o{n:Ai}(h:Ac n=true){i:Nat}(hi:i<n.y.length):Wn n n.y[i]=true:=by
 simp only[Ac,zG]at h;exact Cm.1 h.1.1.2 i hi
def Bgd(n:Ai)(P:n.Fin)(hr:Ac n=true)(f:Mg)(hf:f∈n.y):Sp 290 [Aq n,B6 f] (Ab (J2 n f)):=cT F290 ntmps290 λF hF=>by
 have p:0<=f.q/\f.q.toNat<n.j.length:=by
  obtain ⟨j,hj,rfl⟩:=wH hf;have:=A3o hr hj;simp only[Wn,Am,zG,zK]at this;omega
 have a5:f.aa.length<2147483648:=P.aa f hf;have jk:(Af n.j f.q).aq=(n.j[f.q.toNat]'p.2).aq:=by rw[Aj p.2]
 have q1:=Ab6 n P f.q f.ao;have R:=J2.eq_1 n f;have a0:∀a,Lf n f a=_:=Lf.eq_1 n f;generalize J2 n f=l at *;generalize Xv n f.q f.ao=v0 at *;refine T ?_;refine Bi 2 8 (Aq n) q_ q_ q_ ?_;refine Bi 3 4 (B6 f) q_ q_ q_ (gD q1 F292 ?_);refine Dc (λj:Nat=>j<=f.aa.length) (λj=>[(2,.ref 8 (Aq n) 0),(3,.ref 4 (B6 f) 0),(5,Bo (n.j[f.q.toNat]'p.2).aq),(6,Ab (decide (0<=v0)&&(f.aa.take j).all (Lf n f))),(28,.sl 1 Bo f.aa),(29,Aa f.aa.length),(30,Aa j)]) (λ_=>[]) (λj=>f.aa.length-j) 0 [] j_ ⟨⟨q_,q_,q_,q_,q_,q_,zH Ab qx,q_,q_,q_,q_,q_,q_,q_,z_⟩,z_,q_,q_⟩ ?_;intro j hj;refine gP ?_ ?_<;>intro h
 .have ab:j<f.aa.length:=qA h;have g:(j:Int).toNat<f.aa.length:=ab;clear h;have qo:=Azt n P (f.aa[(j:Int).toNat]'g);have o:=a0 (f.aa[(j:Int).toNat]'g);have gp:(f.aa.take (j+1)).all (Lf n f)=((f.aa.take j).all (Lf n f)&&Lf n f (f.aa[(j:Int).toNat]'g)):=by
   rw[zZ ab,List.all_append];simp only[List.all_cons,List.all_nil,uP];rfl
  have iy:Lf n f (f.aa[(j:Int).toNat]'g)=false->f.aa.all (Lf n f)=false:=λh=>by
   rw[List.all_eq_false];exact⟨_,zI g,by rw[h];simp⟩
  have vx:(f.aa.take j).all (Lf n f)=false->f.aa.all (Lf n f)=false:=λh=>by
   rw[List.all_eq_false]at h|-;obtain ⟨x,hx,a2⟩:=h;exact⟨x,wK hx,a2⟩
  have qf:=Ab6 n P (Ig n (f.aa[(j:Int).toNat]'g)) f.ao;have ql:=Aqf n P (Ig n (f.aa[(j:Int).toNat]'g)) f.ao;cases ho:(decide (0<=v0)&&(f.aa.take j).all (Lf n f)) with
  |false=>
   have r:l=false:=by
    rw[R];cases hd:decide (0<=v0)
    .rfl
    .rw[hd,yB]at ho;rw[vx ho];rfl
   subst r;generalize Ig n (f.aa[(j:Int).toNat]'g)=t at *;refine gD qo F293 ?_;exact D
  |true=>
   have fg:Ig n (f.aa[(j:Int).toNat]'g)<0\/0<=Ig n (f.aa[(j:Int).toNat]'g):=by omega
   have yj:Oc n (Ig n (f.aa[(j:Int).toNat]'g)) f.ao<0\/∃k:Nat,Oc n (Ig n (f.aa[(j:Int).toNat]'g)) f.ao=k/\k<n.y.length:=by
    by_cases h:Oc n (Ig n (f.aa[(j:Int).toNat]'g)) f.ao<0
    .exact .inl h
    .exact .inr (Qp h)
   generalize Xv n (Ig n (f.aa[(j:Int).toNat]'g)) f.ao=fv at *;generalize Oc n (Ig n (f.aa[(j:Int).toNat]'g)) f.ao=I at *;generalize Ig n (f.aa[(j:Int).toNat]'g)=t at *;by_cases k1:t<0
   .have g1:decide (t>=0)=false:=zJ j_;have a6:(!(decide (t>=0)))=true:=by rw[g1];rfl
    have r:l=false:=by rw[R,iy (by rw[o,zJ (by omega:¬0<=t)];rfl),wR]
    subst r;refine gD qo F293 ?_;exact D
   have g1:decide (t>=0)=true:=zL j_;rw[zL (by omega:0<=t),yB]at o;by_cases k2:(f.aa[(j:Int).toNat]'g)=0
   .have g2:((f.aa[(j:Int).toNat]'g) != 0)=false:=by rw[bne_eq_false_iff_eq];exact k2
    have a7:(!((f.aa[(j:Int).toNat]'g) != 0))=true:=by rw[g2];rfl
    have r:l=false:=by rw[R,iy (by rw[o,g2];rfl),wR]
    subst r;refine gD qo F293 ?_;exact D
   have g2:((f.aa[(j:Int).toNat]'g) != 0)=true:=by rw[xF];exact k2
   rw[g2,yB]at o;by_cases k3:fv<0
   .have g3:decide (fv>=0)=false:=zJ j_;have a8:(!(decide (fv>=0)))=true:=by rw[g3];rfl
    have r:l=false:=by rw[R,iy (by rw[o,zJ (by omega:¬0<=fv)];rfl),wR]
    subst r;refine gB qo F293 qf F292 ?_;exact D
   have g3:decide (fv>=0)=true:=zL j_;rw[zL (by omega:0<=fv),yB]at o;by_cases k4:I<0
   .have g4:decide (I>=0)=false:=zJ j_;have a3:(!(decide (I>=0)))=true:=by rw[g4];rfl
    have r:l=false:=by rw[R,iy (by rw[o,zJ (by omega:¬0<=I)];rfl),wR]
    subst r;refine gB qo F293 qf F292 ?_;refine C ql F291 ?_;refine Av q_ As (zH Ab g4.symm) q_
   have g4:decide (I>=0)=true:=zL j_;have a3:(!(decide (I>=0)))=false:=by rw[g4];rfl
   rw[zL (by omega:0<=I),yB]at o;obtain ⟨m,hm,iq⟩:=yj.resolve_left k4;subst hm;have i:(m:Int).toNat<n.y.length:=iq;rw[Aj i,jk]at o;have cx:=P.aa _ (zI i);have qc:=aI (n.y[(m:Int).toNat]'i).aa (n.j[f.q.toNat]'p.2).aq cx;have a4:=λb=>aI (n.y[(m:Int).toNat]'i).aa b cx
   have du:(decide (0<=v0)&&(f.aa.take (j+1)).all (Lf n f))=(Li (n.y[(m:Int).toNat]'i).aa (n.j[f.q.toNat]'p.2).aq&&f.aa.all λb=>b==(f.aa[(j:Int).toNat]'g)||Li (n.y[(m:Int).toNat]'i).aa b):=by
    rw[gp,<-Bool.and_assoc,ho,yB,o]
   clear o gp iy vx ho a0;refine gB qo F293 qf F292 ?_;refine gN ql F291 ql F291 ?_;refine C qc F352 ?_;refine Dc (λk:Nat=>k<=f.aa.length) (λk=>[(2,.ref 8 (Aq n) 0),(3,.ref 4 (B6 f) 0),(5,Bo (n.j[f.q.toNat]'p.2).aq),(6,Ab (Li (n.y[(m:Int).toNat]'i).aa (n.j[f.q.toNat]'p.2).aq&&(f.aa.take k).all λb=>b==(f.aa[(j:Int).toNat]'g)||Li (n.y[(m:Int).toNat]'i).aa b)),(8,Bo (f.aa[(j:Int).toNat]'g)),(10,.sl 1 Bo (n.y[(m:Int).toNat]'i).aa),(28,.sl 1 Bo f.aa),(29,Aa f.aa.length),(30,Aa j),(78,.sl 1 Bo f.aa),(79,Aa f.aa.length),(80,Aa k)]) (λ_=>[]) (λk=>f.aa.length-k) 0 [] j_ ⟨⟨q_,q_,q_,q_,q_,q_,zH Ab qx,q_,q_,q_,q_,q_,q_,q_,q_,q_,q_,q_,q_,q_,q_,q_,q_,q_,z_⟩,z_,q_,q_⟩ ?_;intro k hk;refine gP ?_ ?_<;>intro h
   .have dp:k<f.aa.length:=qA h;have bh:(k:Int).toNat<f.aa.length:=dp;clear h;have gp:(f.aa.take (k+1)).all (λb=>b==(f.aa[(j:Int).toNat]'g)||Li (n.y[(m:Int).toNat]'i).aa b)=((f.aa.take k).all (λb=>b==(f.aa[(j:Int).toNat]'g)||Li (n.y[(m:Int).toNat]'i).aa b)&&((f.aa[(k:Int).toNat]'bh)==(f.aa[(j:Int).toNat]'g)||Li (n.y[(m:Int).toNat]'i).aa (f.aa[(k:Int).toNat]'bh))):=by
     rw[zZ dp,List.all_append];simp only[List.all_cons,List.all_nil,uP];rfl
    have J:(Li (n.y[(m:Int).toNat]'i).aa (n.j[f.q.toNat]'p.2).aq&&(f.aa.take (k+1)).all λb=>b==(f.aa[(j:Int).toNat]'g)||Li (n.y[(m:Int).toNat]'i).aa b)=((Li (n.y[(m:Int).toNat]'i).aa (n.j[f.q.toNat]'p.2).aq&&(f.aa.take k).all λb=>b==(f.aa[(j:Int).toNat]'g)||Li (n.y[(m:Int).toNat]'i).aa b)&&((f.aa[(k:Int).toNat]'bh)==(f.aa[(j:Int).toNat]'g)||Li (n.y[(m:Int).toNat]'i).aa (f.aa[(k:Int).toNat]'bh))):=by
     rw[gp,Bool.and_assoc]
    have qb:=a4 (f.aa[(k:Int).toNat]'bh);cases a1:(Li (n.y[(m:Int).toNat]'i).aa (n.j[f.q.toNat]'p.2).aq&&(f.aa.take k).all λb=>b==(f.aa[(j:Int).toNat]'g)||Li (n.y[(m:Int).toNat]'i).aa b) with
    |false=>
     rw[a1,yE]at J;refine T ?_;exact A8 (k+1) [] dp j_ ⟨⟨q_,q_,q_,q_,q_,q_,zH Ab J,q_,q_,q_,q_,q_,q_,q_,q_,q_,q_,q_,q_,q_,q_,q_,q_,q_,z_⟩,z_,q_,q_⟩
    |true=>
     rw[a1,yB]at J;cases he:((f.aa[(k:Int).toNat]'bh)==(f.aa[(j:Int).toNat]'g)) with
     |true=>
      rw[he,wT]at J;refine T ?_;exact A8 (k+1) [] dp j_ ⟨⟨q_,q_,q_,q_,q_,q_,zH Ab J,q_,q_,q_,q_,q_,q_,q_,q_,q_,q_,q_,q_,q_,q_,q_,q_,q_,z_⟩,z_,q_,q_⟩
     |false=>
      rw[he,vI]at J;refine gD qb F352 ?_;exact A8 (k+1) [] dp j_ ⟨⟨q_,q_,q_,q_,q_,q_,zH Ab J,q_,q_,q_,q_,q_,q_,q_,q_,q_,q_,q_,q_,q_,q_,q_,q_,q_,z_⟩,z_,q_,q_⟩
   .have uu:k=f.aa.length:=qB h;clear h;rw[uu,yM];refine T ?_;exact A8 (j+1) [] ab j_ ⟨⟨q_,q_,q_,q_,q_,q_,zH Ab du,q_,q_,q_,q_,q_,q_,q_,z_⟩,z_,q_,q_⟩
 .have bu:j=f.aa.length:=qB h;clear h;subst bu;rw[yM,<-R];exact gA
def Aj8{a:Type}{p:a->Bool}:∀{l:List a} {j:Nat} (i:j<l.length),(∀k (t:k<l.length),k<j->p l[k]=false)->p l[j]=true->l.find? p=some l[j]
 |x::l,0,_,_,g=>by
  rw[tX]at g|-;rw[List.find?_cons,g]
 |x::l,j+1,i,o,g=>by
  rw[tW]at g |-;have r:=o 0 qx j_;rw[tX]at r;rw[List.find?_cons,r];exact Aj8 (kS i) (λ k t I=>by
   have:=o (k+1) kO j_;rwa [tW]at this) g
def bC(n:Ai)(j:Nat):List A0:=(n.c.take j).map (λd=>{d with ae:=Iz n d})++n.c.drop j
def A6d(n:Ai):bC n 0=n.c:=by simp[bC]
def Ba5(n:Ai):bC n n.c.length=(Cv n).c:=by simp[bC,Cv]
def Ba4(n:Ai){j:Nat}(g:j<=n.c.length):(bC n j).length=n.c.length:=by simp[bC];omega
def A6e(n:Ai){j:Nat}(g:j<n.c.length)(h:(j:Int).toNat<(bC n j).length):(bC n j)[(j:Int).toNat]'h=n.c[j]/\(bC n j).set (j:Int).toNat {n.c[j] with ae:=Iz n n.c[j]}=bC n (j+1):=by
 have i:((n.c.take j).map (λd=>{d with ae:=Iz n d})).length=j:=by simp;omega
 have e:bC n j=(n.c.take j).map (λd=>{d with ae:=Iz n d})++n.c[j]::n.c.drop (j+1):=by
  rw[bC,yK g]
 have l:bC n (j+1)=(n.c.take j).map (λd=>{d with ae:=Iz n d})++{n.c[j] with ae:=Iz n n.c[j]}::n.c.drop (j+1):=by
  rw[bC,zZ g,wP,xR,vW,yW];rfl
 constructor
 .simp only[yA,e];rw[xW j_];simp only[i,uU,tX]
 .rw[yA,e,l,uK _ _ j_,i,uU];rfl
def Bcs(n:Ai)(h:Ac n=true):(∀f∈n.y,f.aa.length<=16):=λf g=>by
 obtain ⟨j,i,rfl⟩:=wH g;have:=A3o h i;simp only[Wn,zG,zK]at this;exact this.2
def A51{n:Ai}(h:Ac n=true)(d:A0):(Iz n d).length<=16:=by
 unfold Iz;split
 .rename_i i;rw[yS];have j:=Kf (λf:Mg=>f.q==d.q&&f.ao==d.ao) n.y;have g:(Oc n d.q d.ao).toNat<n.y.length:=by
   have e:Oc n d.q d.ao=Bt (λf:Mg=>f.q==d.q&&f.ao==d.ao) n.y:=rfl;have:=i.2;omega
  rw[Aj g];exact Bcs n h _ (zI g)
 .simp
def Ai9{n:Ai}(g:n.Fin)(h:Ac n=true):(Cv n).Fin:=by
 have i:(Cv n).c.length=n.c.length:=by simp[Cv]
 refine {g with c:=?_,ae:=?_}
 .show (Cv n).c.length<_;rw[i];exact g.c
 .intro p hp;have hp:p∈n.c.map λd=>{d with ae:=Iz n d}:=hp
  obtain ⟨d,_,rfl⟩:=yT.1 hp;show (Iz n d).length<_;have:=A51 h d;omega
def meshS(n:Ai)(r:n.Fin):Sp 225 [Aq n] (.tup [Aq (Dj n).1,Aa (Dj n).2.1,Aa (Dj n).2.2]):=cT F225 ntmps225 λF hF=>by
 have qn:=A7 n r;have dr:=Yb n r;have o:=Dj.eq_1 n;generalize Dj n=a3 at *;cases J:Ac n with
 |false=>
  rw[J]at qn;rw[J,zE rfl]at o;subst o;refine gD qn F49 ?_;exact An 2 (Eo Au) q_ vL gA
 |true=>
 rw[J]at qn;rw[J,zD qx]at o;have a4:n.y.length<2147483648:=r.y;have ec:n.c.length<2147483648:=r.c;refine gD qn F49 ?_;refine Bi 1 8 (Aq n) q_ q_ q_ ?_;refine Dc (λj:Nat=>j<=n.y.length/\∀k (I:k<n.y.length),k<j->J2 n n.y[k]=true) (λj=>[(1,.ref 8 (Aq n) 0),(2,.ptr 1001 0),(18,.sl 4 B6 n.y),(19,Aa n.y.length),(20,Aa j)]) (λ_=>[(1001,.box [Jl,Jl,Jl,Jl,Jl,Jl,Jl,Jl])]) (λj=>n.y.length-j) 0 [(1001,2)] ⟨by omega,λk I h=>by omega⟩ U ?_;rintro j ⟨hj,hI⟩;refine gP ?_ ?_<;>intro h
 .have t:j<n.y.length:=qA h;have g:(j:Int).toNat<n.y.length:=t;clear h;have q:=Bgd n r J (n.y[(j:Int).toNat]'g) (zI g);cases ha:J2 n (n.y[(j:Int).toNat]'g) with
  |false=>
   rw[ha]at q;rw[Aj8 (p:=λf=>!(J2 n f)) t (λk I a0=>by simp only[hI k I a0];rfl) (by show (!(J2 n (n.y[(j:Int).toNat]'g)))=true;rw[ha];rfl)]at o;dsimp only at o;subst o;refine gD q F290 ?_;exact An 1001 (Eo Au) q_ vL gA
  |true=>
   rw[ha]at q;refine gD q F290 ?_;refine A8 (j+1) [] ⟨t,λk I a0=>?_⟩ j_ U;by_cases e:k=j
   .subst e;exact ha
   .exact hI k I j_
 .have bu:j=n.y.length:=qB h;clear h;have vy:n.y.find? (λf=>!(J2 n f))=none:=by
   rw[List.find?_eq_none];intro x hx;obtain ⟨k,I,rfl⟩:=wH hx;rw[hI k I j_];simp
  rw[vy]at o;dsimp only at o;clear hI hj bu vy;refine T ?_;refine X (Ad [(0,901),(1,902),(2,903),(3,904),(4,905),(5,906),(6,907),(7,908)] q_ F79 dr q_ W q_ V) ?_;refine Dc (λj:Nat=>j<=n.c.length) (λj=>[(1,.ref 8 (Aq n) 0),(2,.ptr 1001 0),(35,.sl 6 Ax n.c),(36,Aa n.c.length),(37,Aa j)]) (λj=>[(1001,.box [.osl 901,.osl 902,.osl 903,.osl 1004,.osl 905,.osl 906,.osl 907,.osl 908]),(901,.row 5 Bh n.j),(902,.row 7 Bm n.g),(903,.row 3 Dq n.x),(1004,.row 6 Ax (bC n j)),(905,.row 4 Bp n.ab),(906,.row 4 B6 n.y),(907,.row 5 D5 n.ag),(908,.row 5 Dx n.r)]) (λj=>n.c.length-j) 0 [(1004,904)] j_ ⟨kA,⟨.inl q_,q_,.inl q_,q_,.inl q_,q_,.inl q_,q_,.inl (zH (Ob.row 6 Ax) (A6d n)),q_,.inl q_,q_,.inl q_,q_,.inl q_,q_,.inl q_,q_,z_⟩,q_,q_⟩ ?_;intro j hj;have iq:=Ba4 n hj;refine gP ?_ ?_<;>intro h
  .have t:j<n.c.length:=qA h;have g:(j:Int).toNat<n.c.length:=t;clear h;have zx:(j:Int).toNat<(bC n j).length:=by rw[iq];exact g
   obtain ⟨P,m2⟩:=A6e n t zx;have a1:n.c[j]=(n.c[(j:Int).toNat]'g):=rfl;rw[a1]at P m2;have ag:bC n j≠[]:=λe=>by rw[e]at zx;cases zx
   have ql:=Aqf n r (n.c[(j:Int).toNat]'g).q (n.c[(j:Int).toNat]'g).ao;have R:=Iz.eq_1 n (n.c[(j:Int).toNat]'g);have yj:Oc n (n.c[(j:Int).toNat]'g).q (n.c[(j:Int).toNat]'g).ao<0\/∃k:Nat,Oc n (n.c[(j:Int).toNat]'g).q (n.c[(j:Int).toNat]'g).ao=k/\k<n.y.length:=by
    by_cases h:Oc n (n.c[(j:Int).toNat]'g).q (n.c[(j:Int).toNat]'g).ao<0
    .exact .inl h
    .exact .inr (Qp h)
   generalize Oc n (n.c[(j:Int).toNat]'g).q (n.c[(j:Int).toNat]'g).ao=lv at *;generalize a5:Iz n (n.c[(j:Int).toNat]'g)=ps at *;by_cases k1:(n.c[(j:Int).toNat]'g).ao=0
   .have g1:((n.c[(j:Int).toNat]'g).ao != 0)=false:=by rw[bne_eq_false_iff_eq];exact k1
    rw[zD (λh=>h.1 k1)]at R;subst R;refine T ?_;refine Ar 9 1 Aa q_ (C ql F291 ?_);refine⟨ag,?_⟩;refine T ?_;refine⟨(⟨(n.c[(j:Int).toNat]'g).q,(n.c[(j:Int).toNat]'g).z,(n.c[(j:Int).toNat]'g).ao,(n.c[(j:Int).toNat]'g).ar,(n.c[(j:Int).toNat]'g).row,[]⟩:A0),by rw[P];rfl,by rw[P];rfl,?_⟩;refine T ?_;exact A8 (j+1) [] t j_ ⟨kA,⟨.inl q_,q_,.inl q_,q_,.inl q_,q_,.inl q_,q_,.inl (zH (Ob.row 6 Ax) m2.symm),q_,.inl q_,q_,.inl q_,q_,.inl q_,q_,.inl q_,q_,z_⟩,q_,q_⟩
   have g1:((n.c[(j:Int).toNat]'g).ao != 0)=true:=by rw[xF];exact k1
   by_cases k2:lv<0
   .have g2:decide (lv>=0)=false:=zJ j_;rw[zD (λh=>by have:=h.2;omega)]at R;subst R;refine T ?_;refine Ar 9 1 Aa q_ (C ql F291 ?_);refine⟨ag,?_⟩;refine T ?_;refine⟨(⟨(n.c[(j:Int).toNat]'g).q,(n.c[(j:Int).toNat]'g).z,(n.c[(j:Int).toNat]'g).ao,(n.c[(j:Int).toNat]'g).ar,(n.c[(j:Int).toNat]'g).row,[]⟩:A0),by rw[P];rfl,by rw[P];rfl,?_⟩;refine T ?_;exact A8 (j+1) [] t j_ ⟨kA,⟨.inl q_,q_,.inl q_,q_,.inl q_,q_,.inl q_,q_,.inl (zH (Ob.row 6 Ax) m2.symm),q_,.inl q_,q_,.inl q_,q_,.inl q_,q_,.inl q_,q_,z_⟩,q_,q_⟩
   obtain ⟨m,hm,a2⟩:=yj.resolve_left k2;subst hm;clear yj;have g2:decide ((m:Int)>=0)=true:=zL j_;have i:(m:Int).toNat<n.y.length:=a2;rw[zE ⟨k1,by omega⟩,Aj i]at R;have a6:=Bcs n J _ (zI i);refine T ?_;refine Ct 9 1200 1 Aa q_ q_ (C ql F291 ?_);refine Bi 8 6 (Ax (n.c[(j:Int).toNat]'g)) q_ q_ q_ ?_;refine Dc (λk:Nat=>k<=(n.y[(m:Int).toNat]'i).aa.length) (λk=>[(1,.ref 8 (Aq n) 0),(2,.ptr 1001 0),(7,Aa j),(8,.ref 6 (Ax (n.c[(j:Int).toNat]'g)) 0),(9,.osl 1200),(35,.sl 6 Ax n.c),(36,Aa n.c.length),(37,Aa j),(60,.sl 1 Bo (n.y[(m:Int).toNat]'i).aa),(61,Aa (n.y[(m:Int).toNat]'i).aa.length),(62,Aa k)]) (λk=>[(1001,.box [.osl 901,.osl 902,.osl 903,.osl 1004,.osl 905,.osl 906,.osl 907,.osl 908]),(901,.row 5 Bh n.j),(902,.row 7 Bm n.g),(903,.row 3 Dq n.x),(1004,.row 6 Ax (bC n j)),(905,.row 4 Bp n.ab),(906,.row 4 B6 n.y),(907,.row 5 D5 n.ag),(908,.row 5 Dx n.r),(1200,.row 1 Aa (((n.y[(m:Int).toNat]'i).aa.take k).map (λa=>Xv n (Ig n a) (n.c[(j:Int).toNat]'g).ao)))]) (λk=>(n.y[(m:Int).toNat]'i).aa.length-k) 0 [] j_ U ?_;intro k I;refine gP ?_ ?_<;>intro h
   .have dp:k<(n.y[(m:Int).toNat]'i).aa.length:=qA h;have bh:(k:Int).toNat<(n.y[(m:Int).toNat]'i).aa.length:=dp;clear h;have qo:=Azt n r ((n.y[(m:Int).toNat]'i).aa[(k:Int).toNat]'bh);have qf:=Ab6 n r (Ig n ((n.y[(m:Int).toNat]'i).aa[(k:Int).toNat]'bh)) (n.c[(j:Int).toNat]'g).ao;have gp:((n.y[(m:Int).toNat]'i).aa.take (k+1)).map (λa=>Xv n (Ig n a) (n.c[(j:Int).toNat]'g).ao)=((n.y[(m:Int).toNat]'i).aa.take k).map (λa=>Xv n (Ig n a) (n.c[(j:Int).toNat]'g).ao)++[Xv n (Ig n ((n.y[(m:Int).toNat]'i).aa[(k:Int).toNat]'bh)) (n.c[(j:Int).toNat]'g).ao]:=by
     rw[zZ dp,wP];rfl
    have wq:(((n.y[(m:Int).toNat]'i).aa.take k).map (λa=>Xv n (Ig n a) (n.c[(j:Int).toNat]'g).ao)).length<=16:=by rw[yS,zY];omega
    refine gB qo F293 qf F292 ?_;refine Xd (Ah Γ.toTy 75 q_ q_ q_ q_ q_ (.row q_) (.lit (e:=Aa) (l:=[Xv n (Ig n ((n.y[(m:Int).toNat]'i).aa[(k:Int).toNat]'bh)) (n.c[(j:Int).toNat]'g).ao]) q_ q_) qq (by simp only[yD];omega) (by simp only[yD];omega)) ?_;refine T ?_;exact A8 (k+1) [(1200,75)] dp j_ ⟨kA,⟨.inl q_,q_,.inl q_,q_,.inl q_,q_,.inl q_,q_,.inl q_,q_,.inl q_,q_,.inl q_,q_,.inl q_,q_,.inl q_,q_,.inl (zH (Ob.row 1 Aa) gp),q_,z_⟩,q_,q_⟩
   .have uu:k=(n.y[(m:Int).toNat]'i).aa.length:=qB h;clear h;rw[uu,yM,<-R];refine Ao 1200 q_ (T ?_);refine⟨ag,?_⟩;refine T ?_;refine⟨(⟨(n.c[(j:Int).toNat]'g).q,(n.c[(j:Int).toNat]'g).z,(n.c[(j:Int).toNat]'g).ao,(n.c[(j:Int).toNat]'g).ar,(n.c[(j:Int).toNat]'g).row,ps⟩:A0),by rw[P];rfl,by rw[P];rfl,?_⟩;refine T ?_;exact A8 (j+1) [] t j_ ⟨kA,⟨.inl q_,q_,.inl q_,q_,.inl q_,q_,.inl q_,q_,.inl (zH (Ob.row 6 Ax) m2.symm),q_,.inl q_,q_,.inl q_,q_,.inl q_,q_,.inl q_,q_,z_⟩,q_,q_⟩
  .have bu:j=n.c.length:=qB h;clear h;subst bu;rw[Ba5];have qm:=A7 (Cv n) (Ai9 r J);refine T ?_;refine Ao 901 q_ (Ao 902 q_ ?_);refine Ao 903 q_ (Ao 1004 q_ ?_);refine Ao 905 q_ (Ao 906 q_ ?_);refine Ao 907 q_ (Ao 908 q_ ?_);cases hb:Ac (Cv n) with
   |false=>
    rw[hb]at qm;rw[hb,zE rfl]at o;subst o;refine C qm F49 ?_;exact An 1001 (Eo Au) q_ vL gA
   |true=>
    rw[hb]at qm;rw[hb,zD qx]at o;subst o;refine C qm F49 ?_;exact D
end
structure Ahf(x:Ai×Int):Prop where
 fin:x.1.Fin
 aa:Eb x.1
 none:x.2≠0->x.1=Au
def Qs:Au.Fin:=by
 constructor<;>first|(show (0:Nat)<2147483648;decide)|(intro p hp;cases hp)
def Ch(e:Int):Ahf (Au,e):=⟨Qs,(λx g=>by cases g),λ_=>rfl⟩
def Vb{n:Ai}(h:n.Fin)(a:Eb n):Ahf (n,0):=⟨h,a,λh=>zW rfl h⟩
def dZ{n:Ai}{l:A2}{k:Int}(h:¬Es n l k=false):n.j.length<=8/\n.g.length<=40/\n.x.length<=20/\n.c.length<=48/\n.ab.length<=64/\n.y.length<=48/\n.ag.length<=16/\n.r.length<=48:=by
 have h:Es n l k=true:=kS h;rw[Es,zG,zG]at h;have g:=h.2.2;simp only[Ac,zG]at g;have i:=g.1.1.1.1.1.1.1.1;simpa [Amh,and_assoc] using i
def Ado{n:Ai}{l:A2}{k:Int}(h:¬(Eh n l k).2≠0):n.j.length<=8/\n.g.length<=40/\n.x.length<=20/\n.c.length<=48/\n.ab.length<=64/\n.y.length<=48/\n.ag.length<=16/\n.r.length<=48:=by
 apply dZ (l:=l) (k:=k);intro g;rw[Eh,zE g]at h;exact h qq
def H3{k:Type}{l:List k}(h:l.length<=100000):At l:=by show l.length<2147483648;omega
def Agv(dev:Int):∀(l:List Int) (ds:List A0) (d:A0),d∈By dev ds l->d∈ds\/d.ae=[]
 |[],_,_,h=>.inl h
 |v::l,ds,d,h=>by
  rcases Agv dev l (D0 dev ds v) d h with h|h
  .unfold D0 at h;split at h
   .rcases yJ.1 h with h|h
    .exact .inl h
    .rw[zX.1 h];exact .inr rfl
   .exact .inl h
  .exact .inr h
def mem_set{k:Type}{l:List k}{i:Nat}{x y:k}(h:y∈l.set i x):y∈l\/y=x:=by
 rcases tA h with h|h
 .exact .inl h
 .exact .inr h
def Uq{k:Type}[Inhabited k]{l:List k}{i:Int}(h:i.toNat<l.length):Af l i∈l:=by rw[Aj h];exact zI h
def Als{n:Ai}{l:A2}(g:n.Fin)(i:Eb n):Ahf (Df n l):=by
 unfold Df;split
 .exact Ch _
 rename_i h;have:=dZ h;split
 .exact Ch _
 split
 .exact Ch _
 exact Vb {g with j:=H3 (by rw[zR,yD];omega)} i
def Atp{n:Ai}{l:A2}(g:n.Fin)(i:Eb n)(j:E7 l):Ahf (E4 n l):=by
 unfold E4;split
 .exact Ch _
 rename_i h;have:=dZ h;split
 .exact Ch _
 split
 .exact Ch _
 split
 .exact Ch _
 split
 .exact Ch _
 refine Vb {g with g:=H3 (by rw[zR,yD];omega),c:=H3 (by dsimp only;omega),u:=λp hp=>?_,ae:=λd o=>?_} i
 .rcases yJ.1 hp with hp|hp
  .exact g.u p hp
  .rw[zX.1 hp];exact H3 j.fin.t
 .rcases Agv _ _ _ _ o with h|h
  .exact g.ae d h
  .exact H3 (by rw[h];exact xV _)
def A2h{l:List D4}{i k:Int}{p:D4}(h:p∈Il l i k)(g:∀p∈l,At p.u):At p.u:=by
 by_cases hi:i.toNat<l.length
 .rcases mem_set h with h|h
  .exact g p h
  .rw[h];exact show At (Af l i).u from g _ (Uq hi)
 .rw[Il,uR j_]at h;exact g p h
def Atq{n:Ai}{l:A2}(g:n.Fin)(i:Eb n):Ahf (E5 n l):=by
 unfold E5;split
 .exact Ch _
 rename_i h;have:=dZ h;dsimp only;split
 .exact Ch _
 split
 .exact Ch _
 split
 .exact Ch _
 refine Vb {g with g:=H3 (by simp only[Il,yO];omega),x:=H3 (by rw[zR,yD];omega),u:=λp hp=>A2h hp λq j=>A2h j g.u} i
def Alr{n:Ai}{l:A2}(g:n.Fin)(i:Eb n):Ahf (De n l):=by
 unfold De;split
 .exact Ch _
 rename_i h;have:=dZ h;dsimp only;split
 .exact Ch _
 split
 .exact Ch _
 split
 .exact Ch _
 split
 .exact Ch _
 exact Vb {g with ab:=H3 (by rw[zR,yD];omega)} i
def Ato{n:Ai}{l:A2}(g:n.Fin)(i:Eb n):Ahf (E3 n l):=by
 unfold E3;split
 .exact Ch _
 rename_i h;have:=Ado h;dsimp only;split
 .exact Ch _
 exact Vb {g with j:=H3 (by simp only[S4,yO];omega)} i
def A3p{l:List A0}{i:Nat}{e d:A0}(h:d∈l.set i e)(j:i<l.length->At e.ae)(g:∀p∈l,At p.ae):At d.ae:=by
 by_cases hi:i<l.length
 .rcases mem_set h with h|h
  .exact g d h
  .rw[h];exact j hi
 .rw[uR j_]at h;exact g d h
def Azi{n:Ai}{l:A2}(g:n.Fin)(i:Eb n):Ahf (Iw n l):=by
 unfold Iw;split
 .exact Ch _
 rename_i h;have:=Ado h;dsimp only;split
 .exact Ch _
 split
 .exact Ch _
 split
 .exact Ch _
 exact Vb {g with c:=H3 (by simp only[yO];omega),ae:=λd j=>A3p j (λhi=>show At (Af n.c _).ae from g.ae _ (Uq hi)) g.ae} i
def Ap8{n:Ai}{l:A2}(g:n.Fin)(i:Eb n)(j:E7 l):Ahf (D1 n l):=by
 unfold D1;split
 .exact Ch _
 rename_i h;have:=Ado h;dsimp only;split
 .exact Ch _
 split
 .exact Ch _
 split
 .exact Ch _
 split
 .exact Ch _
 refine Vb {g with y:=H3 (by rw[zR,yD];omega),aa:=λp hp=>?_} i;rcases yJ.1 hp with hp|hp
 .exact g.aa p hp
 .rw[zX.1 hp];exact H3 j.fin.a
def Azh{n:Ai}{l:A2}(g:n.Fin)(o:Eb n)(j:E7 l):Ahf (Iv n l):=by
 unfold Iv;split
 .exact Ch _
 rename_i h;have:=Ado h;dsimp only;split
 .exact Ch _
 split
 .exact Ch _
 refine Vb {g with ag:=H3 (by rw[zR,yD];omega),ak:=λp hp=>?_,am:=λp hp=>?_} o
 .rcases yJ.1 hp with hp|hp
  .exact g.ak p hp
  .rw[zX.1 hp];exact H3 j.fin.i
 .rcases yJ.1 hp with hp|hp
  .exact g.am p hp
  .rw[zX.1 hp];exact H3 j.fin.e
def Azj{n:Ai}{l:A2}(i:n.Fin)(j:Eb n)(o:E7 l):Ahf (Iy n l):=by
 unfold Iy;split
 .exact Ch _
 rename_i h;have:=Ado h;dsimp only;split
 .exact Ch _
 split
 .exact Ch _
 split
 .exact Ch _
 refine Vb {i with c:=H3 (by simp only[yO];omega),ae:=λd p=>A3p p (λhi=>show At (Af n.c _).ae from i.ae _ (Uq hi)) i.ae,r:=H3 (by rw[zR,yD];omega)} λx g=>?_
 rcases yJ.1 g with g|g
 .exact j x g
 .rw[zX.1 g];exact o.ok.addr
def A2z{n:Ai}{l:A2}(g:n.Fin)(i:Eb n)(j:E7 l):Ahf (La n l):=by
 unfold La;split
 .exact Als g i
 split
 .exact Atp g i j
 split
 .exact Atq g i
 split
 .exact Alr g i
 split
 .exact Ato g i
 split
 .exact Azi g i
 split
 .exact Ap8 g i j
 split
 .exact Azh g i j
 split
 .exact Azj g i j
 exact Ch _
def Anj{n:Ai}(g:n.Fin):(Dj n).1.Fin:=by
 unfold Dj;split
 .exact Qs
 rename_i h;have h:Ac n=true:=kS h;split
 .exact Qs
 split
 .exact Qs
 exact Ai9 g h
def Mb{k:Type}[Inhabited k](l:List k)(x:k){i:Int}(h:i.toNat<l.length):Af (l++[x]) i=Af l i:=by
 rw[Af,Af,xM h]
def Jo{k:Type}[Inhabited k](l:List k)(x:k):Af (l++[x]) (l.length:Int)=x:=by
 rw[Af,yA,wD (yG _),uU];rfl
def Cy{i:Int}{k:Nat}:Am i k=true↔0<=i/\i<k:=by simp[Am]
def Lp{k:Type}[Inhabited k](l:List k)(x:k){i:Int}{j:Nat}(h:i.toNat≠j):Af (l.set j x) i=Af l i:=by
 rw[Af,Af,List.getElem?_set_ne (λe=>h e.symm)]
def Acd{k:Type}[Inhabited k](l:List k)(x:k){j:Nat}(h:j<l.length):Af (l.set j x) (j:Int)=x:=by
 rw[Af,yA,uF h];rfl
def Mk{k:Type}[Inhabited k](l:List k){i:Int}{j:Nat}(h:i.toNat=j):Af l i=Af l (j:Int):=by
 rw[Af,Af,h,yA]
def Xm{k:Type}[Inhabited k](l:List k)(i:Nat)(h:i<l.length):l[i]=Af l (i:Int):=(Aj (i:=(i:Int)) h).symm
structure Su(n:Ai):Prop where
 bq:Amh n=true
 bu:∀i:Nat,i<n.c.length->Wq n i (Af n.c i)=true
 ae:∀i:Nat,i<n.c.length->X2 n i (Af n.c i)=true
 ac:∀i:Nat,i<n.g.length->Qj n i (Af n.g i)=true
 ah:∀i:Nat,i<n.x.length->aU n i (Af n.x i)=true
 bm:∀i:Nat,i<n.ab.length->Tm n (Af n.ab i)=true
 br:∀i:Nat,i<n.y.length->Wn n (Af n.y i)=true
 bb:∀i:Nat,i<n.ag.length->Ar7 n (Af n.ag i)=true
 ar:∀i:Nat,i<n.r.length->Ajq n i (Af n.r i)=true
def Ak6{k:Type}[Inhabited k]{p:Nat->k->Bool}{l:List k}:Lu p l=true↔∀i:Nat,i<l.length->p i (Af l i)=true:=by
 rw[Cm];constructor
 .intro h i hi;rw[<-Xm l i hi];exact h i hi
 .intro h i hi;rw[Xm l i hi];exact h i hi
def Aui{n:Ai}:Ac n=true↔Su n:=by
 simp only[Ac,zG,Ak6];constructor
 .rintro ⟨⟨⟨⟨⟨⟨⟨⟨a,b⟩,c⟩,d⟩,e⟩,f⟩,g⟩,h⟩,i⟩;exact⟨a,b,c,d,e,f,g,h,i⟩
 .rintro ⟨a,b,c,d,e,f,g,h,i⟩;exact⟨⟨⟨⟨⟨⟨⟨⟨a,b⟩,c⟩,d⟩,e⟩,f⟩,g⟩,h⟩,i⟩
def Ko{n:Ai}{i:Nat}{d:A0}{k:Int}:Yn n i d k=true↔Am k n.c.length=true/\k≠i/\Am (Af n.c k).q n.j.length=true/\(Af n.c k).q≠d.q/\(Af n.c k).ao=d.ao/\d.ao≠0/\U0 n (Af n.c k)=true/\U0 n d=true/\Li (Af n.c k).ae i=true:=by
 simp only[Yn,zG,xF,yL,ne_eq];constructor
 .rintro ⟨⟨⟨⟨⟨⟨⟨⟨a,b⟩,c⟩,d⟩,e⟩,f⟩,g⟩,h⟩,i⟩;exact⟨a,b,c,d,e,f,g,h,i⟩
 .rintro ⟨a,b,c,d,e,f,g,h,i⟩;exact⟨⟨⟨⟨⟨⟨⟨⟨a,b⟩,c⟩,d⟩,e⟩,f⟩,g⟩,h⟩,i⟩
def T6{n m:Ai}{i:Nat}{d e:A0}(g:e.ae=d.ae)(h:X2 n i d=true)(hp:∀k,Yn n i d k=true->Yn m i e k=true):X2 m i e=true:=by
 rw[X2,g];rw[X2]at h;rw[Ak6]at h|-;intro j l;have:=h j l;rw[zG]at this|-;exact⟨hp _ this.1,this.2⟩
def Jq{n:Ai}{i:Nat}{d:A0}:Wq n i d=true↔Am d.q n.j.length=true/\(1<=d.z/\d.z<=4094)/\(0<=d.ao/\d.ao<=16777215)/\(d.ar=-1\/Am d.ar n.r.length=true/\(Af n.r d.ar).l=i)/\Ep n d.q d.z=i:=by
 simp only[Wq,zG,yR,zK,yL];constructor
 .rintro ⟨⟨⟨⟨⟨⟨a,b⟩,c⟩,d⟩,e⟩,f⟩,g⟩;exact⟨a,⟨b,c⟩,⟨d,e⟩,f,g⟩
 .rintro ⟨a,⟨b,c⟩,⟨d,e⟩,f,g⟩;exact⟨⟨⟨⟨⟨⟨a,b⟩,c⟩,d⟩,e⟩,f⟩,g⟩
def I6{n:Ai}{i:Nat}{p:D4}:Qj n i p=true↔Am p.q n.j.length=true/\(0<=p.native/\p.native<=4094)/\cA p.u 4094=true/\Li p.u p.native=false/\¬(p.native=0/\p.u=[])/\(∀v∈p.u,0<=Ep n p.q v) /\
  (0<p.native->0<=Ep n p.q p.native)/\(p.ah=-1\/Am p.ah n.x.length=true/\((Af n.x p.ah).a=i\/(Af n.x p.ah).b=i)):=by
 have e:Lu (λ_ v=>decide (0<=Ep n p.q v)) p.u=true↔∀v∈p.u,0<=Ep n p.q v:=by
  rw[Cm];simp only[zK];constructor
  .intro h v o;obtain ⟨j,l,rfl⟩:=yY.1 o;exact h j l
  .intro h j l;exact h _ (zI l)
 simp only[Qj,I8];simp only[zG,yR,e,xQ,Bool.not_true,Bool.and_eq_false_imp,zK,yC,yL,cA,wU];constructor
 .rintro ⟨⟨⟨⟨⟨⟨⟨⟨a,b⟩,c⟩,d⟩,e⟩,f⟩,g⟩,h⟩,i⟩;refine⟨a,⟨b,c⟩,d,e,λx=>f x.1 x.2,g,λx=>?_,i⟩;simpa using h x
 .rintro ⟨a,⟨b,c⟩,d,e,f,g,h,i⟩;refine⟨⟨⟨⟨⟨⟨⟨⟨a,b⟩,c⟩,d⟩,e⟩,λx y=>f ⟨x,y⟩⟩,g⟩,λx=>?_⟩,i⟩;simpa using h x
def Yu{n:Ai}{i:Nat}{l:eT}:aU n i l=true↔Am l.a n.g.length=true/\Am l.b n.g.length=true/\(Af n.g l.a).q≠(Af n.g l.b).q/\(Af n.g l.a).ah=i/\(Af n.g l.b).ah=i:=by
 simp only[aU,zG,xF,yL,ne_eq,and_assoc]
def H2{n:Ai}{s:I2}:Tm n s=true↔Am s.l n.c.length=true/\Am s.ac n.g.length=true/\(Af n.g s.ac).q=(Af n.c s.l).q/\Hk (Af n.g s.ac) (Af n.c s.l).z=true:=by
 simp only[Tm,zG,yL,and_assoc]
def Je{n:Ai}{i:Nat}{x:Irb}:Ajq n i x=true↔Am x.l n.c.length=true/\Am x.bb n.ag.length=true/\(Af n.c x.l).q=(Af n.ag x.bb).q/\(Af n.c x.l).ar=i/\1<=x.bits/\x.bits<=30:=by
 simp only[Ajq,zG,yL,zK,and_assoc]
def Wm{n:Ai}{f:Mg}:Wn n f=true↔Am f.q n.j.length=true/\f.aa.length<=16:=by simp[Wn]
def bH{n:Ai}{v:Vrf}:Ar7 n v=true↔Am v.q n.j.length=true/\cA v.ak 65535=true/\cA v.am 65535=true:=by simp[Ar7,and_assoc]
def Ed{n:Ai}:Amh n=true↔n.j.length<=8/\n.g.length<=40/\n.x.length<=20/\n.c.length<=48/\n.ab.length<=64/\n.y.length<=48/\n.ag.length<=16/\n.r.length<=48:=by
 simp[Amh,and_assoc]
def L1{i:Int}{k m:Nat}(h:Am i k=true)(g:k<=m):Am i m=true:=by
 rw[Cy]at h|-;omega
def Arn{n:Ai}(h:Su n)(x:Device)(t:n.j.length<8):Su {n with j:=n.j++[x]}:=by
 have hp:∀{i:Int},Am i n.j.length=true->Am i (n.j++[x]).length=true:=λh=>L1 h qx
 have j:∀d:A0,Am d.q n.j.length=true->U0 {n with j:=n.j++[x]} d=U0 n d:=λd l=>by
  have:=Cy.1 l;simp only[U0];rw[Mb _ _ j_]
 refine⟨?_,λi hi=>?_,λi hi=>?_,λi hi=>?_,h.ah,h.bm,λi hi=>?_,λi hi=>?_,h.ar⟩
 .have:=Ed.1 h.bq;exact Ed.2 (by simp only[zR,yD];omega)
 .have:=Jq.1 (h.bu i hi);exact Jq.2 ⟨hp this.1,this.2⟩
 .have o:=(Jq.1 (h.bu i hi)).1;refine T6 q_ (h.ae i hi) λk p=>?_
  obtain ⟨a,b,c,d,e,f,g,q,r⟩:=Ko.1 p;exact Ko.2 ⟨a,b,hp c,d,e,f,(j _ c).trans g,(j _ o).trans q,r⟩
 .have:=I6.1 (h.ac i hi);exact I6.2 ⟨hp this.1,this.2⟩
 .have:=Wm.1 (h.br i hi);exact Wm.2 ⟨hp this.1,this.2⟩
 .have:=bH.1 (h.bb i hi);exact bH.2 ⟨hp this.1,this.2⟩
def Apt{n:Ai}(h:Su n)(x:I2)(g:Tm n x=true)(j:n.ab.length<64):Su {n with ab:=n.ab++[x]}:=by
 refine⟨?_,h.bu,h.ae,h.ac,h.ah,λi hi=>?_,h.br,h.bb,h.ar⟩
 .have:=Ed.1 h.bq;exact Ed.2 (by simp only[zR,yD];omega)
 .simp only[zR,yD]at hi;by_cases e:i<n.ab.length
  .rw[show Af (n.ab++[x]) (i:Int)=Af n.ab (i:Int) from Mb _ _ e];exact h.bm i e
  .rw[show i=n.ab.length by omega,Jo];exact g
def Avy{n:Ai}(h:Su n)(x:Mg)(g:Wn n x=true)(j:n.y.length<48):Su {n with y:=n.y++[x]}:=by
 refine⟨?_,h.bu,h.ae,h.ac,h.ah,h.bm,λi hi=>?_,h.bb,h.ar⟩
 .have:=Ed.1 h.bq;exact Ed.2 (by simp only[zR,yD];omega)
 .simp only[zR,yD]at hi;by_cases e:i<n.y.length
  .rw[show Af (n.y++[x]) (i:Int)=Af n.y (i:Int) from Mb _ _ e];exact h.br i e
  .rw[show i=n.y.length by omega,Jo];exact g
def A39{n:Ai}(h:Su n)(x:Vrf)(g:Ar7 n x=true)(j:n.ag.length<16):Su {n with ag:=n.ag++[x]}:=by
 refine⟨?_,h.bu,h.ae,h.ac,h.ah,h.bm,h.br,λi hi=>?_,λi hi=>?_⟩
 .have:=Ed.1 h.bq;exact Ed.2 (by simp only[zR,yD];omega)
 .simp only[zR,yD]at hi;by_cases e:i<n.ag.length
  .rw[show Af (n.ag++[x]) (i:Int)=Af n.ag (i:Int) from Mb _ _ e];exact h.bb i e
  .rw[show i=n.ag.length by omega,Jo];exact g
 .obtain ⟨a,b,c,d,e⟩:=Je.1 (h.ar i hi);have l:=Cy.1 b;exact Je.2 ⟨a,L1 b qx,by rw[show Af (n.ag++[x]) (Af n.r (i:Int)).bb=Af n.ag (Af n.r (i:Int)).bb from Mb _ _ j_];exact c,d,e⟩
def Axp{n:Ai}(h:Su n)(j:Nat)(a:Int)(p:a≠0):Su {n with j:=n.j.set j {Af n.j j with aq:=a} }:=by
 have hp:(n.j.set j {Af n.j j with aq:=a}).length=n.j.length:=yO;have o:∀d:A0,U0 n d=true->U0 {n with j:=n.j.set j {Af n.j j with aq:=a} } d=true:=λd l=>by
  simp only[U0,xF,ne_eq]at l|-;by_cases e:d.q.toNat=j
  .by_cases t:j<n.j.length
   .have:Af (n.j.set j {Af n.j j with aq:=a}) d.q={Af n.j j with aq:=a}:=by
     rw[Af,e,uF t];rfl
    rw[this];exact p
   .rw[uR j_];exact l
  .rw[Lp _ _ e];exact l
 refine⟨?_,λi hi=>?_,λi hi=>?_,λi hi=>?_,h.ah,h.bm,λi hi=>?_,λi hi=>?_,h.ar⟩
 .have:=Ed.1 h.bq;exact Ed.2 (by rw[hp];exact this)
 .have:=Jq.1 (h.bu i hi);exact Jq.2 ⟨by rw[hp];exact this.1,this.2⟩
 .refine T6 q_ (h.ae i hi) λk I=>?_
  obtain ⟨a,b,c,d,e,f,g,q,r⟩:=Ko.1 I;exact Ko.2 ⟨a,b,by rw[hp];exact c,d,e,f,o _ g,o _ q,r⟩
 .have:=I6.1 (h.ac i hi);exact I6.2 ⟨by rw[hp];exact this.1,this.2⟩
 .have:=Wm.1 (h.br i hi);exact Wm.2 ⟨by rw[hp];exact this.1,this.2⟩
 .have:=bH.1 (h.bb i hi);exact bH.2 ⟨by rw[hp];exact this.1,this.2⟩
def Ajy{k:Type}(p:k->Bool)(l:List k)(j:Nat)(x:k)(h:∀y,l[j]? = some y->p x=p y):Bt p (l.set j x)=Bt p l:=by
 have e:(l.set j x).findIdx? p=l.findIdx? p:=by
  induction l generalizing j with
  |nil=>rfl
  |cons z l g=>
   cases j with
   |zero=>
    rw[uA,List.findIdx?_cons,List.findIdx?_cons,h z rfl]
   |succ j=>
    rw[List.set_cons_succ,List.findIdx?_cons,List.findIdx?_cons,g j (λy i=>h y (kS i))]
 rw[Bt,Bt,e]
def Awb{n:Ai}{j:Nat}(l:j<n.c.length)(x:A0)(o:x.q=(Af n.c j).q)(p:x.z=(Af n.c j).z)(m:Ai)(hm:m.c=n.c.set j x)(dev g:Int):Ep m dev g=Ep n dev g:=by
 rw[Ep,hm,Ajy _ _ _ _ (λy i=>?_)]
 .rfl
 .rw[zT l]at i;simp only[Option.some.injEq]at i;rw[Xm _ _ l]at i;rw[<-i,o,p]
def Ql{k:Type}[Inhabited k](l:List k)(x:k)(j:Nat)(i:Int)(f:k->Int)(g:f x=f (Af l j))(o:j<l.length):f (Af (l.set j x) i)=f (Af l i):=by
 by_cases e:i.toNat=j
 .have:Af (l.set j x) i=x:=by rw[Af,e,uF o];rfl
  have p:Af l i=Af l (j:Int):=Mk _ e;rw[this,p,g]
 .rw[Lp _ _ e]
def A4a{n:Ai}(h:Su n)(j:Nat)(l:j<n.c.length)(h0:(Af n.c j).ao=0)(v r:Int)(p:0<=v/\v<=16777215):Su {n with c:=n.c.set j {Af n.c j with ao:=v,row:=r} }:=by
 have o:(n.c.set j {Af n.c j with ao:=v,row:=r}).length=n.c.length:=yO;have P:=Awb (n:=n) l {Af n.c j with ao:=v,row:=r} rfl rfl {n with c:=n.c.set j {Af n.c j with ao:=v,row:=r} } rfl;have J:=λi=>Ql n.c {Af n.c j with ao:=v,row:=r} j i A0.q rfl l
 have R:=λi=>Ql n.c {Af n.c j with ao:=v,row:=r} j i A0.z rfl l
 have pq:=λi=>Ql n.c {Af n.c j with ao:=v,row:=r} j i A0.ar rfl l
 have ag:∀i:Nat,i≠j->Af (n.c.set j {Af n.c j with ao:=v,row:=r}) (i:Int)=Af n.c (i:Int):=λi hi=>Lp _ _ (by rw[yA];exact hi)
 refine⟨?_,λi hi=>?_,λi hi=>?_,λi hi=>?_,h.ah,λi hi=>?_,h.br,h.bb,λi hi=>?_⟩
 .have:=Ed.1 h.bq;exact Ed.2 (by rw[o];exact this)
 .rw[o]at hi;obtain ⟨a,b,c,d,e⟩:=Jq.1 (h.bu i hi);refine Jq.2 ⟨by rw[J];exact a,by rw[R];exact b,?_,by rw[pq];exact d,by rw[P,J,R];exact e⟩;by_cases t:i=j
  .subst t;show 0<=(Af (n.c.set i {Af n.c i with ao:=v,row:=r}) (i:Int)).ao/\(Af (n.c.set i {Af n.c i with ao:=v,row:=r}) (i:Int)).ao<=_;rw[Acd _ _ l];exact p
  .rw[ag i t];exact c
 .rw[o]at hi;have ku:=h.ae i hi;by_cases t:i=j
  .subst t;rw[Acd _ _ l];have:(Af n.c (i:Int)).ae=[]:=by
    cases hp:(Af n.c (i:Int)).ae with
    |nil=>rfl
    |cons k r=>
     rw[X2,hp,Ak6]at ku;have:=ku 0 qx;rw[zG]at this;exact zW h0 (Ko.1 this.1).2.2.2.2.2.1
   rw[X2];dsimp only;rw[this];rfl
  .rw[ag i t];refine T6 q_ ku λk hk=>?_
   obtain ⟨a,b,c,d,e,f,g,q,rr⟩:=Ko.1 hk;have hk:=Cy.1 a;have kj:k.toNat≠j:=λkj=>by
    have:Af n.c k=Af n.c (j:Int):=Mk _ kj;rw[this,h0]at e;exact f e.symm
   have I:Af (n.c.set j {Af n.c j with ao:=v,row:=r}) k=Af n.c k:=Lp _ _ kj;exact Ko.2 ⟨by rw[o];exact a,b,by rw[I];exact c,by rw[I];exact d,by rw[I];exact e,f,by rw[I];exact g,q,by rw[I];exact rr⟩
 .obtain ⟨a,b,c,d,e,f,g,q⟩:=I6.1 (h.ac i hi);exact I6.2 ⟨a,b,c,d,e,λv p=>by rw[P];exact f v p,λp=>by rw[P];exact g p,q⟩
 .obtain ⟨a,b,c,d⟩:=H2.1 (h.bm i hi);exact H2.2 ⟨by rw[o];exact a,b,by rw[J];exact c,by rw[R];exact d⟩
 .obtain ⟨a,b,c,d,e⟩:=Je.1 (h.ar i hi);exact Je.2 ⟨by rw[o];exact a,b,by rw[J];exact c,by rw[pq];exact d,e⟩
def A66{n:Ai}(h:Su n)(j:Nat)(t:j<n.c.length)(h0:(Af n.c j).ar<0)(x:Irb)(hx:x.l=j)(P:Am x.bb n.ag.length=true)(hd:(Af n.c j).q=(Af n.ag x.bb).q)(p:1<=x.bits/\x.bits<=30):Su {n with c:=n.c.set j {Af n.c j with ar:=n.r.length},r:=n.r++[x]}:=by
 have I:(n.c.set j {Af n.c j with ar:=n.r.length}).length=n.c.length:=yO;have kf:=Awb (n:=n) t {Af n.c j with ar:=n.r.length} rfl rfl {n with c:=n.c.set j {Af n.c j with ar:=n.r.length},r:=n.r++[x]} rfl;have J:=λi=>Ql n.c {Af n.c j with ar:=n.r.length} j i A0.q rfl t
 have jc:=λi=>Ql n.c {Af n.c j with ar:=n.r.length} j i A0.z rfl t
 have o:=λi=>Ql n.c {Af n.c j with ar:=n.r.length} j i A0.ao rfl t
 have gk:∀i,(Af (n.c.set j {Af n.c j with ar:=n.r.length}) i).ae=(Af n.c i).ae:=λi=>by
  by_cases e:i.toNat=j
  .have:Af (n.c.set j {Af n.c j with ar:=n.r.length}) i={Af n.c j with ar:=n.r.length}:=by rw[Af,e,uF t];rfl
   have h2:Af n.c i=Af n.c (j:Int):=Mk _ e;rw[this,h2]
  .rw[Lp _ _ e]
 have ag:∀i:Nat,i≠j->Af (n.c.set j {Af n.c j with ar:=n.r.length}) (i:Int)=Af n.c (i:Int):=λi hi=>Lp _ _ (by rw[yA];exact hi)
 have r6:Af (n.c.set j {Af n.c j with ar:=n.r.length}) (j:Int)={Af n.c j with ar:=n.r.length}:=Acd _ _ t;have ji:n.r.length<48:=by
  have hf:=Ed.1 h.bq;refine xB ?_ hf.2.2.2.1;have inj:∀a b:Nat,a<n.r.length->b<n.r.length->(Af n.r (a:Int)).l=(Af n.r (b:Int)).l->a=b:=λa b l p e=>by
   have h1:=(Je.1 (h.ar a l)).2.2.2.1;have h2:=(Je.1 (h.ar b p)).2.2.2.1;rw[e,h2]at h1;omega
  have a6:((List.range n.r.length).map λa:Nat=>(Af n.r (a:Int)).l.toNat).length<=((List.range n.c.length).erase j).length:=by
   refine List.Nodup.length_le_of_subset ?_ ?_
   .rw[List.nodup_iff_pairwise_ne,List.pairwise_map];refine List.Pairwise.imp_of_mem ?_ List.pairwise_lt_range;intro a b l p a1 e;have l:=xD.1 l;have p:=xD.1 p;have p1:=Cy.1 (Je.1 (h.ar a l)).1;have p2:=Cy.1 (Je.1 (h.ar b p)).1;have:=inj a b l p j_;omega
   .intro y hy;obtain ⟨a,l,rfl⟩:=yT.1 hy;have l:=xD.1 l;have p1:=Cy.1 (Je.1 (h.ar a l)).1;have p2:=(Je.1 (h.ar a l)).2.2.2.1;rw[List.mem_erase_of_ne]
    .exact xD.2 j_
    .intro e;have:Af n.c (Af n.r (a:Int)).l=Af n.c (j:Int):=Mk _ e;rw[this]at p2;omega
  rw[yS,vT,List.length_erase_of_mem (xD.2 t),vT]at a6;omega
 refine⟨?_,λi hi=>?_,λi hi=>?_,λi hi=>?_,h.ah,λi hi=>?_,h.br,h.bb,λi hi=>?_⟩
 .have:=Ed.1 h.bq;exact Ed.2 (by rw[I];simp only[zR,yD];omega)
 .rw[I]at hi;obtain ⟨a,b,c,d,e⟩:=Jq.1 (h.bu i hi);refine Jq.2 ⟨by rw[J];exact a,by rw[jc];exact b,by rw[o];exact c,?_,by rw[kf,J,jc];exact e⟩;by_cases ij:i=j
  .subst ij;rw[r6];refine .inr ⟨Cy.2 kO,?_⟩;show (Af (n.r++[x]) (n.r.length:Int)).l=_;rw[Jo,hx]
  .rw[ag i ij];rcases d with d|⟨d1,d2⟩
   .exact .inl d
   .have:=Cy.1 d1;exact .inr ⟨L1 d1 qx,by rw[show Af (n.r++[x]) (Af n.c (i:Int)).ar=Af n.r (Af n.c (i:Int)).ar from Mb _ _ j_];exact d2⟩
 .rw[I]at hi;refine T6 (gk _) (h.ae i hi) λk hk=>?_
  obtain ⟨a,b,c,d,e,f,g,q,r⟩:=Ko.1 hk;have R:∀k,U0 {n with c:=n.c.set j {Af n.c j with ar:=n.r.length},r:=n.r++[x]} (Af (n.c.set j {Af n.c j with ar:=n.r.length}) k)=U0 n (Af n.c k):=λk=>by
   simp only[U0];rw[J]
  exact Ko.2 ⟨by rw[I];exact a,b,by rw[J];exact c,by rw[J,J];exact d,by rw[o,o];exact e,by rw[o];exact f,(R k).trans g,(R i).trans q,by rw[gk];exact r⟩
 .obtain ⟨a,b,c,d,e,f,g,q⟩:=I6.1 (h.ac i hi);exact I6.2 ⟨a,b,c,d,e,λv P=>by rw[kf];exact f v P,λP=>by rw[kf];exact g P,q⟩
 .obtain ⟨a,b,c,d⟩:=H2.1 (h.bm i hi);exact H2.2 ⟨by rw[I];exact a,b,by rw[J];exact c,by rw[jc];exact d⟩
 .simp only[zR,yD]at hi;by_cases e:i<n.r.length
  .rw[show Af (n.r++[x]) (i:Int)=Af n.r (i:Int) from Mb _ _ e];obtain ⟨a,b,c,d,e⟩:=Je.1 (h.ar i e);have pa:=Cy.1 a;have a0:(Af n.r (i:Int)).l.toNat≠j:=λe=>by
    have:Af n.c (Af n.r (i:Int)).l=Af n.c (j:Int):=Mk _ e;rw[this]at d;omega
   have hk:Af (n.c.set j {Af n.c j with ar:=n.r.length}) (Af n.r (i:Int)).l=Af n.c (Af n.r (i:Int)).l:=Lp _ _ a0;exact Je.2 ⟨by rw[I];exact a,b,by rw[hk];exact c,by rw[hk];exact d,e⟩
  .rw[show i=n.r.length by omega,Jo];refine Je.2 ⟨by rw[I];exact Cy.2 j_,P,?_,?_,p⟩
   .rw[hx,r6];exact hd
   .rw[hx,r6]
def Mq{k:Type}{p:k->Bool}{l:List k}:0<=Bt p l↔l.any p=true:=by
 rw[wA];constructor
 .intro h;cases g:l.findIdx? p with
  |none=>simp only[Bt,g]at h;omega
  |some i=>
   rw[wJ]at g;obtain ⟨j,o,_⟩:=g;exact⟨l[i],zI j,o⟩
 .rintro ⟨x,r,hp⟩;cases g:l.findIdx? p with
  |none=>
   rw[List.findIdx?_eq_none_iff]at g;rw[g x r]at hp;cases hp
  |some i=>simp only[Bt,g];omega
def Jf{k:Type}[Inhabited k]{p:k->Bool}{l:List k}(h:0<=Bt p l):(Bt p l).toNat<l.length/\p (Af l (Bt p l))=true:=by
 cases g:l.findIdx? p with
 |none=>simp only[Bt,g]at h;omega
 |some i=>
  have e:Bt p l=i:=by simp only[Bt,g]
  rw[wJ]at g;obtain ⟨j,o,_⟩:=g;rw[e,yA];refine⟨j,?_⟩;rw[<-Xm l i j];exact o
def dF{k:Type}(p:k->Bool)(l e:List k)(h:0<=Bt p l):Bt p (l++e)=Bt p l:=by
 cases g:l.findIdx? p with
 |none=>simp only[Bt,g]at h;omega
 |some i=>
  have:(l++e).findIdx? p=some i:=by rw[List.findIdx?_append,g];rfl
  simp only[Bt,g,this]
def Yy{k:Type}(p:k->Bool)(l:List k)(x:k)(h:l.any p=false)(o:p x=true):Bt p (l++[x])=l.length:=by
 refine Dz (j:=l.length) qx (λi hi g=>?_) ?_
 .rw[yZ g];rw[wE]at h;have:=h l[i] (zI g);simpa using this
 .rw[xW (yG _)];simpa using o
def Arh{n:Ai}(h:Su n)(dev v:Int)(P:Am dev n.j.length=true)(j:1<=v/\v<=4094)(J:n.c.any (λd=>d.q==dev&&d.z==v)=false)(m:Ai)(hm:m={n with c:=n.c++[⟨dev,v,0,-1,0,[]⟩]})(hl:n.c.length<48):Su m:=by
 subst hm;have l:∀{i:Int},i.toNat<n.c.length->Af (n.c++[(⟨dev,v,0,-1,0,[]⟩:A0)]) i=Af n.c i:=λh=>Mb _ _ h
 have p:∀{i:Nat},i<n.c.length->Af (n.c++[(⟨dev,v,0,-1,0,[]⟩:A0)]) (i:Int)=Af n.c (i:Int):=λh=>Mb _ _ h
 have I:∀a b,0<=Ep n a b->Ep {n with c:=n.c++[⟨dev,v,0,-1,0,[]⟩]} a b=Ep n a b:=λa b h=>dF _ _ _ h
 refine⟨?_,λi hi=>?_,λi hi=>?_,λi hi=>?_,h.ah,λi hi=>?_,h.br,h.bb,λi hi=>?_⟩
 .have:=Ed.1 h.bq;exact Ed.2 (by simp only[zR,yD];omega)
 .simp only[zR,yD]at hi;by_cases e:i<n.c.length
  .rw[p e];obtain ⟨a,b,c,d,f⟩:=Jq.1 (h.bu i e);exact Jq.2 ⟨a,b,c,d,by rw[I _ _ j_];exact f⟩
  .rw[show i=n.c.length by omega,Jo];refine Jq.2 ⟨P,j,⟨wB _,by show (0:Int)<=_;decide⟩,.inl q_,?_⟩;exact Yy _ _ _ J qx
 .simp only[zR,yD]at hi;by_cases e:i<n.c.length
  .rw[p e];refine T6 q_ (h.ae i e) λk R=>?_
   obtain ⟨a,b,c,d,f,g,o,q,r⟩:=Ko.1 R;have J:=Cy.1 a;exact Ko.2 ⟨L1 a qx,b,by rw[l j_];exact c,by rw[l j_];exact d,by rw[l j_];exact f,g,by rw[l j_];exact o,q,by rw[l j_];exact r⟩
  .rw[show i=n.c.length by omega,Jo];rfl
 .obtain ⟨a,b,c,d,e,f,g,q⟩:=I6.1 (h.ac i hi);exact I6.2 ⟨a,b,c,d,e,λv j=>by rw[I _ _ (f v j)];exact f v j,λj=>by rw[I _ _ (g j)];exact g j,q⟩
 .obtain ⟨a,b,c,d⟩:=H2.1 (h.bm i hi);have pa:=Cy.1 a;have t:=l (i:=(Af n.ab (i:Int)).l) j_;exact H2.2 ⟨L1 a qx,b,c.trans (zH A0.q t).symm,by have:=d;rw[<-zH A0.z t]at this;exact this⟩
 .obtain ⟨a,b,c,d,e⟩:=Je.1 (h.ar i hi);have pa:=Cy.1 a;have t:=l (i:=(Af n.r (i:Int)).l) j_;exact Je.2 ⟨L1 a qx,b,(zH A0.q t).trans c,(zH A0.ar t).trans d,e⟩
def Agw(dev:Int):∀(l:List Int) (ds:List A0),ds.length<=(By dev ds l).length
 |[],ds=>yG _
 |v::l,ds=>by
  refine wI ?_ (Agw dev l (D0 dev ds v));rw[D0];split<;>simp
def nX{dev:Int}:∀(l:List Int) (n:Ai),Su n->Am dev n.j.length=true->(∀v∈l,v<=4094)->(By dev n.c l).length<=48->Su {n with c:=By dev n.c l}/\∀v∈l,0<v->0<=Ep {n with c:=By dev n.c l} dev v
 |[],n,h,_,_,_=>⟨h,λv o=>by cases o⟩
 |v::l,n,h,t,o,r=>by
  have g:=Agw dev l (D0 dev n.c v);have e:By dev n.c (v::l)=By dev (D0 dev n.c v) l:=rfl;rw[e]at r|-;have I:Su {n with c:=D0 dev n.c v}/\(0<v->0<=Ep {n with c:=D0 dev n.c v} dev v):=by
   rw[D0]at g|-;split
   .rename_i i;rw[zE i]at g;refine⟨Arh h dev v t ⟨by omega,o v qx⟩ i.2 _ q_ ?_,λ_=>?_⟩
    .have J:=r;rw[D0,zE i]at J;simp only[zR,yD]at g;omega
    .rw[Ep,Yy _ _ _ i.2 qx];omega
   .rename_i i;refine⟨h,λp=>?_⟩;have:n.c.any (λd=>d.q==dev&&d.z==v)=true:=by
     cases P:n.c.any (λd=>d.q==dev&&d.z==v)
     .exact zW ⟨p,P⟩ i
     .rfl
    exact Mq.2 this
  obtain ⟨R,r2⟩:=nX l {n with c:=D0 dev n.c v} I.1 t (λx j=>o x (by simp[j])) r;refine⟨R,λx j p=>?_⟩;rcases yH.1 j with rfl|j
  .have h2:=I.2 p;have:∀(l:List Int) (ds:List A0),0<=Bt (λd:A0=>d.q==dev&&d.z==x) ds->0<=Bt (λd:A0=>d.q==dev&&d.z==x) (By dev ds l):=by
    intro l
    induction l with
    |nil=>exact λds h=>h
    |cons y l ih=>
     intro ds h;refine ih (D0 dev ds y) ?_;rw[D0];split
     .rw[dF _ _ _ h];exact h
     .exact h
   exact this l _ h2
  .exact r2 x j p
def Azl{n:Ai}(h:Su n)(p:D4)(hp:Qj n n.g.length p=true)(r:n.g.length<40):Su {n with g:=n.g++[p]}:=by
 have j:∀{i:Int},i.toNat<n.g.length->Af (n.g++[p]) i=Af n.g i:=λh=>Mb _ _ h
 refine⟨?_,h.bu,h.ae,λi hi=>?_,λi hi=>?_,λi hi=>?_,h.br,h.bb,h.ar⟩
 .have:=Ed.1 h.bq;exact Ed.2 (by simp only[zR,yD];omega)
 .simp only[zR,yD]at hi;by_cases e:i<n.g.length
  .have g:Af (n.g++[p]) (i:Int)=Af n.g (i:Int):=j (i:=(i:Int)) e;rw[g];exact h.ac i e
  .rw[show i=n.g.length by omega,Jo];exact hp
 .obtain ⟨a,b,c,d,e⟩:=Yu.1 (h.ah i hi);have t:=Cy.1 a;have o:=Cy.1 b;have g:=j (i:=(Af n.x (i:Int)).a) j_;have l:=j (i:=(Af n.x (i:Int)).b) j_;exact Yu.2 ⟨L1 a qx,L1 b qx,λx=>c ((zH D4.q g).symm.trans (x.trans (zH D4.q l))),(zH D4.ah g).trans d,(zH D4.ah l).trans e⟩
 .obtain ⟨a,b,c,d⟩:=H2.1 (h.bm i hi);have o:=Cy.1 b;have g:=j (i:=(Af n.ab (i:Int)).ac) j_;exact H2.2 ⟨a,L1 b qx,(zH D4.q g).trans c,by have:=d;rw[<-g]at this;exact this⟩
def A0c{n:Ai}(h:Su n)(a b:Nat)(ha:a<n.g.length)(hb:b<n.g.length)(hd:(Af n.g a).q≠(Af n.g b).q)(h1:(Af n.g a).ah<0)(h2:(Af n.g b).ah<0)(row:Int)(hl:n.x.length<20):Su {n with g:=Il (Il n.g a n.x.length) b n.x.length,x:=n.x++[⟨row,a,b⟩]}:=by
 have a0:a≠b:=λe=>hd (by rw[e])
 have g:(Il (Il n.g a n.x.length) b n.x.length).length=n.g.length:=by simp[Il]
 have P:∀i:Int,i.toNat≠a->i.toNat≠b->Af (Il (Il n.g a n.x.length) b n.x.length) i=Af n.g i:=λi x y=>by
  rw[Il,yA,Lp _ _ y,Il,yA,Lp _ _ x]
 have R:∀i:Int,i.toNat=a->Af (Il (Il n.g a n.x.length) b n.x.length) i={Af n.g a with ah:=n.x.length}:=λi x=>by
  rw[Il,yA,Lp _ _ j_,Il,yA,Af,x,uF ha];rfl
 have yc:∀i:Int,i.toNat=b->Af (Il (Il n.g a n.x.length) b n.x.length) i={Af n.g b with ah:=n.x.length}:=λi x=>by
  have e:Af (Il n.g a n.x.length) (b:Int)=Af n.g b:=by rw[Il,yA,Lp _ _ (by rw[yA];omega)]
  rw[Il,yA,e,Af,x,uF (by rw[Il,yO];exact hb)];rfl
 have same:∀{m:Type} (f:D4->m),(∀p k,f {p with ah:=k}=f p)->∀i:Int,f (Af (Il (Il n.g a n.x.length) b n.x.length) i)=f (Af n.g i):=λf hf i=>by
  by_cases x:i.toNat=a
  .rw[R i x,hf,Af,Af,x,yA]
  .by_cases y:i.toNat=b
   .rw[yc i y,hf,Af,Af,y,yA]
   .rw[P i x y]
 have j:=same D4.q (λ_ _=>rfl);have I:=same D4.native (λ_ _=>rfl);have st:=same D4.u (λ_ _=>rfl);have sm:=same (λp v=>Hk p v) (λ_ _=>rfl);refine⟨?_,h.bu,h.ae,λi hi=>?_,λi hi=>?_,λi hi=>?_,h.br,h.bb,h.ar⟩
 .have:=Ed.1 h.bq;exact Ed.2 (by rw[g];simp only[zR,yD];omega)
 .rw[g]at hi;obtain ⟨o,r,t,l,J,c6,c7,c8⟩:=I6.1 (h.ac i hi);refine I6.2 ⟨by rw[j];exact o,by rw[I];exact r,by rw[st];exact t,by rw[st,I];exact l,by rw[I,st];exact J,by rw[st,j];exact c6,by rw[I,j];exact c7,?_⟩;have nl:Af (n.x++[(⟨row,a,b⟩:eT)]) (n.x.length:Int)=⟨row,a,b⟩:=Jo _ _;by_cases x:i=a
  .rw[R i (by rw[yA];exact x)];refine .inr ⟨Cy.2 kO,.inl ?_⟩;show (Af (n.x++[(⟨row,a,b⟩:eT)]) (n.x.length:Int)).a=_;rw[nl,x]
  .by_cases y:i=b
   .rw[yc i (by rw[yA];exact y)];refine .inr ⟨Cy.2 kO,.inr ?_⟩;show (Af (n.x++[(⟨row,a,b⟩:eT)]) (n.x.length:Int)).b=_;rw[nl,y]
   .rw[P i (by rw[yA];exact x) (by rw[yA];exact y)];rcases c8 with c8|⟨d1,d2⟩
    .exact .inl c8
    .have pd:=Cy.1 d1;exact .inr ⟨L1 d1 qx,by rw[show Af (n.x++[(⟨row,a,b⟩:eT)]) (Af n.g (i:Int)).ah=Af n.x (Af n.g (i:Int)).ah from Mb _ _ j_];exact d2⟩
 .simp only[zR,yD]at hi;by_cases e:i<n.x.length
  .rw[show Af (n.x++[(⟨row,a,b⟩:eT)]) (i:Int)=Af n.x (i:Int) from Mb _ _ e];obtain ⟨o,r,t,l,J⟩:=Yu.1 (h.ah i e);have off:∀k:Int,(Af n.g k).ah=(i:Int)->Af (Il (Il n.g a n.x.length) b n.x.length) k=Af n.g k:=λk hk=>by
    refine P k (λx=>?_) (λx=>?_)
    .have:Af n.g k=Af n.g (a:Int):=Mk _ x;rw[this]at hk;omega
    .have:Af n.g k=Af n.g (b:Int):=Mk _ x;rw[this]at hk;omega
   exact Yu.2 ⟨by rw[g];exact o,by rw[g];exact r,by rw[j,j];exact t,by rw[off _ l];exact l,by rw[off _ J];exact J⟩
  .rw[show i=n.x.length by omega,Jo];refine Yu.2 ⟨by rw[g];exact Cy.2 ⟨by show (0:Int)<=(a:Int);omega,by show (a:Int)<_;omega⟩,by rw[g];exact Cy.2 ⟨by show (0:Int)<=(b:Int);omega,by show (b:Int)<_;omega⟩,by rw[j,j];exact hd,?_,?_⟩
   .rw[R (a:Int) (yA a)]
   .rw[yc (b:Int) (yA b)]
 .obtain ⟨o,r,t,l⟩:=H2.1 (h.bm i hi);refine H2.2 ⟨o,by rw[g];exact r,by rw[j];exact t,?_⟩;have:=sm (Af n.ab (i:Int)).ac;exact(congrFun this _).trans l
def Y3{n:Ai}{l:A2}{k:Int}(h:¬Es n l k=false):l.kind=k/\(Cq l).2=true/\Su n:=by
 have h:Es n l k=true:=kS h;simp only[Es,Hp,zG,yL]at h;exact⟨h.1,h.2.1.1,Aui.1 h.2.2⟩
def Vr{n:Ai}{l:A2}{k:Int}(h:¬(Eh n l k).2≠0):l.kind=k/\(Cq l).2=true/\Su n/\0<=Cg n l.q/\(Cg n l.q).toNat<n.j.length/\(Eh n l k).1=Cg n l.q:=by
 rw[Eh]at h|-;split at h
 .simp at h
 .rename_i g;rw[zD g];split at h
  .simp at h
  .rename_i i;rw[zD i];obtain ⟨a,b,c⟩:=Y3 g;exact⟨a,b,c,by omega,(Jf (p:=λd:Device=>d.name==l.q) (by show 0<=Cg n l.q;omega)).1,q_⟩
def A6o{l:List Int}{v:Int}:Li l v=l.contains v:=by
 induction l with
 |nil=>rfl
 |cons x l g=>
  rw[Li,tZ,List.contains_cons];rw[Li]at g;rw[g];congr 1;exact Bool.beq_comm
def A5q{n:Ai}{l:A2}(h:(La n l).2=0):Su (La n l).1:=by
 rw[La]at h|-;by_cases k1:l.kind=1
 .rw[zE k1]at h|-;rw[Df]at h|-
  repeat' split at h
  all_goals (try (simp at h;done))
  rename_i g t r;rw[zD g,zD t,zD r];obtain ⟨_,_,i⟩:=Y3 g;have:=Ed.1 i.bq;exact Arn i _ j_
 rw[zD k1]at h|-;by_cases k2:l.kind=2
 .rw[zE k2]at h|-;rw[E4]at h|-
  repeat' split at h
  all_goals (try (simp at h;done))
  rename_i g t r I h5;rw[zD g,zD t,zD r,zD I,zD h5];obtain ⟨_,o,i⟩:=Y3 g;have hf:=Ed.1 i.bq;simp only[Cq,zD k1,zE k2,zG]at o;obtain ⟨u1,u2,u3,u4,u5⟩:=o;have J:=within_iff.1 u3;have hp:=(Jf (p:=λd:Device=>d.name==l.q) (l:=n.j) (by show 0<=Cg n l.q;omega)).1;have bd:Am (Cg n l.q) n.j.length=true:=Cy.2 ⟨by omega,by have:(Cg n l.q).toNat<n.j.length:=hp;omega⟩;have r7:∀v∈l.u,1<=v/\v<=4094:=λv J=>by
   rcases Aad.1 u4 with e|e
   .rw[e]at J;cases J
   .exact(oS.1 e).2.1 v J
  obtain ⟨r1,r2⟩:=nX (l.z::l.u) n i bd (λ v J=>by
   rcases yH.1 J with rfl|J
   .omega
   .exact(r7 v J).2) j_
  refine Azl r1 _ (I6.2 ⟨bd,J,u4,?_,?_,λv J=>r2 v (by simp[J]) (by have:=r7 v J;omega),λh0=>r2 _ qx h0,.inl q_⟩) (by show n.g.length<40;omega)
  .simp only[Cs,zG,xQ,Bool.not_true]at u5;rw[A6o];exact u5.2
  .rintro ⟨e1,e2⟩;dsimp only at e1 e2;simp[Cs,e1,e2]at u5
 rw[zD k2]at h|-;by_cases k3:l.kind=3
 .rw[zE k3]at h|-;rw[E5]at h|-;dsimp only at h|-
  repeat' split at h
  all_goals (try (simp at h;done))
  rename_i g t r I;rw[zD g,zD t,zD r,zD I];obtain ⟨_,o,i⟩:=Y3 g;have hf:=Ed.1 i.bq;have gv:∀d p,0<=Aap n d p->(Aap n d p).toNat<n.g.length:=λd p h=>by
   rw[Aap]at h|-;split at h
   .omega
   .rename_i hx;rw[zD hx];exact(Jf h).1
  have ha:=gv l.q l.ac j_;have hb:=gv l.peer l.bi j_;generalize Aap n l.q l.ac=a at *;generalize Aap n l.peer l.bi=b at *;obtain ⟨a,rfl⟩:∃k:Nat,a=k:=⟨a.toNat,by omega⟩
  obtain ⟨b,rfl⟩:∃k:Nat,b=k:=⟨b.toNat,by omega⟩
  rw[yA]at ha hb;simp only[vY]at r;exact A0c i a b ha hb r.1 j_ j_ l.row j_
 rw[zD k3]at h|-;by_cases k4:l.kind=4
 .rw[zE k4]at h|-;rw[De]at h|-;dsimp only at h|-
  repeat' split at h
  all_goals (try (simp at h;done))
  rename_i g t r I h5;rw[zD g,zD t,zD r,zD I,zD h5];obtain ⟨_,o,i⟩:=Y3 g;have hf:=Ed.1 i.bq;simp only[vY]at t r;have p1:=Jf (p:=λp:D4=>p.q==Cg n l.q&&p.name==l.ac) (l:=n.g) (by show 0<=L4 n (Cg n l.q) l.ac;omega);have p2:=Jf (p:=λd:A0=>d.q==Cg n l.q&&d.z==l.z) (l:=n.c) (by show 0<=Ep n (Cg n l.q) l.z;omega);obtain ⟨a1,a2⟩:=p1;obtain ⟨R,b2⟩:=p2;have a1:(L4 n (Cg n l.q) l.ac).toNat<n.g.length:=a1;have R:(Ep n (Cg n l.q) l.z).toNat<n.c.length:=R;simp only[zG,yL]at a2 b2;have a2:(Af n.g (L4 n (Cg n l.q) l.ac)).q=Cg n l.q:=a2.1;have b2:(Af n.c (Ep n (Cg n l.q) l.z)).q=Cg n l.q/\(Af n.c (Ep n (Cg n l.q) l.z)).z=l.z:=b2;refine Apt i _ (H2.2 ⟨Cy.2 ⟨?_,?_⟩,Cy.2 ⟨?_,?_⟩,?_,?_⟩) j_
  .show 0<=Ep n (Cg n l.q) l.z;omega
  .show Ep n (Cg n l.q) l.z<_;omega
  .show 0<=L4 n (Cg n l.q) l.ac;omega
  .show L4 n (Cg n l.q) l.ac<_;omega
  .exact a2.trans b2.1.symm
  .show Hk _ (Af n.c (Ep n (Cg n l.q) l.z)).z=true;rw[b2.2];simpa using r.2
 rw[zD k4]at h|-;by_cases k5:l.kind=5
 .rw[zE k5]at h|-;rw[E3]at h|-;dsimp only at h|-;by_cases g:(Eh n l 5).2≠0
  .rw[zE g]at h;exact zW h g
  rw[zD g]at h|-;split at h
  .simp at h
  rename_i t;rw[zD t];obtain ⟨_,o,i,d0,d1,P⟩:=Vr g;simp only[Cq,zD k1,zD k2,zD k3,zD k4,zE k5,zK]at o;rw[P];have:=Axp i (Cg n l.q).toNat l.addr o;rw[yQ d0]at this;exact this
 rw[zD k5]at h|-;by_cases k6:l.kind=6
 .rw[zE k6]at h|-;rw[Iw]at h|-;dsimp only at h|-;by_cases g:(Eh n l 6).2≠0
  .rw[zE g]at h;exact zW h g
  rw[zD g]at h|-;obtain ⟨_,o,i,d0,d1,P⟩:=Vr g;rw[P]at h|-
  repeat' split at h
  all_goals (try (simp at h;done))
  rename_i t r I;rw[zD t,zD r,zD I];simp only[Cq,zD k1,zD k2,zD k3,zD k4,zD k5,zE k6,zG]at o;have J:=within_iff.1 o.2;have R:(Ep n (Cg n l.q) l.z).toNat<n.c.length:=(Jf (p:=λd:A0=>d.q==Cg n l.q&&d.z==l.z) (l:=n.c) (by show 0<=Ep n (Cg n l.q) l.z;omega)).1;simp only[vY,Decidable.not_not]at I;generalize Ep n (Cg n l.q) l.z=j at *;obtain ⟨j,rfl⟩:∃k:Nat,j=k:=⟨j.toNat,by omega⟩
  rw[yA]at R|-;exact A4a i j R I.1 l.num l.row ⟨by omega,J.2⟩
 rw[zD k6]at h|-;by_cases k7:l.kind=7
 .rw[zE k7]at h|-;rw[D1]at h|-;dsimp only at h|-;by_cases g:(Eh n l 7).2≠0
  .rw[zE g]at h;exact zW h g
  rw[zD g]at h|-;obtain ⟨_,o,i,d0,d1,P⟩:=Vr g;rw[P]at h|-
  repeat' split at h
  all_goals (try (simp at h;done))
  rename_i t r I h5;rw[zD t,zD r,zD I,zD h5];have hf:=Ed.1 i.bq;simp only[Cq,zD k1,zD k2,zD k3,zD k4,zD k5,zD k6,zE k7,zG,Sr,zK]at o;exact Avy i _ (Wm.2 ⟨Cy.2 ⟨d0,by show Cg n l.q<_;omega⟩,o.2.2.2⟩) j_
 rw[zD k7]at h|-;by_cases k8:l.kind=8
 .rw[zE k8]at h|-;rw[Iv]at h|-;dsimp only at h|-;by_cases g:(Eh n l 8).2≠0
  .rw[zE g]at h;exact zW h g
  rw[zD g]at h|-;obtain ⟨_,o,i,d0,d1,P⟩:=Vr g;rw[P]at h|-
  repeat' split at h
  all_goals (try (simp at h;done))
  rename_i t r;rw[zD t,zD r];have hf:=Ed.1 i.bq;simp only[Cq,zD k1,zD k2,zD k3,zD k4,zD k5,zD k6,zD k7,zE k8,zG]at o;exact A39 i _ (bH.2 ⟨Cy.2 ⟨d0,by show Cg n l.q<_;omega⟩,o.2.1,o.2.2⟩) j_
 rw[zD k8]at h|-;by_cases k9:l.kind=9
 .rw[zE k9]at h|-;rw[Iy]at h|-;dsimp only at h|-;by_cases g:(Eh n l 9).2≠0
  .rw[zE g]at h;exact zW h g
  rw[zD g]at h|-;obtain ⟨_,o,i,d0,d1,P⟩:=Vr g;rw[P]at h|-
  repeat' split at h
  all_goals (try (simp at h;done))
  rename_i t r I;rw[zD t,zD r,zD I];simp only[Cq,zD k1,zD k2,zD k3,zD k4,zD k5,zD k6,zD k7,zD k8,zE k9,zG]at o;have hb:=bR o.2.2;have p1:=Jf (p:=λv:Vrf=>v.q==Cg n l.q&&v.name==l.name) (l:=n.ag) (by show 0<=Agz n (Cg n l.q) l.name;omega);have p2:=Jf (p:=λd:A0=>d.q==Cg n l.q&&d.z==l.z) (l:=n.c) (by show 0<=Ep n (Cg n l.q) l.z;omega);have a1:(Agz n (Cg n l.q) l.name).toNat<n.ag.length:=p1.1;have a2:(Af n.ag (Agz n (Cg n l.q) l.name)).q=Cg n l.q:=by
   have:=p1.2;simp only[zG,yL]at this;exact this.1
  have R:(Ep n (Cg n l.q) l.z).toNat<n.c.length:=p2.1;have b2:(Af n.c (Ep n (Cg n l.q) l.z)).q=Cg n l.q:=by
   have:=p2.2;simp only[zG,yL]at this;exact this.1
  simp only[vY]at I;generalize Ep n (Cg n l.q) l.z=j at *;obtain ⟨j,rfl⟩:∃k:Nat,j=k:=⟨j.toNat,by omega⟩
  rw[yA]at R|-;exact A66 i j R j_ ⟨l.row,j,Agz n (Cg n l.q) l.name,l.addr,l.bits⟩ q_ (Cy.2 ⟨by dsimp only;omega,by dsimp only;omega⟩) (b2.trans a2.symm) hb
 .rw[zD k9]at h;simp at h
def Av6:Su Au:=Aui.1 (by decide +kernel)
def Awj(l:List A2)(k:Int):Nat:=(l.filter λx=>x.kind==k).length
structure A2a(n:Ai)(c:Int->Nat):Prop where
 c1:n.j.length=c 1
 c2:n.g.length=c 2
 c3:n.x.length=c 3
 c4:n.ab.length=c 4
 c7:n.y.length=c 7
 c8:n.ag.length=c 8
 c9:n.r.length=c 9
def A6r{n:Ai}{c:Int->Nat}(h:A2a n c):A2a (Cv n) c:=⟨h.c1,h.c2,h.c3,h.c4,h.c7,h.c8,h.c9⟩
def Q2(l:List D4)(i k:Int):(Il l i k).length=l.length:=yO
def K8(l:List Device)(i k:Int):(S4 l i k).length=l.length:=yO
def Auq{n:Ai}{x:A2}(h:(Df n x).2=0):(Df n x).1.j.length=n.j.length+1/\(Df n x).1.g.length=n.g.length/\(Df n x).1.x.length=n.x.length/\(Df n x).1.ab.length=n.ab.length/\(Df n x).1.y.length=n.y.length/\(Df n x).1.ag.length=n.ag.length/\(Df n x).1.r.length=n.r.length:=by
 unfold Df at h|-;by_cases g:Es n x 1=false
 .rw[zE g]at h;cases h
 rw[zD g]at h|-;try dsimp only at h|-
 split at h
 .cases h
 rename_i i;rw[zD i];split at h
 .cases h
 rename_i j;rw[zD j];simp[Q2,K8]
def A6q{n:Ai}{x:A2}(h:(E4 n x).2=0):(E4 n x).1.j.length=n.j.length/\(E4 n x).1.g.length=n.g.length+1/\(E4 n x).1.x.length=n.x.length/\(E4 n x).1.ab.length=n.ab.length/\(E4 n x).1.y.length=n.y.length/\(E4 n x).1.ag.length=n.ag.length/\(E4 n x).1.r.length=n.r.length:=by
 unfold E4 at h|-;by_cases g:Es n x 2=false
 .rw[zE g]at h;cases h
 rw[zD g]at h|-;try dsimp only at h|-
 split at h
 .cases h
 rename_i i;rw[zD i];split at h
 .cases h
 rename_i j;rw[zD j];split at h
 .cases h
 rename_i l;rw[zD l];split at h
 .cases h
 rename_i o;rw[zD o];simp[Q2,K8]
def A6s{n:Ai}{x:A2}(h:(E5 n x).2=0):(E5 n x).1.j.length=n.j.length/\(E5 n x).1.g.length=n.g.length/\(E5 n x).1.x.length=n.x.length+1/\(E5 n x).1.ab.length=n.ab.length/\(E5 n x).1.y.length=n.y.length/\(E5 n x).1.ag.length=n.ag.length/\(E5 n x).1.r.length=n.r.length:=by
 unfold E5 at h|-;by_cases g:Es n x 3=false
 .rw[zE g]at h;cases h
 rw[zD g]at h|-;try dsimp only at h|-
 split at h
 .cases h
 rename_i i;rw[zD i];split at h
 .cases h
 rename_i j;rw[zD j];split at h
 .cases h
 rename_i l;rw[zD l];simp[Q2,K8]
def Aup{n:Ai}{x:A2}(h:(De n x).2=0):(De n x).1.j.length=n.j.length/\(De n x).1.g.length=n.g.length/\(De n x).1.x.length=n.x.length/\(De n x).1.ab.length=n.ab.length+1/\(De n x).1.y.length=n.y.length/\(De n x).1.ag.length=n.ag.length/\(De n x).1.r.length=n.r.length:=by
 unfold De at h|-;by_cases g:Es n x 4=false
 .rw[zE g]at h;cases h
 rw[zD g]at h|-;try dsimp only at h|-
 split at h
 .cases h
 rename_i i;rw[zD i];split at h
 .cases h
 rename_i j;rw[zD j];split at h
 .cases h
 rename_i l;rw[zD l];split at h
 .cases h
 rename_i o;rw[zD o];simp[Q2,K8]
def A6p{n:Ai}{x:A2}(h:(E3 n x).2=0):(E3 n x).1.j.length=n.j.length/\(E3 n x).1.g.length=n.g.length/\(E3 n x).1.x.length=n.x.length/\(E3 n x).1.ab.length=n.ab.length/\(E3 n x).1.y.length=n.y.length/\(E3 n x).1.ag.length=n.ag.length/\(E3 n x).1.r.length=n.r.length:=by
 unfold E3 at h|-;by_cases g:(Eh n x 5).2≠0
 .rw[zE g]at h;exact zW h g
 rw[zD g]at h|-;try dsimp only at h|-
 split at h
 .cases h
 rename_i i;rw[zD i];simp[Q2,K8]
def Bbh{n:Ai}{x:A2}(h:(Iw n x).2=0):(Iw n x).1.j.length=n.j.length/\(Iw n x).1.g.length=n.g.length/\(Iw n x).1.x.length=n.x.length/\(Iw n x).1.ab.length=n.ab.length/\(Iw n x).1.y.length=n.y.length/\(Iw n x).1.ag.length=n.ag.length/\(Iw n x).1.r.length=n.r.length:=by
 unfold Iw at h|-;by_cases g:(Eh n x 6).2≠0
 .rw[zE g]at h;exact zW h g
 rw[zD g]at h|-;try dsimp only at h|-
 split at h
 .cases h
 rename_i i;rw[zD i];split at h
 .cases h
 rename_i j;rw[zD j];split at h
 .cases h
 rename_i l;rw[zD l];simp[Q2,K8]
def Az7{n:Ai}{x:A2}(h:(D1 n x).2=0):(D1 n x).1.j.length=n.j.length/\(D1 n x).1.g.length=n.g.length/\(D1 n x).1.x.length=n.x.length/\(D1 n x).1.ab.length=n.ab.length/\(D1 n x).1.y.length=n.y.length+1/\(D1 n x).1.ag.length=n.ag.length/\(D1 n x).1.r.length=n.r.length:=by
 unfold D1 at h|-;by_cases g:(Eh n x 7).2≠0
 .rw[zE g]at h;exact zW h g
 rw[zD g]at h|-;try dsimp only at h|-
 split at h
 .cases h
 rename_i i;rw[zD i];split at h
 .cases h
 rename_i j;rw[zD j];split at h
 .cases h
 rename_i l;rw[zD l];split at h
 .cases h
 rename_i o;rw[zD o];simp[Q2,K8]
def Bbg{n:Ai}{x:A2}(h:(Iv n x).2=0):(Iv n x).1.j.length=n.j.length/\(Iv n x).1.g.length=n.g.length/\(Iv n x).1.x.length=n.x.length/\(Iv n x).1.ab.length=n.ab.length/\(Iv n x).1.y.length=n.y.length/\(Iv n x).1.ag.length=n.ag.length+1/\(Iv n x).1.r.length=n.r.length:=by
 unfold Iv at h|-;by_cases g:(Eh n x 8).2≠0
 .rw[zE g]at h;exact zW h g
 rw[zD g]at h|-;try dsimp only at h|-
 split at h
 .cases h
 rename_i i;rw[zD i];split at h
 .cases h
 rename_i j;rw[zD j];simp[Q2,K8]
def Bbi{n:Ai}{x:A2}(h:(Iy n x).2=0):(Iy n x).1.j.length=n.j.length/\(Iy n x).1.g.length=n.g.length/\(Iy n x).1.x.length=n.x.length/\(Iy n x).1.ab.length=n.ab.length/\(Iy n x).1.y.length=n.y.length/\(Iy n x).1.ag.length=n.ag.length/\(Iy n x).1.r.length=n.r.length+1:=by
 unfold Iy at h|-;by_cases g:(Eh n x 9).2≠0
 .rw[zE g]at h;exact zW h g
 rw[zD g]at h|-;try dsimp only at h|-
 split at h
 .cases h
 rename_i i;rw[zD i];split at h
 .cases h
 rename_i j;rw[zD j];split at h
 .cases h
 rename_i l;rw[zD l];simp[Q2,K8]
def A99{n:Ai}{c:Int->Nat}{x:A2}(hm:A2a n c)(h:(La n x).2=0):A2a (La n x).1 (λk=>c k+if x.kind=k then 1 else 0):=by
 obtain ⟨t,I,J,P,R,c8,c9⟩:=hm;unfold La at h|-;by_cases k1:x.kind=1
 .rw[zE k1]at h|-;obtain ⟨g,i,j,l,o,p,r⟩:=Auq h;constructor<;>simp[*]
 rw[zD k1]at h|-;by_cases k2:x.kind=2
 .rw[zE k2]at h|-;obtain ⟨g,i,j,l,o,p,r⟩:=A6q h;constructor<;>simp[*]
 rw[zD k2]at h|-;by_cases k3:x.kind=3
 .rw[zE k3]at h|-;obtain ⟨g,i,j,l,o,p,r⟩:=A6s h;constructor<;>simp[*]
 rw[zD k3]at h|-;by_cases k4:x.kind=4
 .rw[zE k4]at h|-;obtain ⟨g,i,j,l,o,p,r⟩:=Aup h;constructor<;>simp[*]
 rw[zD k4]at h|-;by_cases k5:x.kind=5
 .rw[zE k5]at h|-;obtain ⟨g,i,j,l,o,p,r⟩:=A6p h;constructor<;>simp[*]
 rw[zD k5]at h|-;by_cases k6:x.kind=6
 .rw[zE k6]at h|-;obtain ⟨g,i,j,l,o,p,r⟩:=Bbh h;constructor<;>simp[*]
 rw[zD k6]at h|-;by_cases k7:x.kind=7
 .rw[zE k7]at h|-;obtain ⟨g,i,j,l,o,p,r⟩:=Az7 h;constructor<;>simp[*]
 rw[zD k7]at h|-;by_cases k8:x.kind=8
 .rw[zE k8]at h|-;obtain ⟨g,i,j,l,o,p,r⟩:=Bbg h;constructor<;>simp[*]
 rw[zD k8]at h|-;by_cases k9:x.kind=9
 .rw[zE k9]at h|-;obtain ⟨g,i,j,l,o,p,r⟩:=Bbi h;constructor<;>simp[*]
 rw[zD k9]at h|-;cases h
def A1g:A2a Au (λ_=>0):=⟨rfl,rfl,rfl,rfl,rfl,rfl,rfl⟩
def Bb3{k:Type}(p:k->Bool)(f:k->k)(l:List k)(h:∀x,p (f x)=p x):Bt p (l.map f)=Bt p l:=by
 have e:(l.map f).findIdx? p=l.findIdx? p:=by
  rw[List.findIdx?_map];congr 1;funext x;exact h x
 rw[Bt,Bt,e]
def Ad3(n:Ai)(a b:Int):Xv (Cv n) a b=Xv n a b:=Bb3 _ _ _ λ_=>rfl
def Azq(n:Ai)(d:A0)(p:List Int):Iz (Cv n) {d with ae:=p}=Iz n d:=by
 rw[Iz,Iz];have g:∀a b,Oc (Cv n) a b=Oc n a b:=λ_ _=>rfl
 have i:∀a,Ig (Cv n) a=Ig n a:=λ_=>rfl
 simp only[Ad3,g,i];rfl
def A6k(n:Ai):Cv (Cv n)=Cv n:=by
 have:(Cv n).c.map (λd=>{d with ae:=Iz (Cv n) d})=(Cv n).c:=by
  show (n.c.map λd=>{d with ae:=Iz n d}).map (λd=>{d with ae:=Iz (Cv n) d})=n.c.map λd=>{d with ae:=Iz n d}
  rw[tR];refine vR λd _=>?_
  show ({d with ae:=Iz (Cv n) {d with ae:=Iz n d} }:A0)={d with ae:=Iz n d};rw[Azq]
 rw[Cv,this]
def A15(n:Ai)(f:Mg):J2 (Cv n) f=J2 n f:=by
 have g:∀a b,Oc (Cv n) a b=Oc n a b:=λ_ _=>rfl
 have i:∀a,Ig (Cv n) a=Ig n a:=λ_=>rfl
 have j:∀a,Lf (Cv n) f a=Lf n f a:=λa=>by
  rw[Lf,Lf];simp only[Ad3,g,i];rfl
 have l:Lf (Cv n) f=Lf n f:=funext j;rw[J2,J2,Ad3,l]
def Vh{n:Ai}(h:(Dj n).2.2=0):(Dj n).1=Cv n/\(Dj n).2.1=0/\Ac (Cv n)=true/\n.y.find? (λf=>!(J2 n f))=none:=by
 rw[Dj]at h|-;split at h
 .simp at h
 rename_i j;rw[zD j];cases g:n.y.find? (λf=>!(J2 n f)) with
 |some f=>rw[g]at h;simp at h
 |none=>
  rw[g]at h;dsimp only at h|-;split at h
  .simp at h
  rename_i i;rw[zD i];exact⟨q_,q_,kS i,q_⟩
def Az6{n:Ai}(h:(Dj n).2.2=0):Dj (Cv n)=(Cv n,0,0):=by
 obtain ⟨_,_,g,i⟩:=Vh h;have e:(Cv n).y.find? (λf=>!(J2 (Cv n) f))=none:=by
  show n.y.find? (λf=>!(J2 (Cv n) f))=none;simp only[A15];exact i
 rw[Dj,zD (by rw[g];simp),e];dsimp only;rw[A6k,zD (by rw[g];simp)]
def cY(n:Ai):∀(l:List A0) (f:List Int) (i:Nat),(We n f i l).2=false->(We n f i l).1=0
 |[],f,i,_=>rfl
 |d::l,f,i,h=>by
  rw[We]at h|-;split
  .rename_i g;rw[zE g]at h;exact cY n l f _ h
  .rename_i g;rw[zD g]at h;dsimp only at h|-;split
   .rename_i j;rw[zE j]at h;cases h
   .rename_i j;rw[zD j]at h;exact cY n l _ _ h
def Az9{n:Ai}(h:(Wc n).2=false):Wc n=(0,false):=by
 have g:(Wc n).1=0:=by
  rw[Wc]at h|-;split
  .rfl
  .rename_i i;rw[zD i]at h;exact cY n _ _ _ h
 rw[<-h,<-g]
def Agk:∀(l:List A2) (g:Ai) (c:Int->Nat),Su g->A2a g c->(Bw g l).2.2=0 ->
  (Bw g l).2.1=0/\Ac (Bw g l).1=true/\Dj (Bw g l).1=((Bw g l).1,0,0)/\Wc (Bw g l).1=(0,false)/\A2a (Bw g l).1 (λk=>c k+Awj l k)
 |[],g,c,r,hm,h=>by
  rw[Bw,Lc]at h|-;split at h
  .rename_i i;exact zW h i
  rename_i i;rw[zD i];split at h
  .simp at h
  rename_i o;rw[zD o];have j:(Dj g).2.2=0:=by omega
  obtain ⟨t,P,I,R⟩:=Vh j;dsimp only;rw[t]at o|-;refine⟨q_,I,Az6 j,Az9 (kS o),?_⟩;have:=A6r hm;exact⟨this.c1,this.c2,this.c3,this.c4,this.c7,this.c8,this.c9⟩
 |x::l,g,c,r,hm,h=>by
  rw[Bw]at h|-;split at h
  .rename_i i;exact zW h i
  rename_i i;rw[zD i];have j:(La g x).2=0:=by omega
  obtain ⟨a,b,d,e,f⟩:=Agk l _ _ (A5q j) (A99 hm j) h;refine⟨a,b,d,e,?_⟩;have J:∀k,Awj (x::l) k=(if x.kind=k then 1 else 0)+Awj l k:=λk=>by
   rw[Awj,Awj,List.filter_cons];by_cases p:x.kind=k
   .simp[p];omega
   .simp[p]
  refine⟨f.c1.trans ?_,f.c2.trans ?_,f.c3.trans ?_,f.c4.trans ?_,f.c7.trans ?_,f.c8.trans ?_,f.c9.trans ?_⟩<;>(rw[J];omega)
def eJ:∀(l:List A2) (i:Ai),(Bw i l).2.2≠0->(Bw i l).1=Au
 |[],i,h=>by
  rw[Bw,Lc]at h|-;split
  .rename_i g;rw[Dj]at g|-;split
   .rfl
   rename_i j;rw[zD j]at g;split
   .rfl
   .rename_i o;rw[o]at g;dsimp only at g;split
    .rfl
    .rename_i p;rw[zD p]at g;exact zW q_ g
  .rename_i g;rw[zD g]at h;split
   .rfl
   .rename_i j;rw[zD j]at h;exact zW q_ h
 |x::l,i,h=>by
  rw[Bw]at h|-;split
  .rfl
  .rename_i g;rw[zD g]at h;exact eJ l _ h
structure O1(n:Ai):Prop where
 q:∀i:Nat,i<n.j.length->A5 (Af n.j (i:Int)).name=true/\Cg n (Af n.j (i:Int)).name=i
 cl:∀i:Nat,i<n.g.length->A5 (Af n.g (i:Int)).name=true/\L4 n (Af n.g (i:Int)).q (Af n.g (i:Int)).name=i
def Agi:O1 Au:=⟨λi hi=>(by cases hi),λi hi=>(by cases hi)⟩
theorem O1.same{n m:Ai}(h:O1 n)(g:m.j=n.j)(hp:m.g=n.g):O1 m:=by
 refine⟨λi hi=>?_,λi hi=>?_⟩
 .rw[g]at hi|-;have:=h.q i hi;unfold Cg at this|-;rw[g];exact this
 .rw[hp]at hi|-;have:=h.cl i hi;unfold L4 at this|-;rw[hp];exact this
def oY{k a:Type}[Inhabited k](l:List k)(x:k)(j:Nat)(i:Int)(f:k->a)(g:f x=f (Af l (j:Int)))(o:j<l.length):f (Af (l.set j x) i)=f (Af l i):=by
 by_cases h:i.toNat=j
 .rw[Mk (l.set j x) h,Acd l x o,g,Mk l h]
 .rw[Lp l x h]
def A08{n:Ai}{l:A2}{k:Int}(h:¬Es n l k=false):A5 l.q=true:=by
 have h:Es n l k=true:=kS h;simp only[Es,Hp,zG]at h;exact h.2.1.2.1
def A5r{n:Ai}{l:A2}(r:O1 n)(h:(La n l).2=0):O1 (La n l).1:=by
 rw[La]at h|-;by_cases k1:l.kind=1
 .rw[zE k1]at h|-;rw[Df]at h|-
  repeat' split at h
  all_goals (try (simp at h;done))
  rename_i g j o;rw[zD g,zD j,zD o];have r8:=A08 g;have bw:n.j.any (λd=>d.name==l.q)=false:=by
   cases hh:n.j.any (λd=>d.name==l.q)
   .rfl
   .refine zW ?_ j;obtain ⟨d,hd,P⟩:=wA.1 hh;exact wA.2 ⟨d,hd,by simp only[P,wT]⟩
  refine⟨λi hi=>?_,λi hi=>r.cl i hi⟩;have hi:i<(n.j++[(⟨l.row,l.num,l.q,l.an,0⟩:Device)]).length:=hi;rw[zR,yD]at hi;by_cases P:i=n.j.length
  .subst P;have e:Af (n.j++[(⟨l.row,l.num,l.q,l.an,0⟩:Device)]) (n.j.length:Int)=⟨l.row,l.num,l.q,l.an,0⟩:=Jo _ _;show A5 (Af (n.j++[(⟨l.row,l.num,l.q,l.an,0⟩:Device)]) (n.j.length:Int)).name=true/\Bt (λd:Device=>d.name==(Af (n.j++[(⟨l.row,l.num,l.q,l.an,0⟩:Device)]) (n.j.length:Int)).name) (n.j++[_])=n.j.length;rw[e];exact⟨r8,Yy _ _ _ bw qx⟩
  .have R:i<n.j.length:=by omega
   have e:Af (n.j++[(⟨l.row,l.num,l.q,l.an,0⟩:Device)]) (i:Int)=Af n.j (i:Int):=Mb _ _ (kS R);obtain ⟨J,I⟩:=r.q i R;show A5 (Af (n.j++[(⟨l.row,l.num,l.q,l.an,0⟩:Device)]) (i:Int)).name=true/\Bt (λd:Device=>d.name==(Af (n.j++[(⟨l.row,l.num,l.q,l.an,0⟩:Device)]) (i:Int)).name) (n.j++[_])=i;rw[e];unfold Cg at I;exact⟨J,by rw[dF _ _ _ (by rw[I];omega)];exact I⟩
 rw[zD k1]at h|-;by_cases k2:l.kind=2
 .rw[zE k2]at h|-;rw[E4]at h|-
  repeat' split at h
  all_goals (try (simp at h;done))
  rename_i g j o t h5;rw[zD g,zD j,zD o,zD t,zD h5];obtain ⟨_,hu,_⟩:=Y3 g;simp only[Cq,zD k1,zE k2,zG]at hu;have r8:=hu.1;have bw:n.g.any (λp=>p.q==Cg n l.q&&p.name==l.ac)=false:=by
   cases hh:n.g.any (λp=>p.q==Cg n l.q&&p.name==l.ac)
   .rfl
   .exact zW (Mq.2 hh) o
  refine⟨λi hi=>r.q i hi,λi hi=>?_⟩;generalize hx:(⟨l.row,Cg n l.q,l.z,l.aj,-1,l.ac,l.u⟩:D4)=x at *;have tm:x.q=Cg n l.q/\x.name=l.ac:=by subst hx;exact⟨rfl,rfl⟩
  have hi:i<(n.g++[x]).length:=hi;rw[zR,yD]at hi;by_cases P:i=n.g.length
  .subst P;have e:Af (n.g++[x]) (n.g.length:Int)=x:=Jo _ _;show A5 (Af (n.g++[x]) (n.g.length:Int)).name=true/\Bt (λp:D4=>p.q==(Af (n.g++[x]) (n.g.length:Int)).q&&p.name==(Af (n.g++[x]) (n.g.length:Int)).name) (n.g++[x])=n.g.length;rw[e,tm.1,tm.2];exact⟨r8,Yy _ _ _ bw (by rw[tm.1,tm.2];simp)⟩
  .have R:i<n.g.length:=by omega
   have e:Af (n.g++[x]) (i:Int)=Af n.g (i:Int):=Mb _ _ (kS R);obtain ⟨J,I⟩:=r.cl i R;show A5 (Af (n.g++[x]) (i:Int)).name=true/\Bt (λp:D4=>p.q==(Af (n.g++[x]) (i:Int)).q&&p.name==(Af (n.g++[x]) (i:Int)).name) (n.g++[x])=i;rw[e];unfold L4 at I;exact⟨J,by rw[dF _ _ _ (by rw[I];omega)];exact I⟩
 rw[zD k2]at h|-;by_cases k3:l.kind=3
 .rw[zE k3]at h|-;rw[E5]at h|-;dsimp only at h|-
  repeat' split at h
  all_goals (try (simp at h;done))
  rename_i g j o t;rw[zD g,zD j,zD o,zD t];have a0:∀(ps:List D4) (a k:Int),(∀i:Nat,i<ps.length->A5 (Af ps (i:Int)).name=true/\Bt (λp:D4=>p.q==(Af ps (i:Int)).q&&p.name==(Af ps (i:Int)).name) ps=i) ->
    (∀i:Nat,i<(Il ps a k).length->A5 (Af (Il ps a k) (i:Int)).name=true/\Bt (λp:D4=>p.q==(Af (Il ps a k) (i:Int)).q&&p.name==(Af (Il ps a k) (i:Int)).name) (Il ps a k)=i):=by
   intro ps a k j7 i hi;by_cases ha:a.toNat<ps.length
   .have hi':i<ps.length:=by simpa [Il] using hi
    have e0:Af ps a=Af ps ((a.toNat:Nat):Int):=Mk _ qx;have e1:(Af (Il ps a k) (i:Int)).name=(Af ps (i:Int)).name:=oY ps _ a.toNat (i:Int) (λp=>p.name) (by show (Af ps a).name=_;rw[e0]) ha;have e2:(Af (Il ps a k) (i:Int)).q=(Af ps (i:Int)).q:=oY ps _ a.toNat (i:Int) (λp=>p.q) (by show (Af ps a).q=_;rw[e0]) ha;rw[e1,e2];obtain ⟨g1,g2⟩:=j7 i hi';refine⟨g1,?_⟩;rw[Il,Ajy]
    .exact g2
    .intro y hy;have:y=Af ps a:=by
      rw[Aj ha];rw[zT ha]at hy;exact(Option.some.inj hy).symm
     rw[this]
   .have:Il ps a k=ps:=by rw[Il,uR j_]
    rw[this]at hi|-;exact j7 i hi
  exact⟨λi hi=>r.q i hi,λi hi=>a0 _ _ _ (a0 _ _ _ r.cl) i hi⟩
 rw[zD k3]at h|-;by_cases k4:l.kind=4
 .rw[zE k4]at h|-;rw[De]at h|-;dsimp only at h|-
  repeat' split at h
  all_goals (try (simp at h;done))
  rename_i g j o t h5;rw[zD g,zD j,zD o,zD t,zD h5];exact r.same q_ q_
 rw[zD k4]at h|-;by_cases k5:l.kind=5
 .rw[zE k5]at h|-;rw[E3]at h|-;dsimp only at h|-;split at h
  .rename_i g;exact zW h g
  rename_i g;rw[zD g];split at h
  .simp at h
  rename_i j;rw[zD j];obtain ⟨_,_,_,d0,J,I⟩:=Vr g;refine⟨λi hi=>?_,λi hi=>r.cl i hi⟩;rw[I]at hi|-;have hi':i<n.j.length:=by simpa [S4] using hi
  have e0:Af n.j (Cg n l.q)=Af n.j (((Cg n l.q).toNat:Nat):Int):=Mk _ qx;have e1:(Af (S4 n.j (Cg n l.q) l.addr) (i:Int)).name=(Af n.j (i:Int)).name:=oY n.j _ _ (i:Int) (λd=>d.name) (by show (Af n.j (Cg n l.q)).name=_;rw[e0]) J;obtain ⟨g1,g2⟩:=r.q i hi';show A5 (Af (S4 n.j (Cg n l.q) l.addr) (i:Int)).name=true/\Bt (λd:Device=>d.name==(Af (S4 n.j (Cg n l.q) l.addr) (i:Int)).name) (S4 n.j (Cg n l.q) l.addr)=i;rw[e1];refine⟨g1,?_⟩;rw[S4,Ajy]
  .exact g2
  .intro y hy;have:y=Af n.j (Cg n l.q):=by
    rw[Aj J];rw[zT J]at hy;exact(Option.some.inj hy).symm
   rw[this]
 rw[zD k5]at h|-;by_cases k6:l.kind=6
 .rw[zE k6]at h|-;rw[Iw]at h|-;dsimp only at h|-;split at h
  .rename_i g;exact zW h g
  rename_i g;rw[zD g]
  repeat' split at h
  all_goals (try (simp at h;done))
  rename_i j o t;rw[zD j,zD o,zD t];exact r.same q_ q_
 rw[zD k6]at h|-;by_cases k7:l.kind=7
 .rw[zE k7]at h|-;rw[D1]at h|-;dsimp only at h|-;split at h
  .rename_i g;exact zW h g
  rename_i g;rw[zD g]
  repeat' split at h
  all_goals (try (simp at h;done))
  rename_i j o t h5;rw[zD j,zD o,zD t,zD h5];exact r.same q_ q_
 rw[zD k7]at h|-;by_cases k8:l.kind=8
 .rw[zE k8]at h|-;rw[Iv]at h|-;dsimp only at h|-;split at h
  .rename_i g;exact zW h g
  rename_i g;rw[zD g]
  repeat' split at h
  all_goals (try (simp at h;done))
  rename_i j o;rw[zD j,zD o];exact r.same q_ q_
 rw[zD k8]at h|-;by_cases k9:l.kind=9
 .rw[zE k9]at h|-;rw[Iy]at h|-;dsimp only at h|-;split at h
  .rename_i g;exact zW h g
  rename_i g;rw[zD g]
  repeat' split at h
  all_goals (try (simp at h;done))
  rename_i j o t;rw[zD j,zD o,zD t];exact r.same q_ q_
 .rw[zD k9]at h;simp at h
def Agl:∀(l:List A2) (n:Ai),O1 n->(Bw n l).2.2=0->O1 (Bw n l).1
 |[],n,i,h=>by
  rw[Bw,Lc]at h|-;split at h
  .rename_i g;exact zW h g
  rename_i g;rw[zD g];split at h
  .simp at h
  rename_i j;rw[zD j];obtain ⟨o,_⟩:=Vh (n:=n) j_;dsimp only;rw[o];exact i.same q_ q_
 |x::l,n,i,h=>by
  rw[Bw]at h|-;split at h
  .rename_i g;exact zW h g
  rename_i g;rw[zD g];exact Agl l _ (A5r i j_) h
def Aaw:∀(l:List A2) (n:Ai),n.Fin->Eb n->(∀x∈l,E7 x)->(Bw n l).2.2=0->(Bw n l).1.Fin/\Eb (Bw n l).1
 |[],n,i,j,_,h=>by
  rw[Bw,Lc]at h|-;split at h
  .rename_i g;exact zW h g
  rename_i g;rw[zD g];split at h
  .simp at h
  rename_i p;rw[zD p];obtain ⟨r,_⟩:=Vh (n:=n) j_;refine⟨Anj i,?_⟩;dsimp only;rw[r];exact j
 |x::l,n,i,j,o,h=>by
  rw[Bw]at h|-;split at h
  .rename_i g;exact zW h g
  rename_i g;rw[zD g];have:=A2z i j (o x qx);exact Aaw l _ this.fin this.aa (λy t=>o y (by simp[t])) h
def A7p:Au.Num:=⟨λd g=>(by cases g),λd g=>(by cases g)⟩
def Azg{n:Ai}{l:A2}(i:∀d∈n.j,0<=d.aq/\d.aq<4294967296)(j:E7 l):∀d∈(La n l).1.j,0<=d.aq/\d.aq<4294967296:=by
 have same:∀{m:Ai},m.j=n.j->∀d∈m.j,0<=d.aq/\d.aq<4294967296:=λ{m} h d g=>i d (by rw[<-h];exact g)
 have e:=A7p.aq;rw[La];split
 .rw[Df]
  repeat' split
  all_goals (try exact e)
  intro d g;rcases yJ.1 g with g|g
  .exact i d g
  .rw[zX.1 g];exact⟨wB _,by show (0:Int)<_;decide⟩
 split
 .rw[E4]
  repeat' split
  all_goals (first|exact e|exact same rfl)
 split
 .rw[E5];dsimp only
  repeat' split
  all_goals (first|exact e|exact same rfl)
 split
 .rw[De];dsimp only
  repeat' split
  all_goals (first|exact e|exact same rfl)
 split
 .rw[E3];dsimp only;split
  .exact e
  split
  .exact e
  intro d g;have g:d∈S4 n.j (Eh n l 5).1 l.addr:=g;rcases mem_set g with h|h
  .exact i d h
  .rw[h];exact j.ok.addr
 split
 .rw[Iw];dsimp only
  repeat' split
  all_goals (first|exact e|exact same rfl)
 split
 .rw[D1];dsimp only
  repeat' split
  all_goals (first|exact e|exact same rfl)
 split
 .rw[Iv];dsimp only
  repeat' split
  all_goals (first|exact e|exact same rfl)
 split
 .rw[Iy];dsimp only
  repeat' split
  all_goals (first|exact e|exact same rfl)
 exact e
def aK:∀(l:List A2) (n:Ai),(∀d∈n.j,0<=d.aq/\d.aq<4294967296)->(∀x∈l,E7 x)->(Bw n l).2.2=0->∀d∈(Bw n l).1.j,0<=d.aq/\d.aq<4294967296
 |[],n,i,_,h=>by
  rw[Bw,Lc]at h|-;split at h
  .rename_i g;exact zW h g
  rename_i g;rw[zD g];split at h
  .simp at h
  rename_i o;rw[zD o];obtain ⟨p,_⟩:=Vh (n:=n) j_;dsimp only;rw[p];exact i
 |x::l,n,i,j,h=>by
  rw[Bw]at h|-;split at h
  .rename_i g;exact zW h g
  rename_i g;rw[zD g];exact aK l _ (Azg i (j x qx)) (λy r=>j y (by simp[r])) h
def Ay7{l:A2}(g:l.kind=2)(h:Hp l=true):1<=l.aj/\l.aj<=65535:=by
 have i:¬l.kind=1:=by omega
 simp only[Hp,Cq,zD i,zE g,zG]at h;exact within_iff.1 h.1.2.1
def Aa6(n:Ai):Prop:=∀p∈n.g,M9 p=false
def eB:Aa6 Au:=λp hp=>by cases hp
def Bc3{n:Ai}(h:Aa6 n):Hj n=true:=by
 rw[Hj,xH,wE];intro p hp;rw[h p hp];exact tS
def Aso{l:List D4}{i k:Int}{p:D4}(h:p∈Il l i k)(g:∀p∈l,M9 p=false):M9 p=false:=by
 by_cases hi:i.toNat<l.length
 .rcases mem_set h with h|h
  .exact g p h
  .rw[h];exact show M9 (Af l i)=false from g _ (Uq hi)
 .rw[Il,uR j_]at h;exact g p h
def A5s{n:Ai}{l:A2}(i:Aa6 n):Aa6 (La n l).1:=by
 have same:∀{m:Ai},m.g=n.g->Aa6 m:=λ{m} h d j=>i d (by rw[<-h];exact j)
 have e:=eB;rw[La];split
 .rw[Df]
  repeat' split
  all_goals (first|exact e|exact same rfl)
 split
 .rename_i o;rw[E4];split
  .exact e
  rename_i g
  repeat' split
  all_goals (try exact e)
  intro p hp;rcases yJ.1 hp with hp|hp
  .exact i p hp
  .rw[zX.1 hp];have g:Es n l 2=true:=kS g;rw[Es,zG,zG]at g;have:=Ay7 o (kS g.2.1);simp only[M9];have a:decide (l.aj<1)=false:=zJ j_;have b:decide (65535<l.aj)=false:=zJ j_;simp[a,b]
 split
 .rw[E5];dsimp only
  repeat' split
  all_goals (try exact e)
  intro p hp;exact Aso hp λq r=>Aso r i
 split
 .rw[De];dsimp only
  repeat' split
  all_goals (first|exact e|exact same rfl)
 split
 .rw[E3];dsimp only
  repeat' split
  all_goals (first|exact e|exact same rfl)
 split
 .rw[Iw];dsimp only
  repeat' split
  all_goals (first|exact e|exact same rfl)
 split
 .rw[D1];dsimp only
  repeat' split
  all_goals (first|exact e|exact same rfl)
 split
 .rw[Iv];dsimp only
  repeat' split
  all_goals (first|exact e|exact same rfl)
 split
 .rw[Iy];dsimp only
  repeat' split
  all_goals (first|exact e|exact same rfl)
 exact e
def eK:∀(l:List A2) (n:Ai),Aa6 n->(Bw n l).2.2=0->Aa6 (Bw n l).1
 |[],n,i,h=>by
  rw[Bw,Lc]at h|-;split at h
  .rename_i g;exact zW h g
  rename_i g;rw[zD g];split at h
  .simp at h
  rename_i j;rw[zD j];obtain ⟨o,_⟩:=Vh (n:=n) j_;dsimp only;rw[o];exact i
 |x::l,n,i,h=>by
  rw[Bw]at h|-;split at h
  .rename_i g;exact zW h g
  rename_i g;rw[zD g];exact eK l _ (A5s i) h
end Go.Sy.Zaa
namespace Go.Sy
def Bcf{P:Program}{o:Oper}{s:SS}{x y:Operand}{at_:Array TypeId}{k l:IntKind}{m n:Int}(h:o.op=.call ⟨.builtin .max,#[x,y],at_⟩)(p:ev s x=.val (.int k m))(r:ev s y=.val (.int l n)):Good P o s ⟨.val (.int k (if n>m then n else m)),[],[]⟩ :=
 Good.pure λb a w _ g t=>by
  have i:=g x (by simp[h,Op.operands,Call.operands]);have j:=g y (by simp[h,Op.operands,Call.operands]);rw[p]at i;rw[r]at j;refine⟨.int k (if n>m then n else m),?_,by simp[Rd]⟩;simp[execOp,h,resolve,invoke,builtin,Builtin.max_,Builtin.max2,i.val,j.val]
end Go.Sy
namespace Go.Sy.Zaa
open Go.Proofs Go.Proofs.Tryz
attribute [local irreducible]G DR
set_option maxRecDepth 100000
def Mt{f:List Int}(g:Hr f){i:Int}(j:0<=i)(hi:i.toNat<f.length):0<=Af f i/\Af f i<=i:=by
 rw[Aj hi];have:=g i.toNat hi;omega
def Wl{f:List Int}(j:Hr f){i:Nat}(_hi:i<f.length){x:Int}(l:0<=x)(o:x<=i):Hr (f.set i x):=by
 intro k g;rw[yO]at g;rw[uC];split
 .rename_i e;subst e;exact⟨l,o⟩
 .exact j k g
def Amu:∀(m k g:Nat) (f:List Int) (i:Int),Hr f->0<=i->i.toNat<f.length->i.toNat<=m->i.toNat+1<=k->i.toNat+1<=g->Asm k f i=Asm g f i
 |m,0,_,_,_,_,_,_,_,h,_=>by omega
 |m,_+1,0,_,_,_,_,_,_,_,h=>by omega
 |m,k+1,g+1,f,i,j,o,hi,hm,r,t=>by
  rw[Asm,Asm];by_cases e:Af f i=i
  .rw[zE e,zE e]
  .rw[zD e,zD e];obtain ⟨p,I⟩:=Mt j o hi;obtain ⟨l,J⟩:=Mt j p (by omega:(Af f i).toNat<f.length)
   match m with
   |0=>omega
   |m+1=>
    exact Amu m k g _ _ (Wl j hi l j_) l (by rw[yO];omega) j_ j_ j_
def A2g{f:List Int}{i:Int}(h:Af f i=i):Uj f i=(f,i):=by rw[Uj,Asm,zE h]
def Asl{f:List Int}{i:Int}(g:Hr f)(l:0<=i)(hi:i.toNat<f.length)(h:Af f i≠i):Uj f i=Uj (f.set i.toNat (Af f (Af f i))) (Af f (Af f i)):=by
 obtain ⟨o,p⟩:=Mt g l hi;obtain ⟨j,r⟩:=Mt g o (by omega:(Af f i).toNat<f.length);rw[Uj,Asm,zD h,Uj];exact Amu i.toNat _ _ _ _ (Wl g hi j j_) j (by rw[yO];omega) j_ j_ j_
def Yd:∀(m:Nat) (f:List Int) (i:Int),Hr f->0<=i->i.toNat<f.length->i.toNat<=m->Hr (Uj f i).1/\(Uj f i).1.length=f.length/\0<=(Uj f i).2/\(Uj f i).2<=i
 |m,f,i,g,j,hi,hm=>by
  by_cases e:Af f i=i
  .rw[A2g e];exact⟨g,rfl,j,wB _⟩
  .obtain ⟨o,I⟩:=Mt g j hi;obtain ⟨l,J⟩:=Mt g o (by omega:(Af f i).toNat<f.length);rw[Asl g j hi e]
   match m with
   |0=>omega
   |m+1=>
    obtain ⟨p,r,t,P⟩:=Yd m _ _ (Wl g hi l j_) l (by rw[yO];omega:(Af f (Af f i)).toNat<(f.set i.toNat (Af f (Af f i))).length) j_;exact⟨p,by rw[r,yO],t,by omega⟩
def Ajo{f:List Int}{a b:Int}(i:Hr f)(g:0<=a/\a.toNat<f.length)(j:0<=b/\b.toNat<f.length):Hr (nH f a b).1/\(nH f a b).1.length=f.length:=by
 obtain ⟨l,p,r,t⟩:=Yd a.toNat f a i g.1 g.2 (yG _);obtain ⟨o,I,J,P⟩:=Yd b.toNat (Uj f a).1 b l j.1 j_ (yG _);unfold nH;dsimp only;generalize Uj (Uj f a).1 b=y at *;generalize Uj f a=x at *;refine⟨Wl o j_ j_ j_,by rw[yO];omega⟩
def Ar0(k:Nat):Hr (Ws k)/\(Ws k).length=k:=by
 refine⟨λi hi=>?_,by simp[Ws]⟩;simp[Ws]
def alJ(k j:Nat):List Int:=(List.range j).map (λi:Nat=>(i:Int))++List.replicate (k-j) 0
def Bdi(k:Nat):alJ k 0=List.replicate k 0:=by simp[alJ]
def Bgc(k j:Nat)(h:j<=k):(alJ k j).length=k:=by simp[alJ];omega
def Bdj(k j:Nat)(h:j<k):(alJ k j).set (j:Int).toNat (j:Int)=alJ k (j+1):=by
 have g:((List.range j).map (λi:Nat=>(i:Int))).length=j:=by simp
 rw[yA,alJ,alJ,uK _ _ j_,g,uU,show k-j=(k-(j+1))+1 by omega,uH,uA,wW,wP,yW];rfl
def aloneS(k:Nat)(t:k<=100000):Sq 294 [Aa k] [] (.osl 900) [(900,.row 1 Aa (Ws k))]:=cT F294 ntmps294 λF I=>by
 have l:alJ k k=Ws k:=by simp[alJ,Ws]
 refine T ?_;refine X (Cw Γ.toTy (d:=6) (n:=k) Aa 0 q_ q_ q_ q_ q_ q_ q_ q_ j_ j_ q_ q_ q_) ?_;refine T ?_;refine Dc (λj:Nat=>j<=k) (λj=>[(3,.osl 1000),(8,Aa k),(9,Aa j)]) (λj=>[(1000,.row 1 Aa (alJ k j))]) (λj=>k-j) 0 [(1000,6)] j_ ⟨⟨q_,q_,zH Aa (by rw[wS]),q_,q_,q_,z_⟩,⟨.inl (zH (Ob.row 1 Aa) (Bdi k)),q_,z_⟩,q_,q_⟩ ?_;intro j o;have g:=Bgc k j o;refine gP ?_ ?_<;>intro h
 .have i:j<k:=qA h;clear h;have J:alJ k j≠[]:=λe=>by rw[e]at g;simp at g;omega
  have p:=Bdj k j i;refine T ?_;refine⟨(j:Int),q_,q_,?_⟩;refine T ?_;exact A8 (j+1) [] i j_ ⟨kA,⟨.inl (zH (Ob.row 1 Aa) p.symm),q_,z_⟩,q_,q_⟩
 .have r:j=k:=qB h;clear h;subst r;rw[l];refine T ?_;exact done q_ As [(900,1000)] [(900,.row 1 Aa (Ws j))] (λ_ h=>h) q_ q_ U
def A43(l:List Int)(p:0<l.length)(P:l.length<2147483648):Sp 296 [.sl 1 Aa l] (Aa (Aul l)):=cT F296 ntmps296 λF R=>by
 have f0:decide ((l.length:Int)<1)=false:=zJ j_;have j:(0:Int).toNat<l.length:=p;have r:Aul l=Al0 (l[(0:Int).toNat]'j) (l.drop 1):=by rw[Aul,Aj j]
 refine T ?_;refine Dc (λx:Nat×Int=>1<=x.1/\x.1<=l.length/\Aul l=Al0 x.2 (l.drop x.1)) (λx=>[(0,.sl 1 Aa l),(3,Aa x.2),(4,Aa x.1)]) (λ_=>[]) (λx=>l.length-x.1) (1,l[(0:Int).toNat]'j) [] ⟨by omega,by omega,r⟩ U ?_;rintro ⟨i,m⟩ ⟨t,I,g⟩;dsimp only at t I g|-;refine gP ?_ ?_<;>intro h
 .have o:i<l.length:=qA h;have ar:(i:Int).toNat<l.length:=o;clear h;rw[yK o,Al0]at g;refine T ?_;refine X (dU q_ q_ q_) ?_;exact A8 (i+1,min m l[i]) [] ⟨by dsimp only;omega,o,g⟩ (by dsimp only;omega) ⟨⟨q_,q_,zH Aa (by dsimp only;show min m l[i]=if l[i]<m then l[i] else m;omega),q_,q_,q_,z_⟩,z_,q_,q_⟩
 .have J:i=l.length:=qB h;clear h;rw[J,wO,Al0]at g;rw[g];exact gA
def topS(f:List Int)(i:Int)(hf:Hr f)(h0:0<=i)(hi:i.toNat<f.length)(hl:f.length<=100000):Sq 361 [.osl 900,Aa i] [(900,.row 1 Aa f)] (Aa (Uj f i).2) [(900,.row 1 Aa (Uj f i).1)]:=cT F361 ntmps361 λF hF=>by
 refine T ?_;refine Dc (λx:List Int×Int=>Hr x.1/\x.1.length=f.length/\0<=x.2/\x.2.toNat<f.length/\Uj f i=Uj x.1 x.2) (λx=>[(0,.osl 900),(1,Aa x.2)]) (λx=>[(900,.row 1 Aa x.1)]) (λx=>x.2.toNat) (f,i) [] ⟨hf,q_,h0,hi,q_⟩ U ?_;rintro ⟨g,k⟩ ⟨l,J,o,h4,p⟩;dsimp only at l J o h4 p|-;have j:k.toNat<g.length:=by omega
 have r:=Aj j;by_cases e:Af g k=k
 .have t:(g[k.toNat]==k)=true:=by rw[<-r];exact beq_iff_eq.mpr e
  have vi:(!(g[k.toNat]==k))=false:=by rw[t];rfl
  rw[p,A2g e];refine T ?_;exact done q_ As [(900,900)] [(900,.row 1 Aa g)] (λ_ h=>h) q_ q_ U
 .obtain ⟨a1,a2⟩:=Mt l o j;obtain ⟨P,b2⟩:=Mt l a1 (by omega:(Af g k).toNat<g.length);have R:(g[k.toNat]'j).toNat<g.length:=by omega
  have vf:Af g (Af g k)=g[(g[k.toNat]'j).toNat]'R:=by rw[r];exact Aj R
  have hs:=Asl l o j e;have t:(g[k.toNat]==k)=false:=by rw[<-r];exact beq_eq_false_iff_ne.mpr e
  have vi:(!(g[k.toNat]==k))=true:=by rw[t];rfl
  refine T ?_;refine⟨Af g (Af g k),zH (λx=>cellsOf (Aa x)) vf,q_,?_⟩;have cq:k.toNat<(g.set k.toNat (Af g (Af g k))).length:=by rw[yO];exact j
  have I:(g.set k.toNat (Af g (Af g k)))[k.toNat]'cq=Af g (Af g k):=uX _;refine T ?_;refine A8 (g.set k.toNat (Af g (Af g k)),Af g (Af g k)) [] ⟨Wl l j P j_,by dsimp only;rw[yO];exact J,P,by dsimp only;omega,by dsimp only;rw[p,hs]⟩ (by dsimp only;omega) ⟨⟨q_,q_,zH Aa I.symm,q_,z_⟩,⟨.inl q_,q_,z_⟩,q_,q_⟩
def Bgv(f:List Int)(a b:Int)(i:Hr f)(g:0<=a/\a.toNat<f.length)(j:0<=b/\b.toNat<f.length)(o:f.length<=100000):Sq 297 [.osl 900,Aa a,Aa b] [(900,.row 1 Aa f)] (Ab (nH f a b).2) [(900,.row 1 Aa (nH f a b).1)]:=cT F297 ntmps297 λF t=>by
 obtain ⟨l,I,J,P⟩:=Yd a.toNat f a i g.1 g.2 (yG _);obtain ⟨R,b2,b3,b4⟩:=Yd b.toNat (Uj f a).1 b l j.1 j_ (yG _);have F1:=topS f a i g.1 g.2 o;have F2:=topS (Uj f a).1 b l j.1 j_ j_;rw[nH];dsimp only;generalize hy:Uj (Uj f a).1 b=y at *;generalize hx:Uj f a=x at *;have hm:(if y.2>x.2 then y.2 else x.2).toNat<y.1.length:=by split<;>omega
 have ax:0<=(if y.2>x.2 then y.2 else x.2):=by split<;>omega
 have p:(max x.2 y.2).toNat=(if y.2>x.2 then y.2 else x.2).toNat:=by rw[Int.max_def];split<;>split<;>omega
 have r:(min x.2 y.2)=(if y.2<x.2 then y.2 else x.2):=by rw[Int.min_def];split<;>split<;>omega
 rw[p,r];refine T ?_;refine X (Ad [(900,900)] q_ F361 F1 q_ W q_ V) ?_;refine T ?_;refine X (Ad [(900,900)] q_ F361 F2 q_ W q_ V) ?_;refine T ?_;refine X (Bcf q_ q_ q_) ?_;refine T ?_;refine X (dU q_ q_ q_) ?_;refine T ?_;refine⟨_,q_,q_,?_⟩;refine T ?_;exact done q_ As [(900,900)] [(900,.row 1 Aa (y.1.set (if y.2>x.2 then y.2 else x.2).toNat (if y.2<x.2 then y.2 else x.2)))] (λ_ h=>h) q_ q_ U
def Acp{n:Ai}{i:Nat}{v:Int}(h:(Ef n i v).2=true)(hi:i<n.g.length):Hk n.g[i] v=true:=by
 have e:Af n.g ((i:Nat):Int)=n.g[i]:=Aj (l:=n.g) (i:=((i:Nat):Int)) hi;unfold Ef at h;split at h
 .rename_i g;unfold Mv at g;split at g
  .rename_i j;rw[e]at j;exact j.2.1
  .cases g
 .cases h
def nE{n:Ai}(j:Ac n=true){f:List Int}{i:Nat}(hi:i<n.g.length){v:Int}(g:Hr f)(r:n.c.length<=f.length):Hr (Ih n f i v)/\(Ih n f i v).length=f.length:=by
 unfold Ih;split
 .rename_i h;have o:=dB h;have hm:Hk n.g[i] v=true:=Acp h hi;have p:=Ac7 j hi hm;have e:Af n.g ((i:Nat):Int)=n.g[i]:=Aj (l:=n.g) (i:=((i:Nat):Int)) hi;rw[e];exact Ajo g ⟨p.1,by omega⟩ ⟨o.1,by omega⟩
 .exact⟨g,q_⟩
def Uc{m:Type}{g:List Int->m->List Int}{k:Nat}:∀{l:List m} {f:List Int},(∀a∈l,∀f,Hr f->k<=f.length->Hr (g f a)/\(g f a).length=f.length)->Hr f->k<=f.length->Hr (l.foldl g f)/\(l.foldl g f).length=f.length
 |[],_,_,h,_=>⟨h,rfl⟩
 |a::l,f,i,h,j=>by
  obtain ⟨o,p⟩:=i a qx f h j;obtain ⟨r,t⟩:=Uc (l:=l) (λb I=>i b (by simp[I])) o (by omega:k<=(g f a).length);exact⟨r,by rw[vG,t,p]⟩
def dA{n:Ai}(g:Ac n=true){f:List Int}{i:Nat}(hi:i<n.g.length)(j:Hr f)(l:n.c.length<=f.length):Hr (Ov n f i)/\(Ov n f i).length=f.length :=
 Uc (λ_ _ _ o p=>nE g hi o p) j l
def Aqq{n:Ai}(g:Ac n=true){f:List Int}(j:Hr f)(l:n.c.length<=f.length):Hr (fJ n f)/\(fJ n f).length=f.length :=
 Uc (λi hi _ o p=>dA g (kS hi) o p) j l
def Arr:=iF Aa 1 F163 ntmps163
def Be8(n:Ai)(f:List Int)(R:n.Fin)(hr:Ac n=true)(hf:Hr f)(hl:n.c.length<=f.length)(i7:f.length<=100000):Sq 295 [Aq n,.osl 900] [(900,.row 1 Aa f)] (.tup []) [(900,.row 1 Aa (fJ n f))]:=cT F295 ntmps295 λF hF=>by
 have hp:n.g.length<2147483648:=R.g;refine T ?_;refine Bi 2 8 (Aq n) q_ q_ q_ (T ?_);refine Bl n.g.length (λj=>[(1,.osl 900),(2,.ref 8 (Aq n) 0),(11,.sl 7 Bm n.g),(12,Aa n.g.length),(13,Aa j)]) (λj=>[(900,.row 1 Aa ((List.range j).foldl (Ov n) f))]) [] U ?_;intro j hj;refine gP ?_ ?_<;>intro h
 .have ab:j<n.g.length:=qA h;have t:(j:Int).toNat<n.g.length:=ab;clear h;have r7:n.g[(j:Int).toNat].u.length<2147483648:=R.u _ (zI t);have a0:n.g[j].u.length<2147483648:=r7;have J:Af n.g ((j:Nat):Int)=n.g[(j:Int).toNat]:=Aj t;obtain ⟨g1,g2⟩:Hr ((List.range j).foldl (Ov n) f)/\((List.range j).foldl (Ov n) f).length=f.length:=Uc (λi hi _ h1 h2=>dA hr (by have:=xD.1 hi;omega) h1 h2) hf hl;refine T ?_;refine Xd (Ad [(0,60)] q_ F163 (Arr n.g[(j:Int).toNat].u r7) q_ z_ q_ ⟨.inr q_,z_⟩) ?_;refine T ?_;refine Xd (Ah Γ.toTy 61 rfl rfl rfl rfl rfl (.row rfl) (.lit (e:=Aa) (l:=[n.g[(j:Int).toNat].native]) rfl rfl) (by intro k hk;cases hk;decide) kO kO) ?_;refine T ?_;refine Bi 5 7 (Bm n.g[(j:Int).toNat]) q_ q_ q_ ?_;have P:(n.g[(j:Int).toNat].u++[n.g[(j:Int).toNat].native]).length=n.g[(j:Int).toNat].u.length+1:=by simp
  refine T ?_;obtain ⟨g,jc⟩:=kE (n.g[(j:Int).toNat].u++[n.g[(j:Int).toNat].native]);have a1:g.length<2147483649:=by rw[<-jc,P];omega
  obtain ⟨o,r⟩:=kE ((List.range j).foldl (Ov n) f);rw[r]at g1 g2;refine Bl g.length (λi=>[(1,.osl 900),(2,.ref 8 (Aq n) 0),(4,Aa j),(5,.ref 7 (Bm n.g[(j:Int).toNat]) 0),(11,.sl 7 Bm n.g),(12,Aa n.g.length),(13,Aa j),(24,.osl 1000),(25,Aa g.length),(26,Aa i)])
   (λi=>[(900,.row 1 Aa ((g.take i).foldl (λf v=>Ih n f j v) o)),(1000,.row 1 Aa g)]) [(1000,61)] ⟨⟨rfl,rfl,rfl,rfl,rfl,rfl,rfl,rfl,rfl,rfl,rfl,rfl,rfl,rfl,rfl,rfl,zH (λl:List Int=>Aa l.length) jc.symm,rfl,rfl,rfl,trivial⟩,⟨.inl (zH (Ob.row 1 Aa) r.symm),rfl,.inl (zH (Ob.row 1 Aa) jc.symm),rfl,trivial⟩,rfl,rfl⟩ ?_
  intro i hi;refine gP ?_ ?_<;>intro h
  .have z7:i<g.length:=qA h;have p:(i:Int).toNat<g.length:=z7;clear h;obtain ⟨e1,e2⟩:Hr ((g.take i).foldl (λf v=>Ih n f j v) o)/\((g.take i).foldl (λf v=>Ih n f j v) o).length=o.length:=Uc (λ_ _ _ h1 h2=>nE hr ab h1 h2) g1 j_;have I:(g.take (i+1)).foldl (λf v=>Ih n f j v) o=Ih n ((g.take i).foldl (λf v=>Ih n f j v) o) j (g[(i:Int).toNat]'p):=by
    rw[zZ z7,xS];rfl
   have q:=Aco n R j (g[(i:Int).toNat]'p);refine gD q F263 ?_;cases hb:(Ef n j (g[(i:Int).toNat]'p)).2
   .have hz:Ih n ((g.take i).foldl (λf v=>Ih n f j v) o) j (g[(i:Int).toNat]'p)=(g.take i).foldl (λf v=>Ih n f j v) o:=by rw[Ih,zD (by rw[hb];decide)]
    rw[hz]at I;refine T ?_;exact A9 [] j_ ⟨kA,⟨.inl (zH (Ob.row 1 Aa) I),q_,.inl q_,q_,z_⟩,q_,q_⟩
   .have br:=dB hb;have hm:Hk (n.g[(j:Int).toNat]'t) (g[(i:Int).toNat]'p)=true:=Acp hb ab;have yk:=Ac7 hr ab hm;have q2:=Tt n R hr (n.g[(j:Int).toNat]'t).q (g[(i:Int).toNat]'p);have hz:Ih n ((g.take i).foldl (λf v=>Ih n f j v) o) j (g[(i:Int).toNat]'p)=(nH ((g.take i).foldl (λf v=>Ih n f j v) o) (Ep n (n.g[(j:Int).toNat]'t).q (g[(i:Int).toNat]'p)) (Ef n j (g[(i:Int).toNat]'p)).1).1:=by rw[Ih,zE hb,J]
    rw[hz]at I;have q3:=Bgv ((g.take i).foldl (λf v=>Ih n f j v) o) (Ep n (n.g[(j:Int).toNat]'t).q (g[(i:Int).toNat]'p)) (Ef n j (g[(i:Int).toNat]'p)).1 e1 ⟨yk.1,xB yk.2 j_⟩ ⟨br.1,by omega⟩ j_;refine gD q2 F195 ?_;refine T ?_;refine X (Ad [(900,900)] q_ F297 q3 q_ W q_ V) ?_;refine T ?_;exact A9 [] j_ ⟨kA,⟨.inl (zH (Ob.row 1 Aa) I),q_,.inl q_,q_,z_⟩,q_,q_⟩
  .have ui:i=g.length:=qB h;clear h;subst ui;have I:(List.range (j+1)).foldl (Ov n) f=(g.take g.length).foldl (λf v=>Ih n f j v) o:=by
    rw[wW,xS,r,yM,<-jc];show Ov n o j=_;rw[Ov,J]
   refine T ?_;exact A9 [] j_ ⟨kA,⟨.inl (zH (Ob.row 1 Aa) I),q_,z_⟩,q_,q_⟩
 .have bu:j=n.g.length:=qB h;clear h;subst bu;refine T ?_;exact Bf q_ .nil [(900,900)] [(900,.row 1 Aa (fJ n f))] (λ_ h=>h) q_ q_ U
def A28:∀(l:List Int) (m:Int),Al0 m l=m\/Al0 m l∈l
 |[],_=>.inl rfl
 |x::l,m=>by
  rw[Al0];rcases A28 l (min m x) with h|h
  .rw[h,Int.min_def];split
   .exact .inl q_
   .exact .inr qx
  .exact .inr (by simp[h])
def Be5{l:List Int}(h:l≠[]):Aul l∈l:=by
 match l,h with
 |x::l,_=>
  show Al0 (Af (x::l) 0) l∈x::l;rw[show Af (x::l) 0=x from rfl];rcases A28 l x with h|h
  .rw[h];simp
  .simp[h]
def loopS(n:Ai)(hn:n.Fin):Sp 226 [Aq n] (.tup [Aa (Wc n).1,Ab (Wc n).2]):=cT F226 ntmps226 λF hF=>by
 have qn:=A7 n hn;have hT:=Wc.eq_1 n;generalize Wc n=a0 at *;cases l:Ac n with
 |false=>
  rw[l]at qn;rw[l,zE rfl]at hT;subst hT;refine gD qn F49 ?_;exact gA
 |true=>
 rw[l]at qn;rw[l,zD qx]at hT;obtain ⟨_,_,_,a1,_⟩:=Ac8 l;obtain ⟨p,a2⟩:=Ar0 (2*n.c.length);have fl:=Aqq l p j_;have q1:=aloneS (2*n.c.length) j_;rw[show ((2*n.c.length:Nat):Int)=2*(n.c.length:Int) from by omega]at q1;have q2:=Be8 n (Ws (2*n.c.length)) hn l p j_ j_;refine gD qn F49 ?_;refine Bi 1 8 (Aq n) q_ q_ q_ (T ?_);refine X (Ad [(900,700)] q_ F294 q1 q_ W q_ V) ?_;refine T ?_;refine X (Ad [(900,700)] q_ F295 q2 q_ W q_ V) ?_;refine T ?_;refine Dc (λx:Nat×List Int=>x.1<=n.c.length/\Hr x.2/\x.2.length=2*n.c.length/\a0=We n x.2 x.1 (n.c.drop x.1)) (λx=>[(1,.ref 8 (Aq n) 0),(4,Aa n.c.length),(5,.osl 1000),(22,.sl 6 Ax n.c),(23,Aa n.c.length),(24,Aa x.1)])
  (λx=>[(1000,.row 1 Aa x.2)]) (λx=>n.c.length-x.1) (0,fJ n (Ws (2*n.c.length))) [(1000,700)] ⟨by omega,fl.1,by dsimp only;rw[fl.2,a2],hT⟩ U ?_
 rintro ⟨i,f⟩ ⟨h1,h2,h3,j⟩;dsimp only at h1 h2 h3 j|-;refine gP ?_ ?_<;>intro h
 .have t:i<n.c.length:=qA h;have I:(i:Int).toNat<n.c.length:=t;clear h;rw[yK t,We]at j;have bd:n.c[(i:Int).toNat].ae.length<2147483648:=hn.ae _ (zI I);refine gP ?_ ?_<;>intro h
  .have J:n.c[i].ae=[]:=yF (by have:=o h;have e:(n.c[(i:Int).toNat]'I).ae.length=n.c[i].ae.length:=rfl;omega);clear h;rw[zE J]at j;refine T ?_;exact A8 (i+1,f) [] ⟨t,h2,h3,j⟩ (by dsimp only;omega) kU
  have J:n.c[i].ae≠[]:=λe=>by
   have e2:(n.c[(i:Int).toNat]'I).ae=[]:=e;rw[e2]at h;cases h
  clear h;rw[zD J]at j;dsimp only at j;have yl:=A1i l t (Be5 J);have qm:=A43 (n.c[(i:Int).toNat]'I).ae (by have:=xP.2 J;exact this) bd;obtain ⟨m,hm⟩:=kE (Aul (n.c[(i:Int).toNat]'I).ae);have ky:Aul n.c[i].ae=m:=hm;have P:min (i:Int) m=if m<(i:Int) then m else (i:Int):=by rw[Int.min_def];split<;>split<;>omega
  rw[hm]at qm;rw[ky]at j yl;rw[P]at j;have a4:0<=(if m<(i:Int) then m else (i:Int))/\(if m<(i:Int) then m else (i:Int))<n.c.length:=by split<;>omega
  have q3:=Bgv f i ((n.c.length:Int)+(if m<(i:Int) then m else (i:Int))) h2 ⟨by omega,by omega⟩ ⟨by omega,by omega⟩ j_;have R:=Ajo h2 (⟨by omega,by omega⟩:0<=(i:Int)/\(i:Int).toNat<f.length) (⟨by omega,by omega⟩:0<=(n.c.length:Int)+(if m<(i:Int) then m else (i:Int))/\((n.c.length:Int)+(if m<(i:Int) then m else (i:Int))).toNat<f.length);have a3:(n.c.length:Int)+(if m<(i:Int) then m else (i:Int))<100:=by omega
  generalize (nH f i ((n.c.length:Int)+(if m<(i:Int) then m else (i:Int))))=r at *;obtain ⟨g,ok⟩:=r;dsimp only at j R;refine gD qm F296 ?_;refine T ?_;refine X (dU q_ q_ q_) ?_;refine T ?_;refine X (Ad [(900,1000)] q_ F297 q3 q_ W q_ V) ?_;cases ok with
  |false=>
   rw[zE rfl]at j;rw[j];exact gA
  |true=>
   rw[zD qq]at j;refine T ?_;exact A8 (i+1,g) [] ⟨t,R.1,by dsimp only;omega,j⟩ (by dsimp only;omega) kU
 .have ui:i=n.c.length:=qB h;clear h;rw[ui,wO,We]at j;rw[j];exact gA
def Abp(g i:Int)(M:List A2)(n:Ai)(row e:Int):List SV:=[.val (.int .u32 g),.val (.int .i32 i),.val (.int .u32 0),.sl 17 Be M]++Eo n++[Aa row,Aa e]
def L9(g i:Int)(M:List A2)(x:Ai×Int×Int):It:=[(0,.box (Abp g i M x.1 x.2.1 x.2.2))]
def Ba8{n:Ai}(h:(Dj n).2.2=0):(Dj n).2.1=0:=by
 unfold Dj at h|-;split
 .rfl
 rename_i g;rw[zD g]at h;split at h
 .cases h
 .rename_i j;split at h
  .cases h
  .rename_i i;rw[zD i]
def Ayu(M:List A2)(hM:∀l∈M,E7 l)(hl:M.length<2147483648)(i o:Int):Sq 152 [.ptr 0 0] (L9 i o M (Au,0,0)) (.tup []) (L9 i o M (E6 M)):=cT F152 ntmps152 λF hF=>by
 refine T ?_;refine Dc (λx:Nat×Ai=>x.1<=M.length/\x.2.Fin/\Eb x.2/\E6 M=Bw x.2 (M.drop x.1)) (λx=>[(0,.ptr 0 0),(9,.sl 17 Be M),(10,Aa M.length),(11,Aa x.1)]) (λx=>L9 i o M (x.2,0,0)) (λx=>M.length-x.1) (0,Au) [] ⟨by omega,Qs,(λx hx=>by cases hx),rfl⟩ U ?_;rintro ⟨j,n⟩ ⟨hj,J,R,I⟩;dsimp only at hj J R I|-;refine gP ?_ ?_<;>intro h
 .have ab:j<M.length:=qA h;have g:(j:Int).toNat<M.length:=ab;clear h;have hw:=hM _ (zI g);have q:=Be4 n J R _ hw;have hp:=A2z J R hw;rw[yK ab,Bw]at I;refine T ?_;refine cD q F224 ?_;refine gP ?_ ?_<;>intro h
  .have P:(La n (M[(j:Int).toNat]'g)).2≠0:=by intro e;rw[e]at h;cases h
   have p:=hp.none P;have r:E6 M=(Au,(M[(j:Int).toNat]'g).row,(La n (M[(j:Int).toNat]'g)).2):=I.trans (zE P);rw[r,<-p];clear h;refine T ?_;exact done q_ .nil [] (L9 i o M ((La n (M[(j:Int).toNat]'g)).1,(M[(j:Int).toNat]'g).row,(La n (M[(j:Int).toNat]'g)).2)) (λ_ h=>h) q_ q_ U
  .have p:(La n (M[(j:Int).toNat]'g)).2=0:=by simpa using h
   have r:E6 M=Bw (La n (M[(j:Int).toNat]'g)).1 (M.drop (j+1)):=I.trans (zD (λhh=>hh p));clear h;refine T ?_;exact A8 (j+1,(La n (M[(j:Int).toNat]'g)).1) [] ⟨ab,hp.fin,hp.aa,r⟩ (by dsimp only;omega) ⟨kA,⟨.inl (zH (λe:Int=>Ob.box (Abp i o M (La n (M[(j:Int).toNat]'g)).1 0 e)) p.symm),q_,z_⟩,q_,q_⟩
 .have bu:j=M.length:=qB h;clear h;rw[bu,wO,Bw]at I;rw[I];have qm:=meshS n J;have t:=Lc.eq_1 n;refine gD qm F225 ?_;refine gP ?_ ?_<;>intro h
  .have P:(Dj n).2.2≠0:=by intro e;rw[e]at h;cases h
   rw[zE P]at t;rw[t];clear h;refine T ?_;exact done q_ .nil [] (L9 i o M (Dj n)) (λ_ h=>h) q_ q_ U
  have p:(Dj n).2.2=0:=kS h;clear h;have dx:(Dj n).2.1=0:=Ba8 p;rw[zD (by rw[p];decide)]at t;have ql:=loopS (Dj n).1 (Anj J);refine gD ql F226 ?_;refine gP ?_ ?_<;>intro h
  .rw[zE h]at t;rw[t];clear h;refine T ?_;refine An 0 (Abp i o M Au (Wc (Dj n).1).1 38) q_ vL ?_;exact Bf q_ .nil [] (L9 i o M (Au,(Wc (Dj n).1).1,38)) (λ_ h=>h) q_ q_ U
  .rw[zD (by rw[h];decide)]at t;rw[t];clear h;refine T ?_;exact Bf q_ .nil [] (L9 i o M ((Dj n).1,0,0)) (λ_ h=>h) q_ q_ ⟨z_,⟨.inl (zH (λa:Int×Int=>Ob.box (Abp i o M (Dj n).1 a.1 a.2)) (Prod.ext dx.symm p.symm:((0:Int),(0:Int))=(Dj n).2)),q_,z_⟩,q_,q_⟩
end Go.Sy.Zaa
