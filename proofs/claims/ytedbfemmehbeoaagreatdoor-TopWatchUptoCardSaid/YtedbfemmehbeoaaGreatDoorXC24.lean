/- Parts of a proof. -/
import Derived.Test.YtedbfemmehbeoaaGreatDoorXC23
set_option linter.all false
namespace Go.Sy.Zaa
open Go.Proofs Go.Proofs.Tryz
def Succ(n:Ai)(x y:Int×Int):Prop:=(∃h∈J0 n x.1,y=(h.l,x.2))\/(x.2=0/\∃q∈Hw n x.1,y=(q.l,1))
def Start(n:Ai)(p:Int)(x:Int×Int):Prop:=∃v∈(Af n.g p).native::(Af n.g p).u,v≠0/\x=(D2 n (Af n.g p).q v,0)
inductive bE(n:Ai)(p:Int):Nat->Int×Int->Prop
 |start {x:Int×Int}:Start n p x->bE n p 0 x
 |step {k:Nat} {x y:Int×Int}:bE n p k x->Succ n x y->bE n p (k+1) y
inductive eU(n:Ai)(p:Int):List Kg->Int×Int->Prop
 |start {d:Int}:Start n p (d,0)->eU n p [⟨0,0,d,0⟩] (d,0)
 |hop {l:List Kg} {x:Int×Int} {h:Kg}:eU n p l x->h∈J0 n x.1->eU n p (l++[h]) (h.l,x.2)
 |lead {l:List Kg} {x:Int×Int} {q:lL}:eU n p l x->x.2=0->q∈Hw n x.1->eU n p (l++[⟨3,0,q.l,q.addr⟩]) (q.l,1)
theorem eU.ch{n:Ai}{p:Int}{l:List Kg}{x:Int×Int}(h:eU n p l x):∃k,l.length=k+1/\bE n p k x:=by
 induction h with
 |start o=>exact⟨0,rfl,.start o⟩
 |hop _ r g=>
  obtain ⟨k,i,j⟩:=g;exact⟨k+1,by rw[zR,i];rfl,.step j (.inl ⟨_,r,q_⟩)⟩
 |lead _ t I g=>
  obtain ⟨k,i,j⟩:=g;exact⟨k+1,by rw[zR,i];rfl,.step j (.inr ⟨t,_,I,q_⟩)⟩
def Yr(l:List Fnd)(i:Int):Nat:=(Mw l i).length
def Auw(l:List Fnd):Yr l (-1)=0:=by
 rw[Yr,Mw,dif_neg (λh=>by omega)];rfl
def Z1{l m:List Fnd}(g:Hu l){i:Int}(h:i<l.length):Yr (l++m) i=Yr l i:=by
 rw[Yr,aN g (i+1).toNat i j_ h,Yr]
def Bbq{l:List Fnd}(g:Hu l){f:Fnd}(i:-1<=f.ahead/\f.ahead<l.length):Yr (l++[f]) (l.length:Int)=Yr l f.ahead+1:=by
 have:=zH List.length (Ak0 g i);rw[zR,yD]at this;simpa [Ia,Yr] using this
def Aux(l:List Fnd)(i:Int):Yr l i=(Ia l i).length:=by simp[Yr,Ia]
def cU{l m:List Fnd}{b:Nat}(h:b<l.length):Af (l++m) (b:Int)=Af l (b:Int):=oZ (kS h)
def Ai7(l:List Fnd)(f:Fnd):Af (l++[f]) (l.length:Int)=f:=by
 rw[Aj (l:=l++[f]) (i:=(l.length:Int)) qx];simp
structure BI(n:Ai)(p:Int)(S:Dn)(a:Int):Prop where
 met:Met n S
 mono:∀b c:Nat,b<=c->c<S.list.length->Yr S.list b<=Yr S.list c
 bf:∀b:Nat,b<S.list.length->Yr S.list b<=Yr S.list a+1
 ch:∀b:Nat,b<S.list.length->eU n p (Ia S.list b) ((Af S.list b).l,(Af S.list b).kind)
def Ae9(l:List Fnd)(x:Int×Int)(m:Nat):Prop:=∃b:Nat,b<l.length/\(Af l (b:Int)).l=x.1/\(Af l (b:Int)).kind=x.2/\Yr l (b:Int)<=m
theorem Ae9.app{l e:List Fnd}(g:Hu l){x:Int×Int}{m:Nat}:Ae9 l x m->Ae9 (l++e) x m:=λ⟨b,h1,h2,h3,h4⟩=>
 ⟨b,by rw[zR];omega,by rw[cU h1];exact h2,by rw[cU h1];exact h3,by rw[Z1 g j_];exact h4⟩
theorem BI.meet{n:Ai}{p:Int}{S:Dn}{a:Int}(h:BI n p S a)(t:-1<=a/\a<S.list.length){d k:Int}(hd:0<=d/\d.toNat<n.c.length)(hk:k=0\/k=1){hp:Kg}(hh:hp.l=d)(hw:eU n p (Ia S.list a++[hp]) (d,k)):BI n p (Hf S d k hp a) a/\Ae9 (Hf S d k hp a).list (d,k) (Yr S.list a+1)/\∃e,(Hf S d k hp a).list=S.list++e:=by
 have hm:=h.met.meet hd hk hh t;have r:=h.met.bk;cases j:Z0 S d k with
 |true=>
  have e:Hf S d k hp a=S:=by rw[Hf,zE j]
  rw[e];refine⟨h,?_,[],by simp⟩;obtain ⟨f,hf,f1,f2⟩:=(h.met.m d hd k hk).1 j;obtain ⟨b,P,rfl⟩:=wH hf;have e2:Af S.list (b:Int)=S.list[b]:=Aj (l:=S.list) (i:=((b:Nat):Int)) P;exact⟨b,P,by rw[e2];exact f1,by rw[e2];exact f2,h.bf b P⟩
 |false=>
  have e:(Hf S d k hp a).list=S.list++[⟨d,k,hp,a⟩]:=by rw[Hf,zD (by rw[j];decide),Aab]
  have R:=Bbq r (f:=⟨d,k,hp,a⟩) t;have gb:Yr (S.list++[⟨d,k,hp,a⟩]) a=Yr S.list a:=Z1 r t.2;have a1:(S.list++[(⟨d,k,hp,a⟩:Fnd)]).length=S.list.length+1:=by simp
  dsimp only at R;have I:∀b:Nat,b<(S.list++[(⟨d,k,hp,a⟩:Fnd)]).length->(b<S.list.length/\Yr (S.list++[⟨d,k,hp,a⟩]) (b:Int)=Yr S.list (b:Int))\/(b=S.list.length/\Yr (S.list++[⟨d,k,hp,a⟩]) (b:Int)=Yr S.list a+1):=λb j=>by
   by_cases hl:b<S.list.length
   .exact .inl ⟨hl,Z1 r j_⟩
   .have:b=S.list.length:=by omega
    subst this;exact .inr ⟨q_,R⟩
  refine⟨⟨hm,?_,?_,?_⟩,?_,[⟨d,k,hp,a⟩],e⟩
  .rw[e];intro b c a0 hc;rcases I c hc with ⟨c1,J⟩|⟨c1,J⟩<;>rcases I b j_ with ⟨g,o⟩|⟨g,o⟩
   .rw[J,o];exact h.mono b c a0 c1
   .omega
   .rw[J,o];exact h.bf b g
   .rw[J,o];exact yG _
  .rw[e];intro b j;rw[gb];rcases I b j with ⟨g,o⟩|⟨g,o⟩
   .rw[o];exact h.bf b g
   .rw[o];exact yG _
  .rw[e];intro b j;rcases I b j with ⟨g,_⟩|⟨g,_⟩
   .rw[Vk r j_,cU g];exact h.ch b g
   .subst g;rw[Ak0 r (f:=⟨d,k,hp,a⟩) t,Ai7];exact hw
  .rw[e];exact⟨S.list.length,by omega,by rw[Ai7],by rw[Ai7],by rw[R];exact yG _⟩
theorem BI.ext1{n:Ai}{p:Int}{a k:Int}(o:k=0\/k=1):∀{l:List Kg} {S:Dn},BI n p S a->(-1<=a/\a<S.list.length)->(∀h∈l,(0<=h.l/\h.l.toNat<n.c.length)/\eU n p (Ia S.list a++[h]) (h.l,k)) ->
  BI n p (Go.Sy.Zaa.ext1 S k a l) a/\(∀h∈l,Ae9 (Go.Sy.Zaa.ext1 S k a l).list (h.l,k) (Yr S.list a+1))/\∃e,(Go.Sy.Zaa.ext1 S k a l).list=S.list++e
 |[],S,h,_,_=>⟨h,λ_ J=>(by cases J),[],by simp[Go.Sy.Zaa.ext1]⟩
 |x::l,S,h,i,r=>by
  obtain ⟨P,R⟩:=r x qx;obtain ⟨t,m2,e,j⟩:=h.meet i P o (hp:=x) rfl R;have gb:Yr (Hf S x.l k x a).list a=Yr S.list a:=by rw[j];exact Z1 h.met.bk i.2
  have z8:Ia (Hf S x.l k x a).list a=Ia S.list a:=by rw[j];exact Vk h.met.bk i.2
  obtain ⟨i1,i2,e2,I⟩:=BI.ext1 o (l:=l) t ⟨i.1,by rw[j,zR];omega⟩ (λy g=>by rw[z8];exact r y (by simp[g]));refine⟨i1,λy g=>?_,e++e2,?_⟩
  .rcases yH.1 g with rfl|g
   .show Ae9 (Go.Sy.Zaa.ext1 (Hf S y.l k y a) k a l).list _ _;rw[I];exact m2.app t.met.bk
   .have:=i2 y g;rw[gb]at this;exact this
  .show (Go.Sy.Zaa.ext1 (Hf S x.l k x a) k a l).list=_;rw[I,j,yW]
theorem BI.ext2{n:Ai}{p:Int}{a:Int}:∀{l:List lL} {S:Dn},BI n p S a->(-1<=a/\a<S.list.length)->(∀h∈l,(0<=h.l/\h.l.toNat<n.c.length)/\eU n p (Ia S.list a++[⟨3,0,h.l,h.addr⟩]) (h.l,1)) ->
  BI n p (Go.Sy.Zaa.ext2 S a l) a/\(∀h∈l,Ae9 (Go.Sy.Zaa.ext2 S a l).list (h.l,1) (Yr S.list a+1))/\∃e,(Go.Sy.Zaa.ext2 S a l).list=S.list++e
 |[],S,h,_,_=>⟨h,λ_ I=>(by cases I),[],by simp[Go.Sy.Zaa.ext2]⟩
 |x::l,S,h,i,o=>by
  obtain ⟨J,P⟩:=o x qx;obtain ⟨r,R,e,j⟩:=h.meet i J (.inr rfl) (hp:=⟨3,0,x.l,x.addr⟩) rfl P;have gb:Yr (Hf S x.l 1 ⟨3,0,x.l,x.addr⟩ a).list a=Yr S.list a:=by rw[j];exact Z1 h.met.bk i.2
  have z8:Ia (Hf S x.l 1 ⟨3,0,x.l,x.addr⟩ a).list a=Ia S.list a:=by rw[j];exact Vk h.met.bk i.2
  obtain ⟨i1,i2,e2,t⟩:=BI.ext2 (l:=l) r ⟨i.1,by rw[j,zR];omega⟩ (λy g=>by rw[z8];exact o y (by simp[g]));refine⟨i1,λy g=>?_,e++e2,?_⟩
  .rcases yH.1 g with rfl|g
   .show Ae9 (Go.Sy.Zaa.ext2 (Hf S y.l 1 ⟨3,0,y.l,y.addr⟩ a) a l).list _ _;rw[t];exact R.app r.met.bk
   .have:=i2 y g;rw[gb]at this;exact this
  .show (Go.Sy.Zaa.ext2 (Hf S x.l 1 ⟨3,0,x.l,x.addr⟩ a) a l).list=_;rw[t,j,yW]
theorem BI.ext{n:Ai}{p:Int}{S:Dn}{i:Nat}(h:BI n p S (i:Int))(hi:i<S.list.length):BI n p (Y4 n S (i:Int)) (i:Int)/\(∀y,Succ n ((Af S.list (i:Int)).l,(Af S.list (i:Int)).kind) y->Ae9 (Y4 n S (i:Int)).list y (Yr S.list (i:Int)+1))/\∃e,(Y4 n S (i:Int)).list=S.list++e:=by
 have I:=h.ch i hi;have r:-1<=(i:Int)/\(i:Int)<S.list.length:=⟨by omega,by omega⟩
 have pp:=(h.met.ok.az _ (show Af S.list (i:Int)∈S.list by rw[Aj (l:=S.list) (i:=(i:Int)) (kS hi)];exact zI _)).2;rw[Y4];by_cases j:(Af S.list (i:Int)).kind=0
 .rw[zE j];obtain ⟨t,J,e,o⟩:=h.ext1 (k:=0) (.inl rfl) (l:=J0 n (Af S.list (i:Int)).l) r (λx g=>⟨Yz g,by have:=eU.hop I (h:=x) g;dsimp only at this;rw[j]at this;exact this⟩);have z8:Ia (Go.Sy.Zaa.ext1 S 0 (i:Int) (J0 n (Af S.list (i:Int)).l)).list (i:Int)=Ia S.list (i:Int):=by rw[o];exact Vk h.met.bk r.2
  have gb:Yr (Go.Sy.Zaa.ext1 S 0 (i:Int) (J0 n (Af S.list (i:Int)).l)).list (i:Int)=Yr S.list (i:Int):=by rw[o];exact Z1 h.met.bk r.2
  obtain ⟨j1,j2,e2,P⟩:=t.ext2 (l:=Hw n (Af S.list (i:Int)).l) ⟨r.1,by rw[o,zR];omega⟩ (λx g=>⟨Zn g,by rw[z8];exact eU.lead I j g⟩);refine⟨j1,?_,e++e2,by rw[P,o,yW]⟩;rintro y (⟨x,g,rfl⟩|⟨_,q,hq,rfl⟩)
  .have:=J x g;rw[P];rw[j];exact this.app t.met.bk
  .have:=j2 q hq;rw[gb]at this;exact this
 .have R:(Af S.list (i:Int)).kind=1:=pp.resolve_left j;rw[zD j];obtain ⟨t,J,e,o⟩:=h.ext1 (k:=1) (.inr rfl) (l:=J0 n (Af S.list (i:Int)).l) r (λx g=>⟨Yz g,by have:=eU.hop I (h:=x) g;dsimp only at this;rw[R]at this;exact this⟩);refine⟨t,?_,e,o⟩;rintro y (⟨x,g,rfl⟩|⟨h2,_⟩)
  .rw[R];exact J x g
  .exact zW h2 j
structure SI(n:Ai)(p to:Int)(S:Dn)(i:Nat):Prop where
 met:Met n S
 mono:∀b c:Nat,b<=c->c<S.list.length->Yr S.list b<=Yr S.list c
 bf:i<S.list.length->∀b:Nat,b<S.list.length->Yr S.list b<=Yr S.list i+1
 ch:∀b:Nat,b<S.list.length->eU n p (Ia S.list b) ((Af S.list b).l,(Af S.list b).kind)
 succ:∀j:Nat,j<i->j<S.list.length->∀y,Succ n ((Af S.list (j:Int)).l,(Af S.list (j:Int)).kind) y->Ae9 S.list y (Yr S.list (j:Int)+1)
 start:∀y,Start n p y->Ae9 S.list y 1
 goal:∀j:Nat,j<i->j<S.list.length->Li (Ci n (Af S.list (j:Int)).l) to=false
theorem SI.bi{n:Ai}{p r:Int}{S:Dn}{i M:Nat}(h:SI n p r S i)(l:∀b:Nat,b<S.list.length->Yr S.list (b:Int)<=M->b<i):∀(m:Nat) (x:Int×Int),bE n p m x->m<=M->Ae9 S.list x (m+1)
 |0,x,g,_=>by
  cases g with
  |start j=>exact h.start x j
 |m+1,x,g,hm=>by
  cases g with
  |step g j=>
   rename_i y;obtain ⟨b,o,t,I,b4⟩:=h.bi l m y g j_;obtain ⟨c,J,P,R,c4⟩:=h.succ b (l b o j_) o x (by rw[t,I];exact j);exact⟨c,J,P,R,by omega⟩
theorem SI.none{n:Ai}{p g:Int}{S:Dn}{i M:Nat}(h:SI n p g S i)(j:∀b:Nat,b<S.list.length->Yr S.list (b:Int)<=M->b<i){m:Nat}{x:Int×Int}(o:bE n p m x)(r:Li (Ci n x.1) g=true):M<=m:=by
 by_cases hm:m<M
 .obtain ⟨b,l,t,I,J⟩:=h.bi j m x o j_;have:=h.goal b (j b l j_) l;rw[t,r]at this;cases this
 .omega
theorem SI.next{n:Ai}{p t:Int}{S:Dn}{i:Nat}(h:SI n p t S i)(hi:i<S.list.length)(P:Li (Ci n (Af S.list (i:Int)).l) t=false):SI n p t (Y4 n S (i:Int)) (i+1)/\i+1<=(Y4 n S (i:Int)).list.length:=by
 obtain ⟨l,R,e,g⟩:=BI.ext (p:=p) ⟨h.met,h.mono,h.bf hi,h.ch⟩ hi;have I:=h.met.bk;refine⟨⟨l.met,l.mono,λjg b hb=>?_,l.ch,λj hj dw y o=>?_,λy o=>?_,λj hj dw=>?_⟩,?_⟩
 .have h1:=l.bf b hb;have h2:=l.mono i (i+1) j_ jg;omega
 .have r:j<S.list.length:=by omega
  rw[g,cU r]at o;rw[g,Z1 I j_,<-g];by_cases J:j=i
  .subst J;exact R y o
  .rw[g];exact(h.succ j j_ r y o).app I
 .rw[g];exact(h.start y o).app I
 .have r:j<S.list.length:=by omega
  rw[g,cU r];by_cases J:j=i
  .subst J;exact P
  .exact h.goal j j_ r
 .rw[g,zR];omega
def Abr{n:Ai}{p g:Int}:∀(k:Nat) (S:Dn) (i:Nat),SI n p g S i->i<=S.list.length->2*n.c.length+1<=i+k ->
  ((Jj n g k S i).2=true->∃m x,bE n p m x/\Li (Ci n x.1) g=true/\(Jj n g k S i).1.length=m+1/\eU n p (Jj n g k S i).1 x/\∀j l,bE n p j l->Li (Ci n l.1) g=true->m<=j) /\
  ((Jj n g k S i).2=false->(Jj n g k S i).1=[]/\∀j l,bE n p j l->Li (Ci n l.1) g=true->False)
 |0,S,i,h,hi,hk=>by
  have:=h.met.ok.le;omega
 |k+1,S,i,h,hi,hk=>by
  rw[Jj];by_cases o:i<S.list.length
  .rw[zE o];cases J:Li (Ci n (Af S.list (i:Int)).l) g with
   |true=>
    rw[zE rfl];refine⟨λ_=>?_,λr=>by cases r⟩;have P:=h.ch i o;obtain ⟨m,hm,hw⟩:=P.ch;rw[<-Aux]at hm;refine⟨m,_,hw,J,?_,P,λj l t I=>?_⟩
    .show (Ia S.list (i:Int)).length=_;rw[<-Aux];exact hm
    .refine h.none (M:=m) (λb R tq=>?_) t I;by_cases uv:b<i
     .exact uv
     .have:=h.mono i b j_ R;omega
   |false=>
    rw[zD qq];obtain ⟨h1,h2⟩:=h.next o J;exact Abr k _ (i+1) h1 h2 j_
  .rw[zD o];refine⟨λr=>(by cases r),λ_=>⟨rfl,λj l t I=>?_⟩⟩;have:=h.none (M:=j+1) (λb R _=>by omega) t I;omega
def Bda{n:Ai}(hr:Ac n=true){p:Int}(hp:0<=p/\p.toNat<n.g.length)(to:Int):SI n p to (I1 n p) 0:=by
 have e:Af n.g p=n.g[p.toNat]:=Aj hp.2;have t:∀v∈(Af n.g p).native::(Af n.g p).u,v≠0->0<=D2 n (Af n.g p).q v/\(D2 n (Af n.g p).q v).toNat<n.c.length:=by
  rw[e];exact λv t g=>Qt hr hp.2 t g
 have key:∀(l:List Int) (S:Dn),BI n p S (-1)->(∀v∈l,v∈(Af n.g p).native::(Af n.g p).u)->BI n p (l.foldl (Qh n (Af n.g p).q) S) (-1)/\(∀v∈l,v≠0->Ae9 (l.foldl (Qh n (Af n.g p).q) S).list (D2 n (Af n.g p).q v,0) 1)/\∃x,(l.foldl (Qh n (Af n.g p).q) S).list=S.list++x:=by
  intro l
  induction l with
  |nil=>exact λS h _=>⟨h,λ_ hx=>(by cases hx),[],by simp⟩
  |cons v l ih=>
   intro S h R;rw[vG,Qh];by_cases g:v=0
   .rw[zE g];obtain ⟨r,I,x,J⟩:=ih S h (λw o=>R w (by simp[o]));refine⟨r,λw o kz=>?_,x,J⟩;rcases yH.1 o with rfl|o
    .exact zW g kz
    .exact I w o kz
   .rw[zD g];have v7:=R v qx;obtain ⟨m1,m2,x,m3⟩:=h.meet (a:=-1) j_ (t v v7 g) (.inl rfl) (hp:=⟨0,0,D2 n (Af n.g p).q v,0⟩) rfl (by rw[A10];exact .start ⟨v,v7,g,rfl⟩);obtain ⟨r,I,y,J⟩:=ih _ m1 (λw o=>R w (by simp[o]));refine⟨r,λw o kz=>?_,x++y,by rw[J,m3,yW]⟩;rcases yH.1 o with rfl|o
    .rw[J];rw[Auw]at m2;exact m2.app m1.met.bk
    .exact I w o kz
 have g:BI n p (Q5 n) (-1):=by
  refine⟨⟨Ast n,λi hi=>by simp[Q5]at hi,λf hf=>by simp[Q5]at hf,λd hd k hk=>?_⟩,λb c _ hc=>by simp[Q5]at hc,λb P=>by simp[Q5]at P,λb P=>by simp[Q5]at P⟩;constructor
  .intro hm;have:Z0 (Q5 n) d k=false:=by
    unfold Z0 Q5;dsimp only;split<;>(rw[Aj (by rw[wS];exact hd.2)];simp)
   rw[this]at hm;cases hm
  .rintro ⟨f,hf,_⟩;simp[Q5]at hf
 obtain ⟨r,I,x,J⟩:=key ((Af n.g p).native::(Af n.g p).u) (Q5 n) g (λv t=>t);refine⟨r.met,r.mono,λR b P=>?_,r.ch,λj hj=>by omega,?_,λj hj=>by omega⟩
 .have h1:=r.bf b P;rw[Auw]at h1;show Yr (I1 n p).list (b:Int)<=_;have h1:Yr (I1 n p).list (b:Int)<=0+1:=h1;omega
 .rintro y ⟨v,t,g,rfl⟩;exact I v t g
def A36{n:Ai}{p g:Int}:((Kh n p g).2=true->Ac n=true/\Qq n p=true/\Qq n g=true/\p≠g/\∃m x,bE n p m x/\Li (Ci n x.1) g=true/\(Kh n p g).1.length=m+1/\eU n p (Kh n p g).1 x/\∀l j,bE n p l j->Li (Ci n j.1) g=true->m<=l) /\
  ((Kh n p g).2=false->(Kh n p g).1=[]/\(Ac n=true->Qq n p=true->Qq n g=true->p≠g->∀l j,bE n p l j->Li (Ci n j.1) g=true->False)):=by
 rw[Kh];split
 .rename_i i;obtain ⟨r,o⟩:=Abr (2*n.c.length+1) (I1 n p) 0 (Bda i.2.2.2 (dG i.1) g) (xV _) j_;exact⟨λh=>⟨i.2.2.2,i.1,i.2.1,i.2.2.1,r h⟩,λh=>⟨(o h).1,λ_ _ _ _=>(o h).2⟩⟩
 .rename_i i;exact⟨λh=>(by cases h),λ_=>⟨rfl,λt I J P=>zW ⟨I,J,P,t⟩ i⟩⟩
def Aun{n:Ai}(j:Ac n=true){d p:Int}(l:0<=d/\d.toNat<n.c.length):p∈Ci n d↔(0<=p/\p.toNat<n.g.length)/\(Af n.g p).q=(Af n.c d).q/\Hk (Af n.g p) (Af n.c d).z=true:=by
 rw[Ci,zE ⟨⟨l.1,by omega⟩,j⟩,Bz,Ti];constructor
 .rintro ⟨g,o,i⟩;rw[aV,yQ g]at i;simp only[zG,yL]at i;exact⟨⟨g,by omega⟩,i⟩
 .rintro ⟨⟨g,o⟩,i⟩;refine⟨g,by omega,?_⟩;rw[aV,yQ g];simpa using i
def dom_of{n:Ai}{dev v:Int}(h:0<=Ep n dev v):(0<=Ep n dev v/\(Ep n dev v).toNat<n.c.length)/\(Af n.c (Ep n dev v)).q=dev/\(Af n.c (Ep n dev v)).z=v:=by
 have g:Ep n dev v=Bt (λd:A0=>d.q==dev&&d.z==v) n.c:=rfl;obtain ⟨a,b⟩:=Bfe (p:=λd:A0=>d.q==dev&&d.z==v) g.symm h;simp only[zG,yL]at b;exact⟨⟨h,a⟩,by rw[Aj a];exact b.1,by rw[Aj a];exact b.2⟩
def Anc{n:Ai}(o:Ac n=true){d k:Int}(g:0<=d/\d.toNat<n.c.length)(i:k∈(Af n.c d).ae):(0<=k/\k.toNat<n.c.length)/\d∈(Af n.c k).ae:=by
 rw[Aj g.2]at i;refine⟨A1i o g.2 i,?_⟩;have h:=o;simp only[Ac,zG]at h;have r:=Cm.1 h.1.1.1.1.1.1.2 _ g.2;obtain ⟨j,t,e⟩:=yY.1 i;have l:=Cm.1 r j t;rw[e]at l;simp only[Yn,zG]at l;have p:Li (Af n.c k).ae ((d.toNat:Nat):Int)=true:=l.1.2;rw[yQ g.1]at p;simpa [Li] using p
def fI{s:ByteArray}(h:A5 s=true){c:UInt8}(i:A61 c=false)(j:M6 c=false):c∉s.data.toList:=by
 simp only[A5,zG]at h;intro hm;have g:=h.1;generalize s.data.toList=l at *;cases l with
 |nil=>cases hm
 |cons x l=>
  simp only[Ba2,zG,yX,yR]at g;rcases yH.1 hm with rfl|hm
  .rw[i]at g;cases g.1
  .rcases g.2 c hm with h|h
   .rw[i]at h;cases h
   .rw[j]at h;cases h
def Asu(l:List ByteArray)(i:l≠[])(h:∀x∈l,(32:UInt8)∉x.data.toList):Bd 32 (Hs l ⟨#[32]⟩)=l:=by
 cases l with
 |nil=>exact zW rfl i
 |cons x l=>
  have e:(Hs (x::l) ⟨#[32]⟩).data.toList=Lib.join (x.data.toList::l.map (λy=>y.data.toList)) [32]:=by
   simp only[Hs,xR]
  rw[Vn,e,Ah6 32 _ _ (h x qx) (λ y j=>by
   obtain ⟨z,o,rfl⟩:=yT.1 j;exact h z (by simp[o]))]
  have hm:l.map (Hl ∘ λy:ByteArray=>y.data.toList)=l:=by
   exact(vR (f:=Hl ∘ λy:ByteArray=>y.data.toList) (g:=id) (λa _=>Jw a)).trans (List.map_id l)
  simp[Jw,hm]
def A20{n:Ai}(g:Ac n=true){i:Nat}(hi:i<n.g.length):0<=(Af n.g (i:Int)).q/\(Af n.g (i:Int)).q.toNat<n.j.length:=by
 have e:Af n.g (i:Int)=n.g[i]:=Aj (l:=n.g) (i:=((i:Nat):Int)) hi;rw[e];exact aG g hi
def lY(n:Ai)(i:Int):(Cr n i).data.toList=(Af n.j (Af n.g i).q).name.data.toList++46::(Af n.g i).name.data.toList:=by
 simp[Cr,ByteArray.data_append]
def Aom{n:Ai}(i:O1 n){d:Int}(g:0<=d/\d.toNat<n.j.length):A5 (Af n.j d).name=true/\Cg n (Af n.j d).name=d:=by
 have:=i.q d.toNat g.2;rw[yQ g.1]at this;exact this
def Arj(n:Ai)(i:Int):(Adb n i).data.toList=(Af n.j (Af n.c i).q).name.data.toList++47::(I7 (Af n.c i).z).data.toList:=by
 simp[Adb,Hs,Lib.join_cons,Lib.joinTail]
end Go.Sy.Zaa
