/- Parts of a proof. -/
import Derived.Test.YtedbfemmehbeoaaGreatDoorXC6
set_option maxHeartbeats 8000000
set_option linter.all false
namespace Go.Sy.Zaa
open Go.Proofs Go.Proofs.Tryz
section
def nZ(n:Ai)(h:Kg):Prop:=(0<=h.l/\h.l.toNat<n.c.length)/\0<=h.addr/\h.addr<4294967296
def A8e{n:Ai}{irb o e:Int}(he:e<4294967296):∀{x:Int},0<=x->0<=(Ji n irb o e x).1/\(Ji n irb o e x).1<4294967296:=by
 intro x
 induction x using Ji.induct n irb o e with
 |p x g i=>intro j;rw[Ji,zE g,zE i];exact⟨j,by simp only;omega⟩
 |r x g i l=>intro j;rw[Ji,zE g,zD i,zE l];decide
 |t x g i l I R=>intro j;rw[Ji,zE g,zD i,zD l,zE I];exact R j_
 |J x g i l I=>intro j;rw[Ji,zE g,zD i,zD l,zD I];decide
 |P x g=>intro j;rw[Ji,zD g];decide
def Bdm{n:Ai}(l:Eb n)(irb g:Int):0<=(Za n irb g).1/\(Za n irb g).1<4294967296:=by
 rw[Za];split
 .rename_i o;have i:g.toNat<n.r.length:=by omega
  rw[Aj i];have j:=l _ (zI i);exact A8e (Yv _ _ j).2 (Ae1 _ _ j).1
 .decide
def Avm{n:Ai}{d:Int}{h:Kg}(g:h∈J0 n d):nZ n h:=by
 refine⟨Yz g,?_⟩;rw[J0]at g;split at g
 .rcases yJ.1 g with g|g
  .obtain ⟨p,_,hp⟩:=vM.1 g;rw[Md]at hp;split at hp
   .simp only[Option.some.injEq]at hp;subst hp;exact⟨by simp,by simp⟩
   .cases hp
  .obtain ⟨p,hp,rfl⟩:=yT.1 g;exact⟨by simp[Xg],by simp[Xg]⟩
 .cases g
def Ap0{n:Ai}(j:Eb n){d:Int}{q:lL}(g:q∈Hw n d):0<=q.addr/\q.addr<4294967296:=by
 rw[Hw]at g;split at g
 .obtain ⟨i,hi,hp⟩:=vM.1 g;rw[Af4]at hp;split at hp
  .simp only[Option.some.injEq]at hp;subst hp;exact Bdm j _ _
  .cases hp
 .cases g
def Lh(n:Ai)(l:List Fnd):Prop:=∀f∈l,nZ n f.hop
theorem Lh.meet{n:Ai}{S:Dn}(h:Lh n S.list)(d k:Int){hp:Kg}(i:nZ n hp)(a:Int):Lh n (Hf S d k hp a).list:=by
 rw[Hf];split
 .exact h
 .rw[Wa];split<;>(intro f g;rcases yJ.1 g with g|g;exact h f g;rw[zX]at g;subst g;exact i)
theorem Lh.ext1{n:Ai}{k i:Int}:∀{l:List Kg} {S:Dn},Lh n S.list->(∀h∈l,nZ n h)->Lh n (ext1 S k i l).list
 |[],S,h,_=>h
 |x::l,S,h,g=>Lh.ext1 (l:=l) (h.meet x.l k (g x qx) i) (λy j=>g y (by simp[j]))
theorem Lh.ext2{n:Ai}{i:Int}:∀{l:List lL} {S:Dn},Lh n S.list->(∀q∈l,nZ n ⟨3,0,q.l,q.addr⟩)->Lh n (ext2 S i l).list
 |[],S,h,_=>h
 |x::l,S,h,g=>Lh.ext2 (l:=l) (h.meet x.l 1 (g x qx) i) (λy j=>g y (by simp[j]))
theorem Lh.ext{n:Ai}(l:Eb n){S:Dn}(h:Lh n S.list)(i:Int):Lh n (Y4 n S i).list:=by
 rw[Y4];split
 .exact(h.ext1 (λx g=>Avm g)).ext2 (λq j=>⟨Zn j,Ap0 l j⟩)
 .exact h.ext1 (λx g=>Avm g)
def Aww{n:Ai}{dev:Int}{l:List Int}(h:∀v∈l,v≠0->0<=D2 n dev v/\(D2 n dev v).toNat<n.c.length):Lh n (Wp n dev l).list:=by
 suffices j:∀(l:List Int) (S:Dn),Lh n S.list->(∀v∈l,v≠0->0<=D2 n dev v/\(D2 n dev v).toNat<n.c.length)->Lh n (l.foldl (Qh n dev) S).list from j l _ (λf o=>by simp[Q5]at o) h
 intro l
 induction l with
 |nil=>exact λS h _=>h
 |cons x l p=>
  intro S g i;refine p _ ?_ (λv r=>i v (by simp[r]));rw[Qh];split
  .exact g
  .rename_i t;exact g.meet _ _ ⟨i x qx t,by simp,by simp⟩ _
def Awy{l:List Fnd}(p:Hu l){P:Kg->Prop}(r:∀f∈l,P f.hop):∀(k:Nat) (i:Int),i<k->i<l.length->(∀h∈Mw l i,P h)/\((Mw l i).length:Int)<=i+1\/i<0:=by
 intro k
 induction k with
 |zero=>intro i hi _;exact .inr j_
 |succ k t=>
  intro i hi J;by_cases I:0<=i
  .left;have j:i.toNat<l.length:=by omega
   have R:=p i.toNat j;rw[Mw,Aj j,dif_pos ⟨I,by omega⟩];have hm:=r _ (zI j);rcases t (l[i.toNat]'j).ahead j_ j_ with ⟨o,h2⟩|o
   .refine⟨λh g=>?_,by rw[yI];omega⟩;rcases yH.1 g with rfl|g
    .exact hm
    .exact o h g
   .rw[Mw,dif_neg (λe=>by omega)];refine⟨λh g=>?_,by simp;omega⟩;rw[zX]at g;subst g;exact hm
  .exact .inr j_
def Ago{l:List Fnd}(g:Hu l){P:Kg->Prop}(o:∀f∈l,P f.hop){i:Nat}(hi:i<l.length):(∀h∈Ia l i,P h)/\(Ia l i).length<=i+1/\Ia l i≠[]:=by
 rcases Awy g o (i+1) i j_ j_ with ⟨p,t⟩|h
 .refine⟨λh r=>p h (by simpa [Ia] using r),by rw[Ia,tJ];omega,?_⟩;rw[Ia];intro e;have j:(i:Int).toNat<l.length:=kS hi;have I:=g (i:Int).toNat j;rw[Mw,Aj j,dif_pos ⟨by omega,by omega⟩]at e;simp at e
 .omega
def lR{n:Ai}(o:Eb n){g:Int}:∀(k:Nat) (S:Dn) (i:Nat),S.OK n->Hu S.list->Lh n S.list->i<=S.list.length->(Jj n g k S i).2=true ->
  (∀h∈(Jj n g k S i).1,nZ n h)/\(Jj n g k S i).1.length<=2*n.c.length/\(Jj n g k S i).1≠[]
 |0,S,i,_,_,_,_,h=>by cases h
 |k+1,S,i,ok,p,r,hi,h=>by
  rw[Jj]at h|-;split at h
  .rename_i t;rw[zE t];split at h
   .rename_i j;rw[zE j];have:=Ago p r t;have I:=ok.le;exact⟨this.1,by have:=this.2.1;simp only;omega,this.2.2⟩
   .rename_i j;rw[zD j];have l:=p.ext (n:=n) (i:=i) ⟨by omega,by omega⟩;exact lR o k _ _ (ok.ext i) l.1 (r.ext o i) j_ h
  .cases h
def Axn{n:Ai}(o:Eb n){from_ i:Int}(h:(Kh n from_ i).2=true):(∀h∈(Kh n from_ i).1,nZ n h)/\(Kh n from_ i).1.length<=2*n.c.length/\(Kh n from_ i).1≠[]/\Ac n=true:=by
 rw[Kh]at h|-;split at h
 .rename_i g;rw[zE g];have hp:=dG g.1;have p:(I1 n from_).OK n:=by
   rw[I1,Aj hp.2];exact fY λv j l=>Qt g.2.2.2 hp.2 j l
  have r:Lh n (I1 n from_).list:=by
   rw[I1,Aj hp.2];exact Aww λv j l=>Qt g.2.2.2 hp.2 j l
  have t:Hu (I1 n from_).list:=by rw[I1];exact aM _ _ _
  obtain ⟨I,J,P⟩:=lR o _ _ _ p t r (xV _) h;exact⟨I,J,P,g.2.2.2⟩
 .cases h
attribute [local irreducible]G DR
set_option maxRecDepth 20000
def Xc{i:Int}{n:Nat}(h:0<=i/\i<n):Am i n=true:=by simp only[Am,zG,zK];exact h
def Ab3{i:Int}{n:Nat}(h:¬(0<=i/\i<n)):Am i n=false:=by simp only[Am,xC,yC];omega
def Xr(c:Int->Int->Int)(l:List Int):Int:=if l=[] then -1 else lF c l (l.length-1)
def Auo(c:Int->Int->Int)(l:List Int)(x:Int)(j:Nat)(h:j+1<=l.length):lF c (l++[x]) j=lF c l j:=by
 rw[lF,lF,List.drop_append_of_le_length j_,vB kO];congr 1;cases l with
 |nil=>simp at h
 |cons a l=>rfl
def A1y(c:Int->Int->Int)(l:List Int)(x:Int)(h:l≠[]):Xr c (l++[x])=if 0<c x (Xr c l) then x else Xr c l:=by
 have i:0<l.length:=xP.2 h;rw[Xr,zD qx,Xr,zD h];have e:(l++[x]).length-1=(l.length-1)+1:=by simp;omega
 rw[e,Aes c (l++[x]) (l.length-1) kO,Auo c l x (l.length-1) j_];have g:(l++[x])[l.length-1+1]'kO=x:=by
  have:l.length-1+1=l.length:=by omega
  simp[this]
 rw[g]
def A74(c:Int->Int->Int)(x:Int):Xr c [x]=x:=by
 rw[Xr,zD qx];rfl
def Ao4(c:Int->Int->Int)(l:List Int)(h:l≠[]):Xr c l∈l:=by
 have g:0<l.length:=xP.2 h;rw[Xr,zD h];exact cW c l g _ j_
def filtI_in{p:Nat->Bool}{j:Nat}{x:Int}(h:x∈Mf p j):0<=x/\x<j:=by
 have:=Ti.1 h;omega
end
section
def Ag7(n:Ai)(irb a:Int):Int:=(Af n.r a).bits*2+Alw n irb a
def Awk(n:Ai)(irb a b:Int):0<Aav n irb a b↔Ag7 n irb b<Ag7 n irb a:=by
 have g:=Ahi n irb a;have i:=Ahi n irb b;rw[Aav,Ag7,Ag7];split<;>omega
def Ao3(n:Ai)(irb:Int)(p:Nat->Bool):∀j,Mf p j≠[] ->
  ∀y∈Mf p j,Ag7 n irb y<=Ag7 n irb (Xr (Aav n irb) (Mf p j))/\(y<Xr (Aav n irb) (Mf p j)->Ag7 n irb y<Ag7 n irb (Xr (Aav n irb) (Mf p j)))
 |0,h=>zW rfl h
 |j+1,h=>by
  have r:=Ao3 n irb p j;have hm:=Ao4 (Aav n irb) (Mf p j);have I:=λx=>@filtI_in p j x
  have J:=A1y (Aav n irb) (Mf p j) j;have P:=A74 (Aav n irb) j;rw[Aan]at h|-;split
  .generalize Mf p j=u at *;by_cases l:u=[]
   .subst l;intro y i;rw[xO]at i|-;rw[P];have:y=j:=kS i;subst this;omega
   .have R:=J l;have t:=r l;have a0:=I _ (hm l);rw[R];split
    .rename_i o;rw[Awk]at o;intro y i;rcases yJ.1 i with g|g
     .have:=(t y g).1;omega
     .have:y=j:=by simpa using g
      subst this;omega
    .rename_i o;rw[Awk]at o;intro y i;rcases yJ.1 i with g|g
     .exact t y g
     .have:y=j:=by simpa using g
      subst this;omega
  .rename_i hp;rw[zD hp]at h;exact r h
def Bbm{n:Ai}{irb dst:Int}(h:(Cu n irb dst).2=true):Ok n irb dst≠[]/\(Cu n irb dst).1=Xr (Aav n irb) (Ok n irb dst):=by
 rw[Cu]at h|-;split at h
 .cases h
 .rename_i i;rw[zD i];split at h
  .cases h
  .rename_i g;rw[zD g];exact⟨g,by rw[Xr,zD g]⟩
def Bbl{n:Ai}{irb dst:Int}(h:(Cu n irb dst).2=false):(∃i,i<n.r.length/\Vv n irb dst i=true)\/Ok n irb dst=[]:=by
 rw[Cu]at h;split at h
 .rename_i g;obtain ⟨i,hi,j⟩:=wA.1 g;exact .inl ⟨i,xD.1 hi,j⟩
 .split at h
  .rename_i l;exact .inr l
  .cases h
def Td{n:Ai}{irb dst:Int}(h:(Cu n irb dst).2=true):(Cu n irb dst).1∈Ok n irb dst/\∀y∈Ok n irb dst,Ag7 n irb y<=Ag7 n irb (Cu n irb dst).1/\(y<(Cu n irb dst).1->Ag7 n irb y<Ag7 n irb (Cu n irb dst).1):=by
 obtain ⟨g,i⟩:=Bbm h;rw[i];exact⟨Ao4 _ _ g,Ao3 n irb _ _ g⟩
def Sa{n:Ai}{irb dst i:Int}:i∈Ok n irb dst↔Kw n i/\Al9 (Af n.r i).addr (Af n.r i).bits dst=true/\Am6 n irb i=true:=by
 rw[Ok,Ti];constructor
 .rintro ⟨j,l,g⟩;have e:(i.toNat:Int)=i:=by omega
  rw[oC,e,zG]at g;exact⟨⟨j,by omega⟩,g⟩
 .rintro ⟨⟨j,l⟩,g,o⟩;have e:(i.toNat:Int)=i:=by omega
  refine⟨j,by omega,?_⟩;rw[oC,e,g,o];rfl
def Zi{n:Ai}{a:Int}:L3 n a=true↔∃i,∃h:i<n.r.length,n.r[i].addr=a:=by
 rw[L3,Mr,wA];constructor
 .rintro ⟨x,j,g⟩;obtain ⟨i,hi,rfl⟩:=wH j;exact⟨i,hi,kS g⟩
 .rintro ⟨i,hi,l⟩;exact⟨_,zI hi,kS l⟩
def Wf(n:Ai)(irb g a:Int):Bool:=(Cu n irb a).2&&(Cu n irb a).1==g&&!L3 n a
def Z5{n:Ai}{irb g a:Int}:Wf n irb g a=true↔(Cu n irb a).2=true/\(Cu n irb a).1=g/\L3 n a=false:=by
 simp[Wf,and_assoc]
def Bc4(n:Ai)(g:Int)(j:Nat):List Int:=[I0 (Af n.r g).addr (Af n.r g).bits]++(n.r.take j).flatMap λx=>[x.addr+1,Lq x.addr x.bits+1]
def Akv(n:Ai)(g:Int):List Int:=Bc4 n g n.r.length
def A3v{n:Ai}{g:Int}{i:Nat}(h:i<n.r.length):n.r[i].addr+1∈Akv n g/\Lq n.r[i].addr n.r[i].bits+1∈Akv n g:=by
 rw[Akv,Bc4,yM];constructor
 .exact List.mem_append_right _ (List.mem_flatMap.2 ⟨_,zI h,by simp⟩)
 .exact List.mem_append_right _ (List.mem_flatMap.2 ⟨_,zI h,by simp⟩)
def Aw8{n:Ai}(hu:Eb n)(hb:Ac n=true){irb g:Int}(j:Kw n g):∀x,x∈Akv n g->I0 (Af n.r g).addr (Af n.r g).bits<=x ->
  (∀a,I0 (Af n.r g).addr (Af n.r g).bits<=a->a<x->Wf n irb g a=false) ->
  ((Ji n irb g (Lq (Af n.r g).addr (Af n.r g).bits) x).2=true/\(Ji n irb g (Lq (Af n.r g).addr (Af n.r g).bits) x).1∈Akv n g /\
    Wf n irb g (Ji n irb g (Lq (Af n.r g).addr (Af n.r g).bits) x).1=true /\
    ∀ a,I0 (Af n.r g).addr (Af n.r g).bits<=a->a<(Ji n irb g (Lq (Af n.r g).addr (Af n.r g).bits) x).1->Wf n irb g a=false) \/
   (Ji n irb g (Lq (Af n.r g).addr (Af n.r g).bits) x)=(0,false)/\∀a,I0 (Af n.r g).addr (Af n.r g).bits<=a->a<=Lq (Af n.r g).addr (Af n.r g).bits->Wf n irb g a=false:=by
 have nh:Af n.r g=n.r[g.toNat]'j.2:=Aj j.2;have a0:=hu _ (zI j.2);have xl:=(E1 hb j.2).2.2;rw[nh];have hf:=Ae1 _ (n.r[g.toNat]'j.2).bits a0;have hl:=Yv _ (n.r[g.toNat]'j.2).bits a0;have a2:∀a,0<=a/\a<4294967296->(Al9 (Af n.r g).addr (Af n.r g).bits a=true↔I0 (n.r[g.toNat]'j.2).addr (n.r[g.toNat]'j.2).bits<=a/\a<=Lq (n.r[g.toNat]'j.2).addr (n.r[g.toNat]'j.2).bits):=λa ha=>by
  rw[nh];exact dM _ _ _ xl a0 ha
 generalize I0 (n.r[g.toNat]'j.2).addr (n.r[g.toNat]'j.2).bits=f at *;generalize Lq (n.r[g.toNat]'j.2).addr (n.r[g.toNat]'j.2).bits=e at *;have uz:∀a b,f<=a->a<=e->f<=b->b<=e->Wf n irb g a=true->g∈Ok n irb b:=λa b P yv ff d6 h=>by
  obtain ⟨o,r,_⟩:=Z5.1 h;have p:=(Td o).1;rw[r]at p;have t:=Sa.1 p;exact Sa.2 ⟨t.1,(a2 b j_).2 ⟨ff,d6⟩,t.2.2⟩
 intro x
 induction x using Ji.induct n irb g e with
 |a4 x o r=>
  intro hc pv bw;rw[Ji,zE o,zE r];exact .inl ⟨q_,hc,Z5.2 r,bw⟩
 |a5 x o r p=>
  intro hc pv bw;rw[Ji,zE o,zD r,zE p];refine .inr ⟨q_,λa P yv=>?_⟩;cases gb:Wf n irb g a
  .rfl
  have hw:=uz a x P yv pv o gb;rcases Bbl p.1 with ⟨i,hi,R⟩|h
  .rw[Vv,Aj (l:=n.r) (i:=(i:Int)) (kS hi),zG]at R;have:L3 n x=true:=Zi.2 ⟨i,hi,kS R.2⟩;rw[p.2]at this;cases this
  .rw[h]at hw;cases hw
 |a6 x o r p t ih=>
  intro hc pv bw;rw[Ji,zE o,zD r,zD p,zE t];rw[aS]at t ih|-;cases R:L3 n x
  .rw[R]at r p t ih;rw[zD qx]at t ih|-;have i7:(Cu n irb x).2=true:=by cases h:(Cu n irb x).2 with|true=>rfl|false=>exact zW ⟨h,rfl⟩ p
   have ag:(Cu n irb x).1≠g:=λh=>r ⟨i7,h,rfl⟩
   have yp:=Td i7;have J:=Sa.1 yp.1;have lp:=hu _ (zI J.1.2);have jt:=(E1 hb J.1.2).2.2;have wi:Af n.r (Cu n irb x).1=n.r[(Cu n irb x).1.toNat]'J.1.2:=Aj J.1.2;refine ih ?_ j_ (λa P yv=>?_)
   .rw[wi];exact(A3v J.1.2).2
   .rcases Int.lt_or_le a x with I|I
    .exact bw a P I
    cases gb:Wf n irb g a
    .rfl
    have yd:=Z5.1 gb;have a1:=Td yd.1;rw[yd.2.1]at a1;have sk:=Sa.1 a1.1;rw[wi]at yv J;have hr:=Yv _ (n.r[(Cu n irb x).1.toNat]'J.1.2).bits lp;have ha:0<=a/\a<4294967296:=by omega
    have wx:=((a2 a ha).1 sk.2.1).2;have hx:=(dM _ _ _ jt lp (by omega:0<=x/\x<4294967296)).1 J.2.1;have a3:(Cu n irb x).1∈Ok n irb a:=Sa.2 ⟨J.1,by rw[wi];exact(dM _ _ _ jt lp ha).2 ⟨by omega,by omega⟩,J.2.2⟩;have k1:=yp.2 g (uz a x P wx pv o gb);have k2:=a1.2 _ a3;exact zW j_ ag
  .rw[R]at t ih;rw[zE rfl]at t ih|-;obtain ⟨i,hi,he⟩:=Zi.1 R;refine ih (by rw[<-he];exact(A3v hi).1) j_ (λa P yv=>?_);rcases Int.lt_or_le a x with I|I
   .exact bw a P I
   .have:a=x:=by omega
    subst this;simp[Wf,R]
 |a7 x o r p t=>
  intro hc pv bw;refine zW (At1 hu hb (irb:=irb) (a:=x) j_ (λR=>?_)).1 t;cases h:(Cu n irb x).2 with
  |true=>rfl
  |false=>exact zW ⟨h,R⟩ p
 |a8 x o=>
  intro hc pv bw;rw[Ji,zD o];exact .inr ⟨q_,λa P yv=>bw a P j_⟩
attribute [local irreducible]G DR
set_option maxRecDepth 20000
def A7q{n:Ai}(h:Ac n=true){i:Nat}(hi:i<n.c.length):n.c[i].ar=-1\/Kw n n.c[i].ar:=by
 have:=Bgx h hi;simp only[Wq,Am,zG,yR,yL,zK]at this;rcases this.1.2 with g|g
 .exact .inl g
 .exact .inr ⟨g.1.1,by omega⟩
structure WayD where
 (hops:List Kg) (A9y:Bool)
instance:Inhabited WayD:=⟨⟨[],false⟩⟩
end
def oZ{k:Type}[Inhabited k]{l m:List k}{i:Int}(h:i.toNat<l.length):Af (l++m) i=Af l i:=by
 rw[Af,Af,xM h]
def aN{l m:List Fnd}(o:Hu l):∀(k:Nat) (i:Int),i<k->i<l.length->Mw (l++m) i=Mw l i:=by
 intro k
 induction k with
 |zero=>
  intro i hi p;rw[Mw,dif_neg (λh=>by omega),Mw,dif_neg (λh=>by omega)]
 |succ k r=>
  intro i hi p;by_cases g:0<=i
  .have j:i.toNat<l.length:=by omega
   have t:=o i.toNat j;rw[Mw,oZ j,Mw.eq_1 l i,Aj j,dif_pos ⟨g,by omega⟩,dif_pos ⟨g,by omega⟩];rw[r _ j_ j_]
  .rw[Mw,dif_neg (λh=>g h.1),Mw,dif_neg (λh=>g h.1)]
def Vk{l m:List Fnd}(g:Hu l){i:Int}(h:i<l.length):Ia (l++m) i=Ia l i:=by
 rw[Ia,Ia,aN g (i+1).toNat i j_ h]
def Ak0{l:List Fnd}(g:Hu l){f:Fnd}(j:-1<=f.ahead/\f.ahead<l.length):Ia (l++[f]) l.length=Ia l f.ahead++[f.hop]:=by
 have e:Af (l++[f]) (l.length:Int)=f:=by
  rw[Aj (l:=l++[f]) (i:=(l.length:Int)) qx];simp
 rw[Ia,Mw,e,dif_pos ⟨by omega,by omega⟩,List.reverse_cons,aN g (f.ahead+1).toNat _ j_ j_];rfl
def A10(l:List Fnd):Ia l (-1)=[]:=by
 rw[Ia,Mw,dif_neg (λh=>by omega)];rfl
structure Met(n:Ai)(S:Dn):Prop where
 ok:S.OK n
 bk:Hu S.list
 cx:∀f∈S.list,f.hop.l=f.l
 m:∀d:Int,0<=d/\d.toNat<n.c.length->∀k:Int,(k=0\/k=1)->(Z0 S d k=true↔∃f∈S.list,f.l=d/\f.kind=k)
def Aue{l:List Bool}{a b:Nat}(g:b<l.length):(l.set a true)[b]? = if a=b then some true else l[b]?:=by
 rw[tE];split
 .rename_i h;subst h;simp[g]
 .rfl
def Az5{n:Ai}{S:Dn}(i:S.OK n){d k:Int}(t:0<=d/\d.toNat<n.c.length)(l:k=0\/k=1)(h:Kg)(a:Int)(g k2:Int)(j:0<=g/\g.toNat<n.c.length)(o:k2=0\/k2=1):Z0 (Wa S d k h a) g k2=true↔Z0 S g k2=true\/(g=d/\k2=k):=by
 have p:g.toNat<S.m0.length:=by rw[i.l0];exact j.2
 have r:g.toNat<S.m1.length:=by rw[i.l1];exact j.2
 have e:(d.toNat=g.toNat)↔g=d:=by omega
 rcases l with rfl|rfl<;>rcases o with rfl|rfl
 .rw[Wa,zE rfl,Z0,zE rfl,Z0,zE rfl,Af,Af,Aue p];by_cases h:g=d
  .rw[zE (e.2 h)];simp[h]
  .rw[zD (λx=>h (e.1 x))];simp[h]
 .rw[Wa,zE rfl,Z0,zD qq,Z0,zD qq];simp
 .rw[Wa,zD qq,Z0,zE rfl,Z0,zE rfl];simp
 .rw[Wa,zD qq,Z0,zD qq,Z0,zD qq,Af,Af,Aue r];by_cases h:g=d
  .rw[zE (e.2 h)];simp[h]
  .rw[zD (λx=>h (e.1 x))];simp[h]
def Aab(S:Dn)(d k:Int)(h:Kg)(a:Int):(Wa S d k h a).list=S.list++[⟨d,k,h,a⟩]:=by
 rw[Wa];split<;>rfl
theorem Met.meet{n:Ai}{S:Dn}(i:Met n S){d k:Int}(p:0<=d/\d.toNat<n.c.length)(r:k=0\/k=1){h:Kg}(P:h.l=d){a:Int}(R:-1<=a/\a<S.list.length):Met n (Hf S d k h a) where
 ok:=i.ok.meet p r h a
 bk:=(i.bk.meet d k h R).1
 cx:=by
  rw[Hf];split
  .exact i.cx
  .rw[Aab];intro f j;rcases yJ.1 j with g|g
   .exact i.cx f g
   .rw[zX.1 g];exact P
 m:=by
  rw[Hf];split
  .exact i.m
  .intro t I k2 J;rw[Az5 i.ok p r h a t k2 I J,i.m t I k2 J,Aab];constructor
   .rintro (⟨f,j,g⟩|⟨rfl,rfl⟩)
    .exact⟨f,List.mem_append_left _ j,g⟩
    .exact⟨_,List.mem_append_right _ (zX.2 q_),q_,q_⟩
   .rintro ⟨f,j,g,l⟩;rcases yJ.1 j with o|o
    .exact .inl ⟨f,o,g,l⟩
    .rw[zX.1 o]at g l;exact .inr ⟨g.symm,l.symm⟩
def So(a b:ByteArray):(a==b)=true↔a=b:=by
 cases a;cases b;rename_i x y;show (x==y)=true↔_;rw[yL];simp
def Bfe{k:Type}{p:k->Bool}{l:List k}{i:Int}(h:Bt p l=i)(t:0<=i):∃hi:i.toNat<l.length,p l[i.toNat]=true:=by
 unfold Bt at h;split at h
 .rename_i j g;rw[wJ]at g;obtain ⟨o,r,_⟩:=g;subst h;exact⟨kS o,kS r⟩
 .omega
end Go.Sy.Zaa
