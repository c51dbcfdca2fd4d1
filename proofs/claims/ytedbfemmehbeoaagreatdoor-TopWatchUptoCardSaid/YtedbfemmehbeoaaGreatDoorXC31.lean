/- Parts of a proof. -/
import Derived.Test.YtedbfemmehbeoaaGreatDoorXC30
set_option maxHeartbeats 4000000
set_option linter.all false
namespace Go.Sy.Zaa
open Go.Proofs Go.Proofs.Tryz
def Tc(t:Ex)(w:ByteArray):Bool:=(t.av.zip t.g).any λx=>(x.1++⟨#[46]⟩++x.2)==w
def Uo(L:List Ex)(w:ByteArray):Int:=Bt (λt=>Tc t w) L
def A7t{a b c d:List UInt8}(g:(46:UInt8)∉a)(i:(46:UInt8)∉c)(h:a++46::b=c++46::d):a=c/\b=d:=by
 induction a generalizing c with
 |nil=>
  cases c with
  |nil=>exact⟨rfl,(List.cons.inj h).2⟩
  |cons y c=>exact zW (by rw[<-(List.cons.inj h).1];simp) i
 |cons x a j=>
  cases c with
  |nil=>exact zW (by rw[(List.cons.inj h).1];simp) g
  |cons y c=>
   obtain ⟨l,o⟩:=List.cons.inj h;obtain ⟨p,r⟩:=j (λhm=>g (by simp[hm])) (λhm=>i (by simp[hm])) o;exact⟨by rw[l,p],r⟩
def Az2{n:Ai}(o:O1 n)(I:Ac n=true){d p:ByteArray}(J:A5 d=true){k:Nat}(r:k<n.g.length):((d++⟨#[46]⟩++p)==Cr n (k:Int))=true↔L4 n (Cg n d) p=k:=by
 rw[So];have t:=A20 I r;obtain ⟨P,R⟩:=Aom o t;obtain ⟨p1,p2⟩:=o.cl k r;constructor
 .intro h;have h:(d++⟨#[46]⟩++p).data.toList=(Cr n (k:Int)).data.toList:=by rw[h]
  rw[lY]at h;have e:(d++⟨#[46]⟩++p).data.toList=d.data.toList++46::p.data.toList:=by simp[ByteArray.data_append]
  rw[e]at h;obtain ⟨i,j⟩:=A7t (fI J qq qq) (fI P qq qq) h;have i:d=(Af n.j (Af n.g (k:Int)).q).name:=Sm i;have j:p=(Af n.g (k:Int)).name:=Sm j;rw[i,j,R,p2]
 .intro h;have hx:0<=L4 n (Cg n d) p:=by omega
  obtain ⟨f1,f2⟩:=Jf hx;rw[<-L4,h,yA]at f1;rw[<-L4,h]at f2;simp only[zG,yL]at f2;have l:0<=Cg n d:=by rw[<-f2.1];exact t.1
  obtain ⟨g1,g⟩:=Jf l;rw[<-Cg,<-f2.1]at g;have g:=(So _ _).1 g;rw[Cr,g,f2.2]
def Awn{n:Ai}{i:Int}(hi:0<=i):∀(ds ps:List ByteArray) (g:List Int),g.length=n.g.length->(Du n i g ds ps).2=0->∀k:Nat,k<n.g.length ->
  Af (Du n i g ds ps).1 (k:Int)=(if (ds.zip ps).any (λx=>decide (L4 n (Cg n x.1) x.2=k))=true then i else Af g (k:Int)) /\
   ((ds.zip ps).any (λx=>decide (L4 n (Cg n x.1) x.2=k))=true->Af g (k:Int)=-1)
 |[],ps,g,_,_,k,_=>by
  have e:Du n i g [] ps=(g,0):=by cases ps<;>rfl
  rw[e];simp
 |d::ds,[],g,_,_,k,_=>by
  have e:Du n i g (d::ds) []=(g,0):=rfl;rw[e];simp
 |d::ds,p::ps,g,t,h,k,I=>by
  rw[Du]at h|-;split at h
  .cases h
  rename_i J;rw[zD J];split at h
  .cases h
  rename_i o;rw[zD o];simp only[vY,Decidable.not_not]at o;obtain ⟨P,j⟩:=Awn hi ds ps (g.set (L4 n (Cg n d) p).toNat i) (by rw[yO];exact t) h k I;have R:=Ai6 (l:=g) (a:=(L4 n (Cg n d) p).toNat) (v:=i) (k:=k) j_;rw[List.zip_cons_cons,tZ];rw[P];rw[R]at j|-;by_cases r:L4 n (Cg n d) p=(k:Int)
  .rw[zE (show (L4 n (Cg n d) p).toNat=k by omega)]at j|-;have bw:¬(ds.zip ps).any (λx=>decide (L4 n (Cg n x.1) x.2=k))=true:=λhh=>by have:=j hh;omega
   rw[zD bw,zL r,wT,zE rfl];exact⟨q_,λ_=>by rw[<-r];exact o.2⟩
  .rw[zD (show ¬(L4 n (Cg n d) p).toNat=k by omega)]at j|-;rw[zJ r,vI];exact⟨q_,j⟩
def Bb2{k:Type}(p:k->Bool)(l:List k)(x:k):Bt p (l++[x])=if 0<=Bt p l then Bt p l else if p x=true then (l.length:Int) else -1:=by
 split
 .rename_i h;exact dF p l [x] h
 .rename_i h;have j:l.any p=false:=by
   cases t:l.any p
   .rfl
   .exact zW (Mq.2 t) h
  split
  .rename_i g;exact Yy p l x j g
  .rename_i g;have o:(l++[x]).any p=false:=by
    rw[List.any_append,j,tZ,List.any_nil,show p x=false by simpa using g];rfl
   cases r:(l++[x]).findIdx? p with
   |none=>simp only[Bt,r]
   |some i=>
    have:0<=Bt p (l++[x]):=by simp only[Bt,r];omega
    rw[Mq.1 this]at o;cases o
def Amo{n:Ai}(g:O1 n)(i:Ac n=true){k:Nat}(j:k<n.g.length):∀(ds ps:List ByteArray),(∀d∈ds,A5 d=true) ->
  (ds.zip ps).any (λx=>decide (L4 n (Cg n x.1) x.2=k))=(ds.zip ps).any (λx=>(x.1++⟨#[46]⟩++x.2)==Cr n (k:Int))
 |[],_,_=>rfl
 |d::ds,[],_=>rfl
 |d::ds,p::ps,h=>by
  rw[List.zip_cons_cons,tZ,tZ,Amo g i j ds ps (λx l=>h x (by simp[l]))];congr 1;have:=Az2 g i (d:=d) (p:=p) (h d qx) j;rw[xY,zK];exact this.symm
def Ao5{n:Ai}(hk:O1 n)(hr:Ac n=true){L:List Ex}:∀(l:List Ex) (g:List Ex) (o:List Int),o.length=n.g.length ->
  (∀k:Nat,k<n.g.length->Af o (k:Int)=Uo g (Cr n (k:Int)))->(Hm n L g.length o l).2.2.2=0 ->
   ∀k:Nat,k<n.g.length->Af (Hm n L g.length o l).1 (k:Int)=Uo (g++l) (Cr n (k:Int))
 |[],g,o,_,h,_,k,cq=>by rw[Hm,yV];exact h k cq
 |t::r,g,o,hl,h,I,k,cq=>by
  rw[Hm]at I|-;split at I
  .cases I
  rename_i h1;rw[zD h1];split at I
  .cases I
  rename_i h2;rw[zD h2];split at I
  .rename_i J;exact zW I J
  rename_i J;rw[zD J];have J:(Du n g.length o t.av t.g).2=0:=Classical.byContradiction J;have hd:∀d∈t.av,A5 d=true:=by
   have ht:Tx t=true:=by
    simp only[vY]at h1;simpa using h1.1
   simp only[Tx,zG,xH,wE]at ht;intro d hd;have:=ht.2.2.2.2.1 d hd;simpa using this
  have hc:=Awn (n:=n) (i:=(g.length:Int)) j_ t.av t.g o hl J;have P:(Du n g.length o t.av t.g).1.length=n.g.length:=by
   have:∀(ds ps:List ByteArray) (o:List Int),(Du n g.length o ds ps).1.length=o.length:=by
    intro ds
    induction ds with
    |nil=>intro ps o;cases ps<;>rfl
    |cons d ds ih=>
     intro ps o;cases ps with
     |nil=>rfl
     |cons p ps=>
      rw[Du];split
      .rfl
      split
      .rfl
      rw[ih,yO]
   rw[this,hl]
  have e1:g.length+1=(g++[t]).length:=by simp
  have:=Ao5 hk hr r (g++[t]) (Du n g.length o t.av t.g).1 P (λ j hj=>by
   obtain ⟨c1,c2⟩:=hc j hj;rw[Amo hk hr hj _ _ hd]at c1 c2;rw[c1,Uo,Bb2];rw[h j hj]at c2|-;have en:Tc t (Cr n (j:Int))=(t.av.zip t.g).any (λx=>(x.1++⟨#[46]⟩++x.2)==Cr n (j:Int)):=rfl;rw[<-en]at c2|-;cases hh:Tc t (Cr n (j:Int))
   .rw[zD qq];by_cases R:0<=Uo g (Cr n (j:Int))
    .rw[<-Uo,zE R]
    .rw[<-Uo,zD R,zD qq];have:Bt (λt=>Tc t (Cr n (j:Int))) g=-1:=by
      unfold Uo at R;cases hf:g.findIdx? (λt=>Tc t (Cr n (j:Int))) with
      |none=>simp only[Bt,hf]
      |some i=>simp only[Bt,hf]at R;omega
     exact this
   .have R:=c2 hh;rw[zE rfl,<- Uo,zD j_,zE rfl]) (by rw[<- e1];exact I) k cq
  rw[<-e1,yW]at this;exact this
def Aix{n:Ai}(l:O1 n)(i:Ac n=true){L:List Ex}(h:(Co n L).2.2.2=0){k:Int}(hp:Am k n.g.length=true):Uo L (Cr n k)=Af (Co n L).1 k:=by
 rw[Co]at h|-;dsimp only at h|-;rw[i]at h|-;rw[zD qq]at h|-;split at h
 .rename_i g;exact zW h g
 rename_i g;rw[zD g];split at h
 .cases h
 rename_i o;rw[zD o];dsimp only;simp only[Am,zG,zK]at hp;have e:((k.toNat:Nat):Int)=k:=yQ hp.1;have:=Ao5 l i (L:=L) L [] (List.replicate n.g.length (-1)) qx (λ j p=>by
  rw[Aj (kS p)];simp[Uo,Bt]) (Classical.byContradiction g) k.toNat j_
 rw[e,xO]at this;exact this.symm
def byX(L:List Ex)(r:ByteArray):List Int :=
 if Af (Bd 32 r) 0=Hv/\(Bd 32 r).length=3/\0<=Uo L (Af (Bd 32 r) 1) then [Uo L (Af (Bd 32 r) 1)] else []
def Qg(L:List Ex)(g:List ByteArray):List Int:=g.flatMap (byX L)
def Aq1(f:ByteArray->List Int)(i:f (Hl [])=[]):∀(l g:List UInt8),(Cc 10 g l).flatMap f=(Dd g l).flatMap f
 |[],g=>by
  rw[Cc,Dd];split
  .rename_i h;rw[h];simp[i]
  .rfl
 |c::r,g=>by
  rw[Cc,Dd];split
  .rw[xZ,xZ,Aq1 f i r []]
  .exact Aq1 f i r _
def Aq2:∀(l g:List UInt8),(Dd g l).length<=(Cc 10 g l).length
 |[],g=>by
  rw[Cc,Dd];split<;>simp
 |c::r,g=>by
  rw[Cc,Dd];split
  .have:=Aq2 r [];simp only[yI];omega
  .exact Aq2 r _
def A01:∀(l g:List UInt8),∀r∈Cc 10 g l,r∈Dd g l\/r=Hl []
 |[],g,r,h=>by
  rw[Cc]at h;rw[Dd];rw[zX]at h;split
  .rename_i i;rw[i]at h;exact .inr h
  .exact .inl (by simp[h])
 |c::l,g,r,h=>by
  rw[Cc]at h;rw[Dd];split
  .rename_i i;rw[zE i]at h;rcases yH.1 h with h|h
   .exact .inl (by simp[h])
   .rcases A01 l [] r h with h|h
    .exact .inl (by simp[h])
    .exact .inr h
  .rename_i i;rw[zD i]at h;exact A01 l _ r h
def Aq0:∀(l g:List UInt8),Cc 10 g (l++[10])=Cc 10 g l++[Hl []]
 |[],g=>by simp[Cc]
 |c::l,g=>by
  rw[wF,Cc,Cc];split
  .rw[Aq0 l []];rfl
  .exact Aq0 l _
def Bej{n:Ai}(R:O1 n)(hr:Ac n=true){L:List Ex}(J:(Co n L).2.2.2=0){r:ByteArray}(h:(stepT n r).2=0):byX L r=if Ajs (Co n L).1 (stepT n r).1=true then [Af (Co n L).1 (stepT n r).1.ac] else []:=by
 have ho:=Vp (nV J);have jk:=λ{k:Int}=>Aix R hr J (k:=k)
 generalize (Co n L).1=of at *;rw[stepT]at h|-;unfold byX;generalize Bd 32 r=w at *;have P:Qm (Af w 0)=1↔Af w 0=Hv:=by
  rw[Qm];constructor
  .intro h;split at h
   .rename_i l;exact((So _ _).1 l).symm
   .repeat' split at h
    all_goals (exact zW h qq)
  .intro h;rw[h,zE ((So _ _).2 rfl)]
 split at h
 .cases h
 rename_i l;rw[zD l];split at h
 .cases h
 rename_i o;rw[zD o];split at h
 .rename_i i;rw[zE i];rw[i]at o;have hl:w.length=3:=by simp only[Aja]at o;omega
  split at h
  .cases h
  rename_i g;rw[zD g];split at h
  .cases h
  rename_i j;rw[zD j];dsimp only;obtain ⟨f1,f2⟩:=Jf (show 0<=Bt (V7 n (Af w 1)) n.g by omega);have hp:Am (Bt (V7 n (Af w 1)) n.g) n.g.length=true:=by
   simp only[Am,zG,zK];omega
  have f3:Cr n (Bt (V7 n (Af w 1)) n.g)=Af w 1:=(So _ _).1 f2;have f4:=jk hp;rw[f3]at f4;generalize Bt (V7 n (Af w 1)) n.g=p at *;rw[f4];rw[<-ho.1]at hp;rw[Ajs,hp];simp only[decide_true,yB,zK,P.1 i,hl,true_and]
 .rename_i i;have dg:¬Af w 0=Hv:=λe=>i (P.2 e)
  rw[zD i,zD (λhh=>dg hh.1)];have t:∀x:B7,x.kind≠1->Ajs of x=false:=λx hx=>by rw[Ajs,zJ hx];rfl
  split
  .rename_i g;rw[zE g]at h;split at h
   .cases h
   rename_i j;rw[zD j];split at h
   .cases h
   rename_i I;rw[zD I,t _ (by dsimp only;rcases g with g|g<;>rw[g]<;>decide)];rfl
  .rename_i g;rw[zD g]at h;split
   .rename_i j;rw[t _ (by dsimp only;decide)];rfl
   .rename_i j;rw[zD j]at h;split at h
    .cases h
    .rename_i I;rw[zD I,t _ (by dsimp only;decide)];rfl
def At2{n:Ai}(p:O1 n)(o:Ac n=true){L:List Ex}(t:(Co n L).2.2.2=0):∀(g:List ByteArray) (i:Nat) (out:List B7),(Ma n i out g).2.2=0 ->
  ∃m,(Ma n i out g).1=out++m/\m.length=g.length/\g.flatMap (byX L)=(Jc (Co n L).1 m).map (Af (Co n L).1)/\∀x∈m,x.bytes.length<=1600
 |[],i,out,_=>⟨[],by simp[Ma],rfl,rfl,λx j=>by cases j⟩
 |r::g,i,out,h=>by
  rw[Ma]at h|-;by_cases l:(stepT n r).2=0
  .rw[zE l]at h|-;obtain ⟨m,I,J,P,R⟩:=At2 p o t g (i+1) (out++[(stepT n r).1]) h;refine⟨(stepT n r).1::m,by rw[I,yW];rfl,by simp[J],?_,λx j=>?_⟩
   .rw[xZ,P,Bej p o t l,Jc,Jc,List.filter_cons];split
    .rfl
    .rfl
   .rcases yH.1 j with rfl|j
    .exact(Bei o l).2
    .exact R x j
  .rw[zD l]at h;exact zW h l
def Ane{n:Ai}:∀(g:List ByteArray) (i:Nat) (out:List B7),(Ma n i out g).2.1<=i+g.length
 |[],i,out=>by rw[Ma];simp
 |r::g,i,out=>by
  rw[Ma];split
  .have:=Ane (n:=n) g (i+1) (out++[(stepT n r).1]);simp only[yI];omega
  .simp only[yI];omega
def Ako{of i:List Int}:∀l:List Kt,(Ae4 of i l).2.2=false->∀s∈l,Af of (Af i (s.ad-1))=Af of s.ac
 |[],_,s,g=>by cases g
 |x::l,h,s,g=>by
  rw[Ae4]at h;split at h
  .cases h
  rename_i j;rcases yH.1 g with rfl|g
  .exact Classical.byContradiction j
  .exact Ako l h s g
def Am5{n:Ai}(g:O1 n)(i:Ac n=true):∀(l:List Kt),(∀s∈l,0<=s.ad/\Am s.ac n.g.length=true)->Dd [] (W6 n l)=l.map (W8 n)
 |[],_=>rfl
 |s::l,h=>by
  obtain ⟨r,j⟩:=h s qx;have o:=j;simp only[Am,zG,zK]at o;have t:=Aot (l:=[Cr n s.ac,I7 s.ad,dJ s.bytes]) qx (by
   intro w p;simp only[yH,xJ,vH]at p;rcases p with rfl|rfl|rfl
   .exact Akr g i ⟨o.1,by omega⟩
   .exact Aou r
   .exact Aov _)
  have e:W6 n (s::l)=(W8 n s).data.toList++10::W6 n l:=by
   rw[W6,xZ,As3,zE j,yW];rfl
  have I:(10:UInt8)∉(W8 n s).data.toList:=t.2;rw[e,Am8 _ _ _ I,Am5 g i l (λx J=>h x (by simp[J])),xO,Jw];rfl
def Ay0{n:Ai}(j:O1 n)(o:Ac n=true){s:Kt}(p:0<=s.ad)(g:Am s.ac n.g.length=true):Bd 32 (W8 n s)=[Cr n s.ac,I7 s.ad,dJ s.bytes]:=by
 simp only[Am,zG,zK]at g;exact(Aot (l:=[Cr n s.ac,I7 s.ad,dJ s.bytes]) qx (by
  intro w i;simp only[yH,xJ,vH]at i;rcases i with rfl|rfl|rfl
  .exact Akr j o ⟨g.1,by omega⟩
  .exact Aou p
  .exact Aov _)).1
def Agf(n:Ai)(g:Int):∀(l:List My) (m:B4),(goesL n m g l).2.length<=(l.filter λo=>decide (o.kind=1)).length
 |[],m=>by simp[goesL]
 |o::l,m=>by
  rw[goesL,zR,List.filter_cons];have i:=Agf n g l (Ii n m o g).1;by_cases h:o.kind=1
  .have e:Ii n m o g=(m,[⟨o.ac,g,o.bytes⟩]):=by rw[Ii,zE h]
   rw[zE (zL h)];rw[e]at i|-;simp only[yI,xG]at i|-;omega
  .rw[zD (kS h)];have e:(Ii n m o g).2=[]:=by
    rw[Ii,zD h]
    repeat' split
    all_goals rfl
   rw[e];simpa using i
def Awf(n:Ai)(fw:List Bool)(t:List Bc)(dom i:Int)(m:Nat):(Hb n fw t dom i m).1.length<=n.g.length+1:=by
 have j:=Afz n dom;have g:=λl=>Ab2 n fw i l
 unfold Hb;split
 .simp
 split
 .have:=g (Bz n dom);dsimp only;omega
 split
 .have:=g [(Af n.ab (Jr n dom m)).ac];simp only[yI,xG]at this;dsimp only;omega
 split
 .have:=g [(Ks t m).1];simp only[yI,xG]at this;dsimp only;omega
 split
 .simp
 .have:=g (Bz n dom);dsimp only;omega
def Art(n:Ai)(fw:List Bool)(t:List Bc)(dom:Int)(q:B0)(now:Int):((Hz n fw t dom q now).2.1.filter λo=>decide (o.kind=1)).length<=n.g.length+1:=by
 unfold Hz;split
 .simp
 split
 .split
  .simp
  .simp
 .have h:=Awf n fw (Sb t q now) dom q.ba q.frame.dst;dsimp only;rw[List.filter_append,zR];have g:∀l:List Int,((l.map (Aeq n dom q.frame)).filter λo=>decide (o.kind=1))=[]:=λl=>by
   rw[List.filter_eq_nil_iff];intro o i;obtain ⟨p,_,rfl⟩:=yT.1 i;unfold Aeq Xh;split<;>simp
  rw[g];have j:=uW (λo:My=>decide (o.kind=1)) ((Hb n fw (Sb t q now) dom q.ba q.frame.dst).1.map (Ab7 n dom q.frame));rw[yS]at j;simp only[xG];omega
def Bcw(n:Ai)(m:B4)(x:B7):(fS n m x).2.length<=n.g.length+1:=by
 unfold fS;split
 .simp
 split
 .unfold T5;split
  .simp
  .exact wI (Agf n _ _ _) (Art n _ _ _ _ _)
 repeat' split
 all_goals simp
def Aid(n:Ai):∀(l:List B7) (m:B4),(Ja n m l).2.length<=l.length*(n.g.length+1)
 |[],m=>by simp[Ja]
 |x::l,m=>by
  rw[Ja,zR,yI,Nat.succ_mul];have:=Bcw n m x;have:=Aid n l (fS n m x).1;omega
attribute [local irreducible]G DR
set_option maxRecDepth 100000
def Aop(s:ByteArray):(Ib 46 s).1.size<=s.size/\(Ib 46 s).2.1.size<=s.size:=by
 unfold Ib;split
 .simp only[ByteArray.size_extract];omega
 .exact⟨yG _,xV _⟩
def okH(k x y:Bool):Nat->Bool
 |0=>k
 |1=>k&&x
 |_=>k&&x&&y
def Bfk(w:ByteArray)(o:w.size<=100000):Sp 65 [Ap w] (.tup [.agg [Ap (Xk w).1,Ap (Xk w).2.1],Ab (Xk w).2.2]):=cT F65 ntmps65 λF p=>by
 have g:=Abi w 46 j_;have r:=Aop w;have i:=Ju (Ib 46 w).1 j_;have l:=Ju (Ib 46 w).2.1 j_;simp only[Xk];generalize Ib 46 w=c at *;obtain ⟨a,b,k⟩:=c;dsimp only at *;generalize A5 a=x at *;generalize A5 b=y at *;refine gD g F16 ?_;refine X (dV Γ.toTy (out:=[Ap a,Ap b]) q_ q_ q_ q_ q_ q_) ?_;refine Dc (λj:Nat=>j<=2) (λj=>[(2,.ptr 2 0),(6,Ab (okH k x y j)),(7,.ptr 7 0),(19,.agg [Ap a,Ap b]),(20,Aa j)]) (λ_=>[(2,.box [.val (.string .empty),.val (.string .empty)]),(7,.box [Ap a,Ap b])]) (λj=>2-j) 0 [] j_ U ?_;intro j t;obtain rfl|rfl|rfl:j=0\/j=1\/j=2:=by omega
 .refine T ?_;refine X (B5 (k:=.string) Γ.toTy q_ q_ q_ Tryz.underlying9 q_ q_ qq qq q_) ?_;cases k
  .refine T ?_;exact A8 1 [] qq qq U
  .refine gD i F64 ?_;exact A8 1 [] qq qq U
 .refine T ?_;refine X (B5 (k:=.string) Γ.toTy q_ q_ q_ Tryz.underlying9 q_ q_ qq qq q_) ?_;cases k
  .refine T ?_;exact A8 2 [] qq qq U
  .cases x
   .refine T ?_;exact A8 2 [] qq qq U
   .refine gD l F64 ?_;exact A8 2 [] qq qq U
 .exact gA
def Bee(w:List ByteArray)(row:Int)(h0:0<w.length)(hw:w.length<=100000)(hs:∀s∈w,s.size<=40):Sp 31 [.sl 1 Ap w,Aa row] (.tup [He (L7 w row).1,Aa (L7 w row).2]):=cT F31 ntmps31 λF hF=>by
 have g:=L7.eq_1 w row;generalize L7 w row=J at *;have o:(0:Int).toNat<w.length:=h0;have e0:A4 w 0=w[(0:Int).toNat]'o:=E9 h0;rw[e0]at g;by_cases k1:w[(0:Int).toNat]'o=A2k;rotate_left
 .have f1:(w[(0:Int).toNat]'o==(⟨#[116,101,110,97,110,116]⟩:ByteArray))=false:=by
   cases hb:(w[(0:Int).toNat]'o==(⟨#[116,101,110,97,110,116]⟩:ByteArray))
   .rfl
   .exact zW ((So _ _).1 hb) k1
  have P:(!(w[(0:Int).toNat]'o==(⟨#[116,101,110,97,110,116]⟩:ByteArray)))=true:=by rw[f1];rfl
  rw[zE (.inl k1)]at g;subst g;refine T ?_;exact An 4 (cellsOf (He Apq)) q_ vL D
 have f1:(w[(0:Int).toNat]'o==(⟨#[116,101,110,97,110,116]⟩:ByteArray))=true:=(So _ _).2 k1;have P:(!(w[(0:Int).toNat]'o==(⟨#[116,101,110,97,110,116]⟩:ByteArray)))=false:=by rw[f1];rfl
 by_cases k2:w.length<=2
 .have f2:decide ((w.length:Int)<=2)=true:=zL j_;rw[zE (.inr (.inl k2))]at g;subst g;refine T ?_;exact An 4 (cellsOf (He Apq)) q_ vL D
 have f2:decide ((w.length:Int)<=2)=false:=zJ j_;by_cases k3:18<w.length
 .have f3:decide ((w.length:Int)>18)=true:=zL j_;rw[zE (.inr (.inr k3))]at g;subst g;refine T ?_;exact An 4 (cellsOf (He Apq)) q_ vL D
 have f3:decide ((w.length:Int)>18)=false:=zJ j_;rw[zD (λh=>h.elim (λh=>h k1) λh=>h.elim k2 k3)]at g;have p:(1:Int).toNat<w.length:=by show 1<w.length;omega
 have e1:A4 w 1=w[(1:Int).toNat]'p:=E9 (show 1<w.length by omega);rw[e1]at g;have r:=Ju (w[(1:Int).toNat]'p) (by have:=hs _ (zI p);omega);cases t:A5 (w[(1:Int).toNat]'p) with
 |false=>
  rw[t]at r;rw[zE t]at g;subst g;refine gD r F64 ?_;exact An 4 (cellsOf (He Apq)) q_ vL D
 |true=>
 rw[t]at r;rw[zD (by rw[t];exact Bool.noConfusion)]at g;have jc:(w.drop 2).length=w.length-2:=yP;have j5:∀s∈w.drop 2,s.size<=40:=λs h=>hs s (List.mem_of_mem_drop h)
 refine gD r F64 ?_;refine X (O0 (lo:=2) (hi:=w.length) Γ.toTy (w.drop 2) q_ q_ q_ q_ (.inr ⟨_,_,q_,q_⟩) (.inl ⟨q_,q_⟩) j_ (yG _) (by rw[yM])) ?_;obtain ⟨nm,cm⟩:=kE (w[(1:Int).toNat]'p);rw[cm]at g|-;generalize w.drop 2=v at *;refine Zb 6 2 1001 1 Ap q_ q_ q_ q_ ?_;refine Zb 6 3 1002 1 Ap q_ q_ q_ q_ ?_;refine Dc (λx:Nat×List ByteArray×List ByteArray=>J=bP ⟨row,nm,x.2.1,x.2.2⟩ (v.drop x.1)/\x.1<=v.length/\x.2.1.length=x.1/\x.2.2.length=x.1) (λx=>[(4,.ptr 4 0),(6,.ptr 6 0),(37,.sl 1 Ap v),(38,Aa v.length),(39,Aa x.1)]) (λx=>[(4,.box [Aa 0,.val (.string .empty),Jl,Jl]),(6,.box [Aa row,Ap nm,.osl 1001,.osl 1002]),(1001,.row 1 Ap x.2.1),(1002,.row 1 Ap x.2.2)]) (λx=>v.length-x.1) (0,[],[]) [] ⟨g,by simp,q_,q_⟩ U ?_;rintro ⟨j,ds,ps⟩ ⟨i,hj,hd,hp⟩;dsimp only at i hj hd hp|-;refine gP ?_ ?_<;>intro h
 .have R:j<v.length:=qA h;have I:(j:Int).toNat<v.length:=R;clear h;have fg:v.drop j=v[(j:Int).toNat]'I::v.drop (j+1):=yK R;rw[fg,bP]at i;have q:=Bfk (v[(j:Int).toNat]'I) (by have:=j5 _ (zI I);omega);generalize Xk (v[(j:Int).toNat]'I)=hv at *;obtain ⟨a,b,ok⟩:=hv;dsimp only at i q;cases ok
  .rw[zE rfl]at i;subst i;refine gD q F65 ?_;exact An 4 (cellsOf (He Apq)) q_ vL D
  .rw[zD (by exact Bool.noConfusion)]at i;refine gD q F65 ?_;refine Xd (Ah Γ.toTy 56 q_ q_ q_ q_ q_ (.row q_) (.lit (e:=Ap) (l:=[a]) q_ q_) qx kO kO) ?_;refine Xd (Ah Γ.toTy 62 q_ q_ q_ q_ q_ (.row q_) (.lit (e:=Ap) (l:=[b]) q_ q_) qx kO kO) ?_;exact A8 (j+1,ds++[a],ps++[b]) [(1001,56),(1002,62)] ⟨i,R,by simp;omega,by simp;omega⟩ (by dsimp only;omega) U
 .have bu:j=v.length:=qB h;rw[bu,wO,bP]at i;subst i;clear h;refine T ?_;exact Ao 1001 q_ (Ao 1002 q_ D)
def Afu(b:List UInt8)(hb:b.length<=1000000):Sp 10 [.sl 1 Ae b] (.tup [.sl 4 He (Cj b).1,Aa (Cj b).2.1,Aa (Cj b).2.2]):=cT F10 ntmps10 λF hF=>by
 have q1:=Aeu b hb;have p:=Cj.eq_1 b;have gn:=W9 b;generalize Cj b=a0 at *;generalize H5 b=rt at *;obtain ⟨i,e0⟩:=rt;dsimp only at p gn q1;obtain ⟨a1,az⟩:=gn;by_cases r:e0=0;rotate_left
 .have f0:(e0 != 0)=true:=by rw[xF];exact r
  rw[zE r]at p;subst p;refine gD q1 F29 ?_;exact Ar 2 4 He q_ D
 have f0:(e0 != 0)=false:=by rw[r];rfl
 rw[zD (λh=>h r)]at p;subst r;refine gD q1 F29 ?_;refine Ct 2 1000 4 He q_ q_ ?_;refine Dc (λx:Nat×List Ex=>a0=Ip x.1 x.2 (i.drop x.1)/\x.1<=i.length/\x.2.length<=x.1) (λx=>[(2,.osl 1000),(19,.sl 1 Ap i),(20,Aa i.length),(21,Aa x.1)]) (λx=>[(1000,.row 4 He x.2)]) (λx=>i.length-x.1) (0,[]) [] ⟨p,by simp,by simp⟩ U ?_;rintro ⟨j,out⟩ ⟨g,hj,j6⟩;dsimp only at g hj j6|-;refine gP ?_ ?_<;>intro h
 .have J:j<i.length:=qA h;have I:(j:Int).toNat<i.length:=J;have hr:(i[(j:Int).toNat]'I).size<=20000:=az _ (zI _);have fg:i.drop j=i[(j:Int).toNat]'I::i.drop (j+1):=yK J;rw[fg,Ip]at g;clear h;have o:=Ajh (i[(j:Int).toNat]'I) j_;have im:=Zc (i[(j:Int).toNat]'I) hr;generalize Iu (i[(j:Int).toNat]'I)=wt at *;obtain ⟨ws,we⟩:=wt;dsimp only at g im o;by_cases P:we=0;rotate_left
  .have f1:(we==0)=false:=by rw[zU];exact P
   have f2:(we != 0)=true:=by rw[xF];exact P
   rw[zE P]at g;subst g;refine gD o F30 ?_;exact Ar 2 4 He q_ D
  subst P;rw[zD (λh=>h rfl)]at g;by_cases kz:ws.length=0
  .rw[zE (yF kz)]at g;have f1:((ws.length:Int)==0)=true:=by rw[kz];rfl
   refine gD o F30 ?_;exact A8 (j+1,out) [] ⟨g,J,by dsimp only;omega⟩ (by dsimp only;omega) U
  rw[zD (λe=>kz (by rw[e];rfl))]at g;have f1:((ws.length:Int)==0)=false:=by rw[zU];omega
  have R:=Bee ws ((j:Int)+1) j_ j_ im.2;generalize L7 ws ((j:Int)+1)=st at *;obtain ⟨t,se⟩:=st;dsimp only at g R;by_cases hs:se=0;rotate_left
  .have f2:(se==0)=false:=by rw[zU];exact hs
   have f3:(se != 0)=true:=by rw[xF];exact hs
   rw[zE hs]at g;subst g;refine gB o F30 R F31 ?_;exact Ar 2 4 He q_ D
  subst hs;rw[zD (λh=>h rfl)]at g;by_cases iz:out.length=10
  .have f2:((out.length:Int)==10)=true:=by rw[iz];rfl
   rw[zE iz]at g;subst g;refine gB o F30 R F31 ?_;exact Ar 2 4 He q_ D
  have f2:((out.length:Int)==10)=false:=by rw[zU];omega
  rw[zD iz]at g;refine gB o F30 R F31 ?_;refine X (Ah Γ.toTy 62 q_ q_ q_ q_ q_ (.row q_) (.lit (e:=He) (l:=[t]) q_ q_) qx kO kO) ?_;exact A8 (j+1,out++[t]) [(1000,62)] ⟨g,J,by simp;omega⟩ (by dsimp only;omega) U
 .have bu:j=i.length:=qB h;rw[bu,wO,Ip]at g;subst g;clear h;refine T ?_;exact Ao 1000 q_ D
def Azr{n:Ai}{g:List Int}(h:Jt n g=true):g.length=n.g.length:=by
 simp only[Jt,zG,zK]at h;exact h.1.1
def leaksS(n:Ai)(hn:n.Fin)(hu:Eb n)(g:List Int):Sp 27 [Aq n,.sl 1 Aa g] (.tup [Aa (Kq n g).1,Aa (Kq n g).2.1,Ab (Kq n g).2.2]):=cT F27 ntmps27 λF hF=>by
 have I:=Aqe n hn g;have J:=Kq.eq_1 n g;generalize Kq n g=a0 at *;cases t:Jt n g with
 |false=>
  rw[t]at I;rw[zE t]at J;subst J;refine gD I F55 ?_;exact D
 |true=>
 have j6:=Azr t;have j7:n.g.length<2147483648:=hn.g;rw[t]at I;rw[zD (by rw[t];exact Bool.noConfusion)]at J;refine gD I F55 ?_;refine Dc (λj:Nat=>a0=Aaf n g j (g.drop j)/\j<=g.length) (λj=>[(1,.sl 1 Aa g),(2,.ptr 2 0),(17,.sl 1 Aa g),(18,Aa g.length),(19,Aa j)]) (λ_=>[(2,.box (Eo n))]) (λj=>g.length-j) 0 [] ⟨J,by omega⟩ U ?_;rintro j ⟨p,hj⟩;refine gP ?_ ?_<;>intro h
 .have ab:j<g.length:=qA h;have l:(j:Int).toNat<g.length:=ab;have fg:g.drop j=g[(j:Int).toNat]'l::g.drop (j+1):=yK ab;rw[fg,Aaf]at p;clear h;obtain ⟨R,hR⟩:=kE (Z3 n g j (g[(j:Int).toNat]'l) 0 g);rw[hR]at p;refine T ?_;refine Dc (λk:Nat=>Z3 n g j (g[(j:Int).toNat]'l) k (g.drop k)=R/\k<=g.length) (λk=>[(1,.sl 1 Aa g),(2,.ptr 2 0),(7,Aa j),(8,Aa (g[(j:Int).toNat]'l)),(17,.sl 1 Aa g),(18,Aa g.length),(19,Aa j),(24,.sl 1 Aa g),(25,Aa g.length),(26,Aa k)]) (λ_=>[(2,.box (Eo n))]) (λk=>g.length-k) 0 [] ⟨hR,by omega⟩ U ?_;rintro k ⟨i,hk⟩;refine gP ?_ ?_<;>intro h
  .have r:k<g.length:=qA h;have o:(k:Int).toNat<g.length:=r;have xa:g.drop k=g[(k:Int).toNat]'o::g.drop (k+1):=yK r;rw[xa,Z3]at i;clear h;by_cases P:g[(j:Int).toNat]'l<0
   .have f1:decide ((g[(j:Int).toNat]'l)<0)=true:=zL P;rw[zD (λh=>h.1 (.inl P))]at i;refine T ?_;exact A8 (k+1) [] ⟨i,r⟩ j_ U
   have f1:decide ((g[(j:Int).toNat]'l)<0)=false:=zJ P;by_cases c2:g[(k:Int).toNat]'o<0
   .have f2:decide ((g[(k:Int).toNat]'o)<0)=true:=zL c2;rw[zD (λh=>h.1 (.inr (.inl c2)))]at i;refine T ?_;exact A8 (k+1) [] ⟨i,r⟩ j_ U
   have f2:decide ((g[(k:Int).toNat]'o)<0)=false:=zJ c2;by_cases c3:g[(j:Int).toNat]'l=g[(k:Int).toNat]'o
   .have f3:(g[(j:Int).toNat]'l==g[(k:Int).toNat]'o)=true:=by rw[yL];exact c3
    rw[zD (λh=>h.1 (.inr (.inr c3)))]at i;refine T ?_;exact A8 (k+1) [] ⟨i,r⟩ j_ U
   have f3:(g[(j:Int).toNat]'l==g[(k:Int).toNat]'o)=false:=by rw[zU];exact c3
   have a1:¬(g[(j:Int).toNat]'l<0\/g[(k:Int).toNat]'o<0\/g[(j:Int).toNat]'l=g[(k:Int).toNat]'o):=λh=>h.elim P λh=>h.elim c2 c3
   have q:=wayS n hn hu j k;generalize Kh n j k=wr at *;obtain ⟨wl,ok⟩:=wr;dsimp only at q i;cases ok
   .rw[zD (λh=>Bool.noConfusion h.2)]at i;refine gD q F56 ?_;exact A8 (k+1) [] ⟨i,r⟩ j_ U
   .rw[zE ⟨a1,rfl⟩]at i;subst i;dsimp only at p;subst p;refine gD q F56 ?_;exact D
  .have uu:k=g.length:=qB h;rw[uu,wO,Z3]at i;subst i;clear h;dsimp only at p;refine T ?_;exact A8 (j+1) [] ⟨p,ab⟩ j_ U
 .have bu:j=g.length:=qB h;rw[bu,wO,Aaf]at p;subst p;clear h;exact gA
end Go.Sy.Zaa
