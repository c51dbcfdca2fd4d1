/- Parts of a proof. -/
import Derived.Test.YtedbfemmehbeoaaGreatDoorXC29
set_option linter.all false
namespace Go.Sy.Zaa
open Go.Proofs Go.Proofs.Tryz
structure Bdq(n:Ai)(ow:List Int):Prop where
 len:ow.length=n.g.length
 host:∀i:Nat,i<ow.length->(Af n.g (i:Int)).ah<0->-1<=Af ow (i:Int)/\Af ow (i:Int)<=9
 ah:∀i:Nat,i<ow.length->¬(Af n.g (i:Int)).ah<0->Af ow (i:Int)=-1
def Ai6{l:List Int}{a k:Nat}{v:Int}(g:k<l.length):Af (l.set a v) (k:Int)=if a=k then v else Af l (k:Int):=by
 rw[Af,Af,yA,tE];by_cases h:a=k
 .subst h;rw[zE rfl,zE rfl,zE g];rfl
 .rw[zD h,zD h]
def Aow{n:Ai}{i:Int}(hi:0<=i/\i<=9):∀(ds ps:List ByteArray) {o:List Int},Bdq n o->Bdq n (Du n i o ds ps).1
 |d::ds,p::ps,o,h=>by
  rw[Du];split
  .exact h
  rename_i P;split
  .exact h
  rename_i J;simp only[vY,Decidable.not_not]at J;refine Aow hi ds ps ⟨by rw[yO];exact h.len,λk g j=>?_,λk g j=>?_⟩
  .rw[yO]at g;rw[Ai6 g];split
   .omega
   .exact h.host k g j
  .rw[yO]at g;rw[Ai6 g];split
   .rename_i e;rw[<-e,yQ j_]at j;omega
   .exact h.ah k g j
 |[],_,_,h=>by rw[Du];exact h;intros;contradiction
 |_::_,[],_,h=>by rw[Du];exact h;intros;contradiction
def Adp{n:Ai}{L:List Ex}:∀(l:List Ex) (i:Nat) {j:List Int},Bdq n j->(Hm n L i j l).2.2.2=0->Bdq n (Hm n L i j l).1
 |[],_,_,h,_=>h
 |t::r,i,j,h,g=>by
  rw[Hm]at g|-;split at g
  .cases g
  rename_i J;rw[zD J];split at g
  .cases g
  rename_i P;rw[zD P];split at g
  .rename_i o;exact zW g o
  rename_i o;rw[zD o];exact Adp r (i+1) (Aow j_ _ _ h) g
def Akz{n:Ai}{j:List Int}:∀(l:List D4) (i:Nat),¬nU n j i l<i+l.length->∀(k:Nat) (h:k<l.length),¬(l[k].ah<0/\Af j ((i+k:Nat):Int)=-1)
 |[],_,_,k,h=>by cases h
 |p::r,i,g,k,h=>by
  rw[nU]at g;split at g
  .rw[yI]at g;omega
  rename_i o;cases k with
  |zero=>exact o
  |succ k=>
   have J:¬nU n j (i+1) r<i+1+r.length:=by rw[yI]at g;omega
   have:=Akz r (i+1) J k (by rw[yI]at h;omega);rw[show i+1+k=i+(k+1) by omega]at this;exact this
def nV{n:Ai}{L:List Ex}(h:(Co n L).2.2.2=0):Jt n (Co n L).1=true:=by
 rw[Co]at h|-;dsimp only at h|-;split at h
 .cases h
 rename_i J;rw[zD J];split at h
 .rename_i g;exact zW h g
 rename_i g;rw[zD g];split at h
 .cases h
 rename_i P;rw[zD P];have h0:Bdq n (List.replicate n.g.length (-1)):=by
  have R:∀i:Nat,i<n.g.length->Af (List.replicate n.g.length (-1:Int)) (i:Int)=-1:=λi hi=>by
   rw[Aj (kS hi)];simp
  refine⟨by simp,λi hi _=>?_,λi hi _=>?_⟩
  .rw[R i (kS hi)];omega
  .exact R i (kS hi)
 have j:=Adp (L:=L) L 0 h0 (Classical.byContradiction g);dsimp only;generalize (Hm n L 0 (List.replicate n.g.length (-1)) L).1=ow at *;have hb:=Akz n.g 0 (by rw[xU];exact P);rw[Jt,zL j.len,show Ac n=true by simpa using J,yB,yB,yX];intro i hi;have hi:=xD.1 hi;have hp:i<n.g.length:=by rw[<-j.len];exact hi
 have e:Af n.g (i:Int)=n.g[i]:=by rw[Aj (kS hp)];rfl
 split
 .rename_i o;have:=j.host i hi o;have h4:=hb i hp;rw[xU,<-e]at h4;have h5:¬Af ow (i:Int)=-1:=λhh=>h4 ⟨o,hh⟩
  rw[zL j_,zL j_];rfl
 .rename_i o;exact zL (j.ah i hi o)
def Ad5:∀(l:List UInt8) (a:Nat),l.foldl (λn c=>n*256+c.toNat) a=a*256^l.length+Lj l
 |[],a=>by simp[Lj]
 |c::l,a=>by
  have e:Lj (c::l)=l.foldl (λn c=>n*256+c.toNat) (0*256+c.toNat):=rfl;rw[vG,Ad5 l,e,Ad5 l,yI,tV,xA,Nat.zero_mul,xU,Nat.mul_assoc,vJ 256,uD]
def A4d(c:UInt8)(l:List UInt8):Lj (c::l)=c.toNat*256^l.length+Lj l:=by
 rw[Lj,vG,Ad5];simp
def Apm(m:Nat):∀k,Lj (be k m)=m%256^k
 |0=>by simp[be,Lj,Nat.mod_one]
 |k+1=>by
  rw[be,A4d,E2,Apm m k,ofNat_toNat,tV,Nat.mod_mul,vJ (m/256^k%256)];omega
def Avv(d s t:Nat)(b:List UInt8):(frame d s t b).take 6=be 6 d/\((frame d s t b).drop 6).take 6=be 6 s/\((frame d s t b).drop 12).take 2=[UInt8.ofNat (t/256),UInt8.ofNat t]/\(frame d s t b).drop 14=b:=by
 have e:frame d s t b=be 6 d++(be 6 s++([UInt8.ofNat (t/256),UInt8.ofNat t]++b)):=by simp[frame,yW]
 have i:(frame d s t b).drop 6=be 6 s++([UInt8.ofNat (t/256),UInt8.ofNat t]++b):=by rw[e];exact List.drop_left' (E2 d 6)
 have g:(frame d s t b).drop 12=[UInt8.ofNat (t/256),UInt8.ofNat t]++b:=by
  rw[show (12:Nat)=6+6 from rfl,<-List.drop_drop,i];exact List.drop_left' (E2 s 6)
 refine⟨by rw[e];exact List.take_left' (E2 d 6),by rw[i];exact List.take_left' (E2 s 6),by rw[g];rfl,?_⟩;rw[show (14:Nat)=12+2 from rfl,<-List.drop_drop,g];rfl
def Ad6{t:Nat}(h:t<=65535):Lj [UInt8.ofNat (t/256),UInt8.ofNat t]=t:=by
 rw[Amt,ofNat_toNat,ofNat_toNat];omega
def Yf{f:Bg}(h:Cf f):Dw (Vc f)=(f,0):=by
 obtain ⟨g,i,j,o⟩:=Avv f.dst f.src f.au f.body;have R:=Js f;have hb:=h.body;have J:=h.dst;have P:=h.src;rw[Dw,zD j_,zD j_];simp only[Vc]at *;rw[g,i,j,o,Apm,Apm,Ad6 h.au,xN (kS J),xN (kS P)]
def A9d{f:Bg}{v:Int}(h:f.au≠33024)(g:f.body.length<=1500):(Om f v).2=0/\(Om f v).1=⟨f.dst,f.src,33024,[UInt8.ofNat (v.toNat/256),UInt8.ofNat v.toNat,UInt8.ofNat (f.au/256),UInt8.ofNat f.au]++f.body⟩:=by
 rw[Om,zD h,zD j_];exact⟨q_,q_⟩
def Am0{f:Bg}{v:Int}(g:Cf f)(h:f.au≠33024)(i:f.body.length<=1500)(hv:0<=v/\v<=4094):Cf (Om f v).1/\(Om f v).1.au=33024/\H1 (Om f v).1=(f,v,0,0):=by
 obtain ⟨_,e⟩:=A9d (v:=v) h i;have j:=g.au;have o:Lj [UInt8.ofNat (v.toNat/256),UInt8.ofNat v.toNat]=v.toNat:=Ad6 j_;have J:Lj [UInt8.ofNat (f.au/256),UInt8.ofNat f.au]=f.au:=Ad6 j;rw[e];refine⟨⟨g.dst,g.src,by show 33024<=65535;decide,by simp;omega⟩,q_,?_⟩;rw[H1,zD qx,zD qx];have P:([UInt8.ofNat (v.toNat/256),UInt8.ofNat v.toNat,UInt8.ofNat (f.au/256),UInt8.ofNat f.au]++f.body).take 2=[UInt8.ofNat (v.toNat/256),UInt8.ofNat v.toNat]:=rfl;have R:(([UInt8.ofNat (v.toNat/256),UInt8.ofNat v.toNat,UInt8.ofNat (f.au/256),UInt8.ofNat f.au]++f.body).drop 2).take 2=[UInt8.ofNat (f.au/256),UInt8.ofNat f.au]:=rfl;have a3:([UInt8.ofNat (v.toNat/256),UInt8.ofNat v.toNat,UInt8.ofNat (f.au/256),UInt8.ofNat f.au]++f.body).drop 4=f.body:=rfl;rw[P,R,a3,o,J,zD j_,show ((v.toNat%4096:Nat):Int)=v by omega,show ((v.toNat/4096:Nat):Int)=0 by omega]
def Ey:∀(l:List Nat) (r:List UInt8) (i:Nat) (h:i<l.length),Cd (E8 l++r) (2*i) 2=l[i]%65536
 |a::l,r,0,_=>by
  show Lj [UInt8.ofNat (a/256),UInt8.ofNat a]=a%65536;rw[Amt,ofNat_toNat,ofNat_toNat];omega
 |a::l,r,i+1,h=>Ey l r i (kS h)
def A81{s d:Nat}{b:List UInt8}(J:s<=65535)(P:d<=65535)(R:b.length<=60000):B9 (Ag1 s d b)=((s:Int),(d:Int),b,0):=by
 have hl:=bK s d b;have g:=Ey [s,d,8+b.length,0] b 0 (by show 0<4;decide);have i:=Ey [s,d,8+b.length,0] b 1 (by show 1<4;decide);have j:=Ey [s,d,8+b.length,0] b 2 (by show 2<4;decide);have o:=Ey [s,d,8+b.length,0] b 3 (by show 3<4;decide);change Cd (Ag1 s d b) 0 2=s%65536 at g;change Cd (Ag1 s d b) 2 2=d%65536 at i;change Cd (Ag1 s d b) 4 2=(8+b.length)%65536 at j;change Cd (Ag1 s d b) 6 2=0%65536 at o;rw[B9,zD j_,zD j_,zD j_,zD j_,g,i,j,xN j_,xN j_,xN j_,xI j_];rfl
def A3d{p:Dv}(hp:Mx p)(hb:p.body.length<=1480):Cn (Oy p)=(p,0):=by
 have hl:=Qo p;have hs:Mm p<=65535:=by rw[Mm,Amz];omega
 have hw:=Afi hp hb (Mm p) hs;have kz:=Afi hp hb 0 qq;have n0:=Ey [17664+p.bj,20+p.body.length,p.id,0,p.bg*256+p.aw,Mm p,p.src/65536,p.src,p.dst/65536,p.dst] p.body 0 (by show 0<10;decide);have P:=Ey [17664+p.bj,20+p.body.length,p.id,0,p.bg*256+p.aw,Mm p,p.src/65536,p.src,p.dst/65536,p.dst] p.body 1 (by show 1<10;decide);have n4:=Ey [17664+p.bj,20+p.body.length,p.id,0,p.bg*256+p.aw,Mm p,p.src/65536,p.src,p.dst/65536,p.dst] p.body 2 (by show 2<10;decide);have n6:=Ey [17664+p.bj,20+p.body.length,p.id,0,p.bg*256+p.aw,Mm p,p.src/65536,p.src,p.dst/65536,p.dst] p.body 3 (by show 3<10;decide);have g:=Ey [17664+p.bj,20+p.body.length,p.id,0,p.bg*256+p.aw,Mm p,p.src/65536,p.src,p.dst/65536,p.dst] p.body 6 (by show 6<10;decide);have i:=Ey [17664+p.bj,20+p.body.length,p.id,0,p.bg*256+p.aw,Mm p,p.src/65536,p.src,p.dst/65536,p.dst] p.body 7 (by show 7<10;decide);have j:=Ey [17664+p.bj,20+p.body.length,p.id,0,p.bg*256+p.aw,Mm p,p.src/65536,p.src,p.dst/65536,p.dst] p.body 8 (by show 8<10;decide);have o:=Ey [17664+p.bj,20+p.body.length,p.id,0,p.bg*256+p.aw,Mm p,p.src/65536,p.src,p.dst/65536,p.dst] p.body 9 (by show 9<10;decide);change Cd (Oy p) 2 2=(20+p.body.length)%65536 at P;change Cd (Oy p) 4 2=p.id%65536 at n4;change Cd (Oy p) 6 2=0%65536 at n6;change Cd (Oy p) 12 2=p.src/65536%65536 at g;change Cd (Oy p) 14 2=p.src%65536 at i;change Cd (Oy p) 16 2=p.dst/65536%65536 at j;change Cd (Oy p) 18 2=p.dst%65536 at o;have h1:=hp.bj;have h2:=hp.id;have h3:=hp.bg;have h4:=hp.aw;have h5:=hp.src;have h6:=hp.dst;have b0:bAt (Oy p) 0=UInt8.ofNat ((17664+p.bj)/256):=rfl;have b1:bAt (Oy p) 1=UInt8.ofNat (17664+p.bj):=rfl;have b8:bAt (Oy p) 8=UInt8.ofNat ((p.bg*256+p.aw)/256):=rfl;have b9:bAt (Oy p) 9=UInt8.ofNat (p.bg*256+p.aw):=rfl;have c0:bAt (Oy p) 0=69:=by rw[b0,show (17664+p.bj)/256=69 by omega];rfl
 have ht:(Oy p).take 20=Kr p (Mm p):=by rw[Oy];exact List.take_left' (Ox _ _)
 have hd:(Oy p).drop 20=p.body:=by rw[Oy];exact List.drop_left' (Ox _ _)
 have my:Ls (Wv ((Oy p).take 20) 10)=65535:=by
  have e0:Mm p=65535-Ls (Wv (Kr p 0) 10):=by rw[Mm,Amz,Ox]
  have a0:=Avx (Wv (Kr p 0) 10);have w1:Wv (Kr p (Mm p)) 10=Wv (Kr p 0) 10+Mm p:=by
   rw[Kr,Kr,oB _ 10 (by show 10<=10;decide) hw,oB _ 10 (by show 10<=10;decide) kz];simp only[List.take_succ_cons,List.take_zero,xR,vW,List.sum_cons,List.sum_nil];rw[xN (show Mm p<65536 by omega)];omega
  rw[ht,w1,A7i _ _ hs];split<;>omega
 rw[Cn,zD j_,zD (by rw[c0,P];intro J;rcases J with J|J;exact J rfl;omega),zD j_,zD j_,zD j_];rw[b1,b8,b9,ofNat_toNat,ofNat_toNat,ofNat_toNat,n4,P,Az0 j_,Az0 j_,g,i,j,o,xN (show 20+p.body.length<65536 by omega),xI j_,hd];obtain ⟨a1,id,a2,R,src,dst,body⟩:=p;dsimp only at *;simp only[Prod.mk.injEq,Dv.mk.injEq,and_true];refine⟨?_,?_,?_,?_,?_,?_⟩<;>omega
def A8u{v:Nat}{b:List UInt8}(h:1<=v/\v<=16777215):Qb (Sg v++b)=((v:Int),b,0):=by
 have i:Cd (Sg v++b) 4 3=v:=by
  show Lj [UInt8.ofNat (v/65536),UInt8.ofNat (v/256),UInt8.ofNat v]=v;simp[Lj];omega
 have j:(Sg v++b).take 8=Sg v:=rfl;rw[Qb,zD (by simp[Lb]),i,j,zD (by intro g;rcases g with g|g;omega;exact g rfl)];rfl
def Asg{a b:Nat}{v:Int}{f:Bg}(P:a<4294967296)(R:b<4294967296)(hf:Cf f)(ht:f.au≠33024)(hl:f.body.length<=1450)(hv:1<=v/\v<=16777215):(Wy a b v f).2=0/\Do (Wy a b v f).1=(a,b,v,f,0):=by
 have o:bI v=false:=by rw[bI,zJ j_,zJ j_];rfl
 have lp:(Ag1 (Qy f.dst f.src) 4789 (Sg v.toNat++Vc f)).length=8+(8+(14+f.body.length)):=by rw[bK,zR,Lb,Js]
 have mg:Mx (Sw a b v.toNat f):=⟨xV _,xV _,by show 64<=255;decide,by show 17<=255;decide,P,R⟩
 have J:(Sw a b v.toNat f).body.length<=1480:=by show (Ag1 _ _ _).length<=1480;rw[lp];omega
 have jt:=Qo (Sw a b v.toNat f);have mq:Cf ⟨I4 b,I4 a,2048,Oy (Sw a b v.toNat f)⟩:=⟨dH b R,dH a P,by show 2048<=65535;decide,by dsimp only;omega⟩
 rw[Wy,zD ht,zD (by rw[o];exact Bool.noConfusion),zD j_];refine⟨q_,?_⟩;have rq:Eu (frame (I4 b) (I4 a) 2048 (Oy (Sw a b v.toNat f)))=(Sw a b v.toNat f,0):=by
  have j:=Yf mq;rw[Vc]at j;dsimp only at j;rw[Eu,j];dsimp only;rw[zD (λg=>g rfl),zD (λg=>g rfl),A3d mg J,zD (λg=>g rfl)];rfl
 have i:Qy f.dst f.src<=65535:=by rw[Qy];omega
 have br:Us (Sw a b v.toNat f).body=(v,f,0):=by
  have j:B9 (Sw a b v.toNat f).body=(((Qy f.dst f.src:Nat):Int),((4789:Nat):Int),Sg v.toNat++Vc f,0):=A81 i qq (by rw[zR,Lb,Js];omega);have h2:Qb (Sg v.toNat++Vc f)=((v.toNat:Int),Vc f,0):=A8u j_;rw[Us,j];dsimp only;rw[zD (λg=>g rfl),zD (λg=>g rfl),h2];dsimp only;rw[zD (λg=>g rfl),Yf hf];dsimp only;rw[zD (λg=>g rfl),zD ht,show ((v.toNat:Nat):Int)=v by omega]
 rw[Do,rq];dsimp only;rw[zD (λg=>g rfl),br];dsimp only;rw[zD (λg=>g rfl)];rfl
def eS{k a:Type}(key:k->Option a)(l:List k):Prop:=∀i j (hi:i<l.length) (g:j<l.length),key l[i]≠none->key l[i]=key l[j]->i=j
def A26{k a:Type}{key:k->Option a}{l e:List k}(h:eS key l)(J:∀x∈e,key x=none):eS key (l++e):=by
 intro i j hi P g o;rw[zR]at hi P;by_cases c:i<l.length
 .by_cases d:j<l.length
  .rw[yZ c]at g o;rw[yZ d]at o;exact h i j c d g o
  .exfalso;rw[xW (show l.length<=j by omega),J _ (zI _)]at o;exact g o
 .exfalso;rw[xW (show l.length<=i by omega),J _ (zI _)]at g;exact g q_
def A25{a b:Type}{key:a->Option b}{l:List a}(h:eS key l)(k:Nat){x:a}(J:∀y∈l,key y≠key x):eS key (l.set k x):=by
 intro i j hi P o g;rw[yO]at hi P;rw[uC]at o;rw[uC,uC]at g;by_cases c:k=i
 .by_cases d:k=j
  .omega
  .rw[zE c,zD d]at g;exact zW g.symm (J _ (zI _))
 .rw[zD c]at o g;by_cases d:k=j
  .rw[zE d]at g;exact zW g (J _ (zI _))
  .rw[zD d]at g;exact h i j hi P o g
def Zy{a b:Type}{key:a->Option b}{l:List a}(h:eS key l)(k:Nat){x:a}(R:∀hk:k<l.length,key x=key l[k]):eS key (l.set k x):=by
 have J:∀i (hi:i<l.length),key ((l.set k x)[i]'(by rw[yO];exact hi))=key l[i]:=by
  intro i hi;rw[uC];split
  .rename_i c;subst c;exact R hi
  .rfl
 intro i j hi g P o;rw[yO]at hi g;rw[J i hi]at P o;rw[J j g]at o;exact h i j hi g P o
def Be0{k a:Type}{key:k->Option a}{l:List k}{f:k->k}(h:eS key l)(g:∀x,key (f x)=key x):eS key (l.map f):=by
 intro i j hi o J P;rw[yS]at hi o;rw[tO,g]at J;rw[tO,tO,g,g]at P;exact h i j hi o J P
def Bas{k a:Type}{key:k->Option a}{l:List k}(h:eS key l){x:k}(o:∀y∈l,key y≠key x):eS key (l++[x]):=by
 intro i j hi P J g;rw[zR,yD]at hi P;by_cases c:i<l.length
 .rw[yZ c]at J g;by_cases d:j<l.length
  .rw[yZ d]at g;exact h i j c d J g
  .exfalso;have R:j=l.length:=by omega
   subst R;rw[List.getElem_concat_length rfl]at g;exact o _ (zI c) g
 .have hi':i=l.length:=by omega
  subst hi';by_cases d:j<l.length
  .exfalso;rw[List.getElem_concat_length rfl,yZ d]at g;exact o _ (zI d) g.symm
  .omega
def any_no{k:Type}{p:k->Bool}{l:List k}(h:Bt p l<0):∀x∈l,p x=false:=by
 have g:l.any p=false:=by rw[<-Mr];exact zJ j_
 simpa [wE] using g
def vtK(d:Device):Option Int:=if d.aq=0 then none else some d.aq
def vnK(d:A0):Option (Int×Int):=if d.ao=0 then none else some (d.q,d.ao)
def irK(x:Irb):Option Int:=some x.addr
structure Aw9(n:Ai):Prop where
 vt:eS vtK n.j
 vn:eS vnK n.c
 ir:eS irK n.r
 st:∀s∈n.ab,Vi s.an=false
def Aoh:Aw9 Au:=⟨λi j hi=>(by cases hi),λi j hi=>(by cases hi),λi j hi=>(by cases hi),λs g=>(by cases g)⟩
def Ap4{l:A2}(g:l.kind=4)(h:Hp l=true):Vi l.an=false:=by
 simp only[Hp,Cq,g,zG]at h;simp only[On,zG,xH]at h;simp at h;exact h.1.2.1.1.2
def Beo{n:Ai}{l:A2}(h:Aw9 n):Aw9 (La n l).1:=by
 have e:=Aoh;rw[La];split
 .rw[Df]
  repeat' split
  all_goals (try exact e)
  exact⟨A26 h.vt (λx hx=>by rw[zX.1 hx];rfl),h.vn,h.ir,h.st⟩
 split
 .rw[E4]
  repeat' split
  all_goals (try exact e)
  refine⟨h.vt,?_,h.ir,h.st⟩;show eS vnK (By (Cg n l.q) n.c (l.z::l.u));have key:∀(vs:List Int) (ds:List A0),eS vnK ds->eS vnK (By (Cg n l.q) ds vs):=by
   intro vs
   induction vs with
   |nil=>exact λds j=>j
   |cons v vs ih=>
    intro ds j;refine ih (D0 (Cg n l.q) ds v) ?_;rw[D0];split
    .exact A26 j (λx hx=>by rw[zX.1 hx];rfl)
    .exact j
  exact key _ _ h.vn
 split
 .rw[E5];dsimp only
  repeat' split
  all_goals (try exact e)
  exact⟨h.vt,h.vn,h.ir,h.st⟩
 split
 .rename_i h4;rw[De];dsimp only;split
  .exact e
  rename_i hf;have hf:Es n l 4=true:=kS hf;rw[Es,zG,zG]at hf
  repeat' split
  all_goals (try exact e)
  refine⟨h.vt,h.vn,h.ir,λs J=>?_⟩;rcases yJ.1 J with J|J
  .exact h.st s J
  .rw[zX.1 J];exact Ap4 h4 (kS hf.2.1)
 split
 .rw[E3];dsimp only;split
  .exact e
  split
  .exact e
  rename_i hc;refine⟨?_,h.vn,h.ir,h.st⟩;show eS vtK (S4 n.j (Eh n l 5).1 l.addr);have i:Ig n l.addr<0:=by omega
  have i:=any_no i;by_cases o:l.addr=0
  .have h1:¬(Af n.j (Eh n l 5).1).aq≠0:=λg=>hc (.inl g)
   refine Zy h.vt _ λP=>?_
   have R:(Af n.j (Eh n l 5).1).aq=0:=Classical.byContradiction h1;rw[Aj P]at R;simp only[vtK,o,R]
  .refine A25 h.vt _ λy hy=>?_
   have h8:=i y hy;simp at h8;simp only[vtK,zD o];split
   .exact λg=>by cases g
   .exact λg=>h8 (Option.some.inj g)
 split
 .rw[Iw];dsimp only;split
  .exact e
  split
  .exact e
  split
  .exact e
  rename_i hc;split
  .exact e
  rename_i hv;refine⟨h.vt,?_,h.ir,h.st⟩;have j:=dom_of (n:=n) (dev:=(Eh n l 6).1) (v:=l.z) j_;have i:Xv n (Eh n l 6).1 l.num<0:=by omega
  have i:=any_no i;by_cases o:l.num=0
  .refine Zy h.vn _ λP=>?_
   have R:(Af n.c (Ep n (Eh n l 6).1 l.z)).ao=0:=Classical.byContradiction λg=>hv (.inl g)
   rw[Aj P]at R;simp only[vnK,o,R,zE]
  .refine A25 h.vn _ λy hy=>?_
   have h8:=i y hy;simp[o]at h8;simp only[vnK,zD o,j.2.1];split
   .exact λg=>by cases g
   .intro g;have:=Option.some.inj g;simp only[Prod.mk.injEq]at this;exact h8 this.1 this.2
 split
 .rw[D1];dsimp only
  repeat' split
  all_goals (try exact e)
  exact⟨h.vt,h.vn,h.ir,h.st⟩
 split
 .rw[Iv];dsimp only
  repeat' split
  all_goals (try exact e)
  exact⟨h.vt,h.vn,h.ir,h.st⟩
 split
 .rw[Iy];dsimp only;split
  .exact e
  split
  .exact e
  split
  .exact e
  split
  .exact e
  rename_i hc;refine⟨h.vt,Zy h.vn _ λP=>?_,Bas h.ir λy hy=>?_,h.st⟩
  .rw[Aj P];rfl
  .have i:n.r.any (Qf n (Eh n l 9).1 l.addr l.bits)=false:=by
    cases g:n.r.any (Qf n (Eh n l 9).1 l.addr l.bits)
    .rfl
    .exact zW (.inr g) hc
   rw[wE]at i;have:=i y hy;simp only[Qf,yR,yL,vY]at this;exact λg=>this.1 (Option.some.inj g)
 exact e
def Ba7{n:Ai}(h:Aw9 n):Aw9 (Cv n):=⟨h.vt,Be0 h.vn λ_=>rfl,h.ir,h.st⟩
def Ao1:∀(l:List A2) (n:Ai),Aw9 n->(Bw n l).2.2=0->Aw9 (Bw n l).1
 |[],n,i,h=>by
  rw[Bw,Lc]at h|-;split at h
  .rename_i g;exact zW h g
  rename_i g;rw[zD g];split at h
  .simp at h
  rename_i j;rw[zD j];obtain ⟨o,_⟩:=Vh (n:=n) j_;dsimp only;rw[o];exact Ba7 i
 |x::l,n,i,h=>by
  rw[Bw]at h|-;split at h
  .rename_i g;exact zW h g
  rename_i g;rw[zD g];exact Ao1 l _ (Beo i) h
structure Oj(n:Ai):Prop where
 right:Ac n=true
 cv:Aw9 n
 num:n.Num
 cz:(Dj n).2.2=0
 same:Cv n=n
abbrev InD(n:Ai)(d:Int):Prop:=0<=d/\d.toNat<n.c.length
def Anz{n:Ai}{d:Int}(h:InD n d):Am d n.c.length=true:=by
 rw[Am,zL h.1,zL (by have:=h.2;omega)];rfl
def Ahk{l:List Int}{x:Int}:Li l x=true↔x∈l:=by simp[Li]
def A8r{n:Ai}(h:Oj n){a b:Int}(j:0<=a/\a.toNat<n.j.length)(o:0<=b/\b.toNat<n.j.length)(e:(Af n.j a).aq=(Af n.j b).aq)(i:(Af n.j a).aq≠0):a=b:=by
 rw[Aj j.2]at e i;rw[Aj o.2]at e;have g:=i;rw[e]at g;have:=h.cv.vt a.toNat b.toNat j.2 o.2 (by rw[vtK,zD i];exact λe=>by cases e) (by rw[vtK,vtK,zD i,zD g,e]);omega
def A8w{n:Ai}(h:Oj n){a b:Int}(o:InD n a)(J:InD n b)(e:(Af n.c a).q=(Af n.c b).q)(i:(Af n.c a).ao=(Af n.c b).ao)(j:(Af n.c a).ao≠0):a=b:=by
 rw[Aj o.2]at e i j;rw[Aj J.2]at e i;have g:=j;rw[i]at g;have:=h.cv.vn a.toNat b.toNat o.2 J.2 (by rw[vnK,zD j];exact λe=>by cases e) (by rw[vnK,vnK,zD j,zD g,e,i]);have:=o.1;have:=J.1;omega
def own_is{n:Ai}(h:Oj n){a:Int}(i:0<=a/\a.toNat<n.j.length)(o:(Af n.j a).aq≠0):Ig n (Af n.j a).aq=a:=by
 have j:0<=Ig n (Af n.j a).aq:=Mq.2 (by
  rw[wA];exact⟨Af n.j a,Uq i.2,by simp⟩)
 obtain ⟨J,g⟩:=Jf j;have g:(Af n.j (Ig n (Af n.j a).aq)).aq=(Af n.j a).aq:=by simpa [Ig] using g
 exact A8r h ⟨j,J⟩ i g (by rw[g];exact o)
def Aiw{n:Ai}(J:Ac n=true){d k:Int}(i:InD n d)(o:k∈(Af n.c d).ae):InD n k/\(Af n.c k).ao=(Af n.c d).ao/\(Af n.c d).ao≠0/\Ei n k≠0/\Ei n d≠0:=by
 have P:=(Anc J i o).1;rw[Aj i.2]at o;have h:=J;simp only[Ac,zG]at h;have R:=Cm.1 h.1.1.1.1.1.1.2 _ i.2;obtain ⟨j,hj,e⟩:=yY.1 o;have g:=Cm.1 R j hj;rw[e]at g;simp only[Yn,zG,xF,yL,U0]at g;rw[<-Aj i.2]at g;exact⟨P,g.1.1.1.1.1.2,g.1.1.1.1.2,g.1.1.1.2,g.1.1.2⟩
def A6l{n:Ai}(h:Oj n){d k:Int}(J:InD n d)(hk:k∈(Af n.c d).ae){f:Bg}(hf:Cf f)(ht:f.au≠33024)(hl:f.body.length<=1450)(hg:J5 f.src=false):(Mc n d k f).2=0/\Jh n (Mc n d k f).1=(d,k,f,0):=by
 obtain ⟨P,v1,v0,t1,t0⟩:=Aiw h.right J hk;have dk:=(K1 h.right P.2).1;have dd:=K1 h.right J.2;rw[<-Aj P.2]at dk;rw[<-Aj J.2]at dd;have n1:0<=Ei n d/\Ei n d<4294967296:=h.num.aq _ (Uq dd.1.2);have n2:0<=Ei n k/\Ei n k<4294967296:=h.num.aq _ (Uq dk.2);have e1:(((Ei n d).toNat:Nat):Int)=Ei n d:=yQ n1.1;have e2:(((Ei n k).toNat:Nat):Int)=Ei n k:=yQ n2.1;obtain ⟨w1,w2⟩:=Asg (a:=(Ei n d).toNat) (b:=(Ei n k).toNat) (v:=(Af n.c d).ao) j_ j_ hf ht hl j_;have hm:Mc n d k f=Wy (Ei n d).toNat (Ei n k).toNat (Af n.c d).ao f:=by
  rw[Mc,zD,zD]
  .rw[Ahk.2 hk];decide
  .rintro (o|o|o)
   .rw[Anz P]at o;cases o
   .rw[Anz J]at o;cases o
   .rw[h.right]at o;cases o
 rw[hm];refine⟨w1,?_⟩;have c1:Bt (λx:Device=>decide (x.aq=(((Ei n k).toNat:Nat):Int))) n.j=(Af n.c k).q:=by
  rw[e2];exact own_is h dk t1
 have c2:Bt (λx:A0=>decide (x.q=(Af n.c k).q)&&decide (x.ao=(Af n.c d).ao)) n.c=k:=by
  have h1:0<=Bt (λ x:A0=>decide (x.q=(Af n.c k).q) && decide (x.ao=(Af n.c d).ao)) n.c:=Mq.2 (by
   rw[wA];exact⟨Af n.c k,Uq P.2,by simp[v1]⟩)
  obtain ⟨h2,g⟩:=Jf h1;simp only[zG,zK]at g;exact A8w h ⟨h1,h2⟩ P g.1 (by rw[g.2,v1]) (by rw[g.2];exact v0)
 have c3:0<=Bt (λj:Int=>decide (Ei n j=(((Ei n d).toNat:Nat):Int))) (Af n.c k).ae/\Af (Af n.c k).ae (Bt (λj:Int=>decide (Ei n j=(((Ei n d).toNat:Nat):Int))) (Af n.c k).ae)=d:=by
  have hb:=(Anc h.right J hk).2;have h1:0<=Bt (λ j:Int=>decide (Ei n j=(((Ei n d).toNat:Nat):Int))) (Af n.c k).ae:=Mq.2 (by
   rw[wA];exact⟨d,hb,by rw[e1];simp⟩)
  obtain ⟨h2,g⟩:=Jf h1;generalize Bt (λj:Int=>decide (Ei n j=(((Ei n d).toNat:Nat):Int))) (Af n.c k).ae=i at *;have hj:Af (Af n.c k).ae i∈(Af n.c k).ae:=Uq h2;generalize Af (Af n.c k).ae i=j at *;obtain ⟨wb,u1,_,_,_⟩:=Aiw h.right P hj;have g:Ei n j=Ei n d:=by rw[e1]at g;simpa using g
  have dj:=(K1 h.right wb.2).1;rw[<-Aj wb.2]at dj;exact⟨h1,A8w h wb J (A8r h dj dd.1 g (by show Ei n j≠0;rw[g];exact t0)) (by rw[u1,v1]) (by rw[u1,v1];exact v0)⟩
 have R:Xn n (Ei n d).toNat (Ei n k).toNat (Af n.c d).ao=(d,k):=by
  rw[Xn];dsimp only;rw[c1,c2,zD (by have:=dk.1;have:=P.1;omega),zD (by have:=c3.1;omega),c3.2]
 rw[Jh,zD (by rw[h.right];decide),w2];dsimp only;rw[zD qx,R];dsimp only;rw[zD (by have:=J.1;omega),hg,zD qx]
def Av4{n:Ai}(g:Ac n=true){q:Int}(i:0<=q/\q.toNat<n.g.length){f:Bg}(j:Cf f)(o:f.au≠33024)(J:J5 f.src=false)(P:(Af n.g q).native≠0):Ev n q (Vc f)=(D2 n (Af n.g q).q (Af n.g q).native,f,0):=by
 have hp:Am q n.g.length=true:=by rw[Am,zL i.1,zL j_];rfl
 rw[Ev,zD (by rw[hp,g];decide),Yf j];dsimp only;rw[zD qx,zD o,Ld,J,zD qx];have R:Kx (Af n.g q) false 0=((Af n.g q).native,true):=by rw[Kx,zE (.inl rfl),zL P]
 rw[R,zD qx]
def Are{n:Ai}(i:Ac n=true){q v:Int}(j:0<=q/\q.toNat<n.g.length){f:Bg}(o:Cf f)(J:f.au≠33024)(P:f.body.length<=1500)(R:J5 f.src=false)(hv:1<=v/\v<=4094)(br:Li (Af n.g q).u v=true):Ev n q (Vc (Om f v).1)=(D2 n (Af n.g q).q v,f,0):=by
 have hp:Am q n.g.length=true:=by rw[Am,zL j.1,zL j_];rfl
 obtain ⟨s1,s2,s3⟩:=Am0 (v:=v) o J P ⟨by omega,hv.2⟩;rw[Ev,zD (by rw[hp,i];decide),Yf s1];dsimp only;rw[zD qx,zE s2,s3];dsimp only;rw[zD qx,Ld,R,zD qx];have mh:Kx (Af n.g q) true v=(v,true):=by rw[Kx,zD (by rintro (g|g);cases g;omega),zE br]
 rw[mh,zD qx]
structure Aa5(n:Ai):Prop where
 bb:∀x∈n.r,0<=x.bb/\x.bb.toNat<n.ag.length
 bi:∀x∈n.r,∀y∈n.r,(Af n.ag x.bb).q≠(Af n.ag y.bb).q->Zv x.addr x.bits y.addr=false
def Aoi:Aa5 Au:=⟨λx g=>(by cases g),λx g=>(by cases g)⟩
def Bep{n:Ai}{l:A2}(h:Aa5 n):Aa5 (La n l).1:=by
 have same:∀{m:Ai},m.r=n.r->m.ag=n.ag->Aa5 m:=λ{m} P J=>⟨by rw[P,J];exact h.bb,by rw[P,J];exact h.bi⟩
 have e:=Aoi;rw[La];split
 .rw[Df]
  repeat' split
  all_goals (first|exact e|exact same rfl rfl)
 split
 .rw[E4]
  repeat' split
  all_goals (first|exact e|exact same rfl rfl)
 split
 .rw[E5];dsimp only
  repeat' split
  all_goals (first|exact e|exact same rfl rfl)
 split
 .rw[De];dsimp only
  repeat' split
  all_goals (first|exact e|exact same rfl rfl)
 split
 .rw[E3];dsimp only
  repeat' split
  all_goals (first|exact e|exact same rfl rfl)
 split
 .rw[Iw];dsimp only
  repeat' split
  all_goals (first|exact e|exact same rfl rfl)
 split
 .rw[D1];dsimp only
  repeat' split
  all_goals (first|exact e|exact same rfl rfl)
 split
 .rw[Iv];dsimp only;split
  .exact e
  split
  .exact e
  split
  .exact e
  have key:∀x∈n.r,Af (n.ag++[(⟨l.row,(Eh n l 8).1,l.name,l.ak,l.am⟩:Vrf)]) x.bb=Af n.ag x.bb:=λx g=>oZ (h.bb x g).2
  refine⟨λx g=>?_,λx g y j i=>?_⟩
  .have:=h.bb x g;dsimp only;rw[zR];omega
  .dsimp only at g j i|-;rw[key x g,key y j]at i;exact h.bi x g y j i
 split
 .rw[Iy];dsimp only;split
  .exact e
  split
  .exact e
  rename_i hv;split
  .exact e
  split
  .exact e
  rename_i hc;have R:∀y∈n.r,Qf n (Eh n l 9).1 l.addr l.bits y=false:=by
   have P:n.r.any (Qf n (Eh n l 9).1 l.addr l.bits)=false:=by
    cases hh:n.r.any (Qf n (Eh n l 9).1 l.addr l.bits)
    .rfl
    .exact zW (.inr hh) hc
   simpa [wE] using P
  have p1:=Jf (p:=λv:Vrf=>v.q==(Eh n l 9).1&&v.name==l.name) (l:=n.ag) (by show 0<=Agz n (Eh n l 9).1 l.name;omega);have a2:(Af n.ag (Agz n (Eh n l 9).1 l.name)).q=(Eh n l 9).1:=by
   have:=p1.2;simp only[zG,yL]at this;exact this.1
  have a1:(Agz n (Eh n l 9).1 l.name).toNat<n.ag.length:=p1.1;have o:∀y∈n.r,(Af n.ag y.bb).q≠(Eh n l 9).1->Zv y.addr y.bits l.addr=false/\Zv l.addr l.bits y.addr=false:=λy j i=>by
   have:=R y j;simp only[Qf,wY,xC,bne_eq_false_iff_eq]at this;rcases this.2 with J|J
   .exact zW J i
   .exact J
  refine⟨λx g=>?_,λx g y j i=>?_⟩
  .rcases yJ.1 g with g|g
   .exact h.bb x g
   .rw[zX.1 g];exact⟨by dsimp only;omega,a1⟩
  .dsimp only at i;rcases yJ.1 g with g|g
   .rcases yJ.1 j with j|j
    .exact h.bi x g y j i
    .rw[zX.1 j]at i|-;dsimp only at i|-;rw[a2]at i;exact(o x g i).1
   .rw[zX.1 g]at i|-;dsimp only at i|-;rcases yJ.1 j with j|j
    .rw[a2]at i;exact(o y j (λhh=>i hh.symm)).2
    .rw[zX.1 j]at i;exact zW q_ i
 exact e
def Ba9{n:Ai}(h:Aa5 n):Aa5 (Cv n):=⟨h.bb,h.bi⟩
def Ao2:∀(l:List A2) (n:Ai),Aa5 n->(Bw n l).2.2=0->Aa5 (Bw n l).1
 |[],n,i,h=>by
  rw[Bw,Lc]at h|-;split at h
  .rename_i g;exact zW h g
  rename_i g;rw[zD g];split at h
  .simp at h
  rename_i j;rw[zD j];obtain ⟨o,_⟩:=Vh (n:=n) j_;dsimp only;rw[o];exact Ba9 i
 |x::l,n,i,h=>by
  rw[Bw]at h|-;split at h
  .rename_i g;exact zW h g
  rename_i g;rw[zD g];exact Ao2 l _ (Bep i) h
def Au6{n:Ai}(hr:Ac n=true)(hu:Eb n)(hf:Aa5 n){irb dst:Int}(hd:0<=dst/\dst<4294967296)(h:(Cu n irb dst).2=true):L3 n dst=false:=by
 cases ht:L3 n dst with
 |false=>rfl
 |true=>
  obtain ⟨i,hi,ha⟩:=Zi.1 ht;have hw:=(Td h).1;obtain ⟨g,P,h3⟩:=Sa.1 hw;have bw:Vv n irb dst i=false:=by
   rw[Cu]at h;split at h
   .cases h
   .rename_i hc;cases o:Vv n irb dst i
    .rfl
    .exact zW (wA.2 ⟨i,xD.2 hi,o⟩) hc
  generalize (Cu n irb dst).1=J at *;simp only[Am6,zG,yL]at h3;have R:Af n.r (i:Int)=n.r[i]:=Aj (l:=n.r) (i:=(i:Int)) hi;have a0:Sc n i≠Sc n irb:=λo=>by
   rw[Vv,o,R,ha]at bw;simp at bw
  have dv:∀(j:Nat) (hj:j<n.r.length),Sc n (j:Int)=(Af n.ag n.r[j].bb).q:=λj hj=>by
   have:=Bcr hr hj;simp only[Ajq,zG,yL]at this;rw[Sc,Aj (l:=n.r) (i:=(j:Int)) hj];exact this.1.1.1.2
  have gh:((J.toNat:Nat):Int)=J:=yQ g.1;have d1:=dv J.toNat g.2;rw[gh]at d1;have d2:=dv i hi;have hx:=hf.bi n.r[J.toNat] (zI g.2) n.r[i] (zI hi) (by rw[<-d1,<-d2,<-h3.1];exact λo=>a0 o.symm);rw[Aj g.2,Aem (E1 hr g.2).2.2 (hu _ (zI g.2)) hd]at P;rw[ha]at hx;rw[hx]at P;cases P
structure WayS(n:Ai)(p:Int)(l:List Kg)(st:Nat->Int×Int)(r:Nat):Prop where
 pos:1<=r/\r<=l.length
 cx:∀i,i<l.length->(Af l (i:Int)).l=(st i).1
 kd:∀i,i<l.length->(st i).2=if i<r then 0 else 1
 start:Start n p (st 0)/\Af l ((0:Nat):Int)=⟨0,0,(st 0).1,0⟩
 hop:∀i,i+1<l.length->i+1≠r->Af l ((i+1:Nat):Int)∈J0 n (st i).1
 lead:∀i,i+1<l.length->i+1=r->∃q∈Hw n (st i).1,Af l ((i+1:Nat):Int)=⟨3,0,q.l,q.addr⟩
section
variable {n:Ai} {p:Int} {l:List Kg} {st:Nat->Int×Int} {r:Nat}
end
section
variable {n:Ai} {up:List Bool}
end
def Atn(m:B4)(d X:Int)(l:List B0):Ec (setQ m d l) X=if d.toNat=X.toNat/\X.toNat<m.ai.length then l else Ec m X:=by
 rw[Ec,setQ];dsimp only;rw[tE];split
 .rename_i h;rw[h];split
  .rename_i g;rw[zE ⟨rfl,g⟩];rfl
  .rename_i g;rw[zD (λi=>g i.2),Ec,wZ j_]
 .rename_i h;rw[zD (λi=>h i.1)];rfl
section
variable {n:Ai} (B:Oj n)
include B
end
def Bb5{a b:Int}(g:0<=a)(i:0<=b)(h:I4 a=I4 b):a=b:=by
 rw[I4,I4]at h;omega
def A3g{a:Int}(h:0<=a/\a<4294967296):I4 a<281474976710656:=by
 rw[I4];omega
def A0u{a:Int}(h:0<=a/\a<4294967296):J5 (I4 a)=false:=by
 rw[J5,I4];exact zJ j_
section
variable {n:Ai} {p:Int} {l:List Kg} {st:Nat->Int×Int} {r:Nat}
variable (W:WayS n p l st r) (B:Oj n) (hp:0<=p/\p.toNat<n.g.length)
include W B hp
end
structure Bdv(f:Bg):Prop where
 ok:Cf f
 au:f.au≠33024
 src:J5 f.src=false
def RouteF(f:Bg):Prop:=∃p:Dv,Cn f.body=(p,0)/\p.dst<4294967296/\f.dst=I4 p.dst
def U5(n:Ai)(p X:Int)(f:Bg):Prop:=Bdv f/\∃k,bE n p k (X,0)\/(bE n p k (X,1)/\RouteF f)
def Avn{n:Ai}{p X:Int}{f:Bg}(h:U5 n p X f){g:Kg}(j:g∈J0 n X):U5 n p g.l f:=by
 obtain ⟨o,k,i⟩:=h;refine⟨o,k+1,?_⟩;rcases i with i|⟨i,J⟩
 .exact .inl (.step i (.inl ⟨g,j,q_⟩))
 .exact .inr ⟨.step i (.inl ⟨g,j,q_⟩),J⟩
def Axr{P:D4}{i:Bool}{j:Int}(h:(Kx P i j).2=true):(Kx P i j).1∈P.native::P.u/\(Kx P i j).1≠0:=by
 rw[Kx]at h|-;split at h
 .rename_i g;rw[zE g];exact⟨List.mem_cons_self,zO h⟩
 .rename_i g;rw[zD g];split at h
  .rename_i hi;rw[zE hi];exact⟨List.mem_cons_of_mem _ (Ahk.1 hi),λo=>g (.inr o)⟩
  .cases h
def Ake{n:Ai}{p:Int}{f:Bg}{g:Bool}{i:Int}(J:Cf f)(P:f.au≠33024)(h:(Ld n p f g i).2.2=0):Bdv (Ld n p f g i).2.1/\Start n p ((Ld n p f g i).1,0):=by
 rw[Ld]at h|-;split at h
 .cases h
 rename_i o;rw[zD o];split at h
 .cases h
 rename_i j;rw[zD j];have j:(Kx (Af n.g p) g i).2=true:=kS j;obtain ⟨v1,R⟩:=Axr j;exact⟨⟨J,P,kS o⟩,_,v1,R,q_⟩
def Ax2{f:Bg}(g:Cf f)(h:(H1 f).2.2.2=0):Cf (H1 f).1/\(H1 f).1.au≠33024:=by
 rw[H1]at h|-;split at h
 .cases h
 rename_i j;rw[zD j];split at h
 .cases h
 rename_i o;rw[zD o];split at h
 .cases h
 rename_i i;rw[zD i];have P:=g.body;have R:=W5 2 ((f.body.drop 2).take 2) (by rw[zY,yP];omega);exact⟨⟨g.dst,g.src,by dsimp only;omega,by dsimp only;rw[yP];omega⟩,λJ=>i (.inr J)⟩
def A7o{n:Ai}{p:Int}{b:List UInt8}(h:(Ev n p b).2.2=0):Bdv (Ev n p b).2.1/\Start n p ((Ev n p b).1,0):=by
 rw[Ev]at h|-;split at h
 .cases h
 rename_i o;rw[zD o];split at h
 .rename_i g;exact zW h g
 rename_i g;rw[zD g];split at h
 .rename_i i;rw[zE i];split at h
  .rename_i j;exact zW h j
  rename_i j;rw[zD j];obtain ⟨J,P⟩:=Ax2 (bQ (Classical.byContradiction g)) (Classical.byContradiction j);exact Ake J P h
 .rename_i i;rw[zD i];exact Ake (bQ (Classical.byContradiction g)) i h
def Auz{n:Ai}(o:Ac n=true){d p:Int}(hd:InD n d){f:Bg}(g:Bdv f)(j:(Hi n p d f).2=0):p∈Ci n d/\((Ir n p (Hi n p d f).1).2.2.2=0->Ef n p (Af n.c d).z=((Ir n p (Hi n p d f).1).2.1,true)/\(Ir n p (Hi n p d f).1).2.2.1=f):=by
 rw[Hi]at j|-;split at j
 .cases j
 rename_i h1;rw[zD h1];split at j
 .cases j
 rename_i R;rw[zD R,zD g.au];rw[zD g.au]at j;simp only[vY,Decidable.not_not,Bool.not_eq_false]at h1 R;have hp:0<=p/\p.toNat<n.g.length:=by
  have:=h1.1;simp only[Am,zG,zK]at this;omega
 refine⟨(Aun o hd).2 ⟨hp,R.1,R.2⟩,?_⟩;by_cases ho:0<=Eg n p;rotate_left
 .rw[Ir,zE j_];intro i;cases i
 have a0:=Q7 ho;have hq:0<=Eg n p/\(Eg n p).toNat<n.g.length:=⟨ho,a0.2.2⟩
 have bd:Am (Eg n p) n.g.length=true:=by rw[Am,zL ho,zL j_];rfl
 have jc:=(K1 o hd.2).2.1;rw[<-Aj hd.2]at jc;have J:Xp n p (Af n.c d).z≠0->Ef n p (Af n.c d).z=(D2 n (Af n.g (Eg n p)).q (Xp n p (Af n.c d).z),true):=λh=>by
  rw[Ef,show Mv n p (Af n.c d).z=(Eg n p,Xp n p (Af n.c d).z,true) from zE ⟨ho,R.2,h⟩,zE rfl]
 rw[Xp]at J;rw[Ir,zD j_];by_cases c:(Af n.c d).z=(Af n.g p).native
 .rw[zE c]at J|-;by_cases hn:(Af n.g (Eg n p)).native=0
  .rw[Ev,zD (by rw[bd,o];decide),Yf g.ok];dsimp only;rw[zD qx,zD g.au,Ld,g.src,zD qx];have hv:Kx (Af n.g (Eg n p)) false 0=((Af n.g (Eg n p)).native,false):=by rw[Kx,zE (.inl rfl),zJ (λi=>i hn)]
   rw[hv,zE rfl];intro i;cases i
  .rw[Av4 o hq g.ok g.au g.src hn];exact λ_=>⟨J hn,q_⟩
 .rw[zD c]at J j|-;split at j
  .rename_i P;exact zW j P
  rename_i P;rw[zD P];have hb:f.body.length<=1500:=by
   rw[Om,zD g.au]at P;split at P
   .exact zW (show (14:Int)≠0 by decide) P
   .omega
  cases hi:Li (Af n.g (Eg n p)).u (Af n.c d).z with
  |false=>
   obtain ⟨s1,s2,s3⟩:=Am0 (v:=(Af n.c d).z) g.ok g.au hb ⟨by omega,jc.2⟩;rw[Ev,zD (by rw[bd,o];decide),Yf s1];dsimp only;rw[zD qx,zE s2,s3];dsimp only;rw[zD qx,Ld,g.src,zD qx];have hv:Kx (Af n.g (Eg n p)) true (Af n.c d).z=(0,false):=by rw[Kx,zD (by rintro (i|i);cases i;omega),hi];rfl
   rw[hv,zE rfl];intro i;cases i
  |true=>
   rw[hi,zE rfl]at J;rw[Are o hq g.ok g.au hb g.src jc hi];exact λ_=>⟨J j_,q_⟩
def A6y{n:Ai}(j:Ac n=true){p d i:Int}(g:InD n d){f:Bg}(o:U5 n p d f)(J:(Hi n i d f).2=0)(P:(Ir n i (Hi n i d f).1).2.2.2=0):U5 n p (Ir n i (Hi n i d f).1).2.1 (Ir n i (Hi n i d f).1).2.2.1:=by
 obtain ⟨hm,h⟩:=Auz j g o.1 J;obtain ⟨R,h2⟩:=h P;rw[h2];have hg:(⟨1,i,(Ir n i (Hi n i d f).1).2.1,0⟩:Kg)∈J0 n d:=by
  rw[J0,zE ⟨⟨g.1,by have:=g.2;omega⟩,j⟩,Ajz];refine List.mem_append_left _ (vM.2 ⟨i,hm,?_⟩);rw[Md,R,zE rfl]
 exact Avn o hg
def Bbb{n:Ai}(B:Oj n){d k:Int}(j:InD n d){f:Bg}(g:Bdv f)(h:(Mc n d k f).2=0):k∈(Af n.c d).ae/\Jh n (Mc n d k f).1=(d,k,f,0):=by
 have J:=h;rw[Mc]at h;split at h
 .cases h
 split at h
 .cases h
 rename_i o;have i:k∈(Af n.c d).ae:=Ahk.1 (kS o);rw[Wy]at h;split at h
 .cases h
 split at h
 .cases h
 split at h
 .cases h
 rename_i P;exact⟨i,(A6l B j i g.ok g.au j_ g.src).2⟩
def A6m{n:Ai}(B:Oj n){p d k:Int}(g:InD n d){f:Bg}(i:U5 n p d f)(h:(Mc n d k f).2=0):U5 n p (Jh n (Mc n d k f).1).2.1 (Jh n (Mc n d k f).1).2.2.1:=by
 obtain ⟨j,o⟩:=Bbb B g i.1 h;rw[o];have J:(⟨2,0,k,0⟩:Kg)∈J0 n d:=by
  rw[J0,zE ⟨⟨g.1,by have:=g.2;omega⟩,B.right⟩,Ajz];exact List.mem_append_right _ (yT.2 ⟨k,j,q_⟩)
 exact Avn i J
def A9y{n:Ai}(B:Oj n)(hu:Eb n)(cx:Aa5 n){d:Int}(hd:InD n d){irb:Int}(he:(Af n.c d).ar=irb)(hi:Kw n irb){dst:Int}(hx:0<=dst/\dst<4294967296)(h:(Cu n irb dst).2=true):∃q∈Hw n d,q.l=(Af n.r (Cu n irb dst).1).l:=by
 have J:=B.right;have j:=Au6 J hu cx hx h;obtain ⟨i,h2,_⟩:=Sa.1 (Td h).1;have o:Wf n irb (Cu n irb dst).1 dst=true:=Z5.2 ⟨h,rfl,j⟩;generalize (Cu n irb dst).1=g at *;have nh:Af n.r g=n.r[g.toNat]'i.2:=Aj i.2;have P:=(dM _ _ _ (E1 J i.2).2.2 (hu _ (zI i.2)) hx).1 (by rw[<-nh];exact h2);rw[<-nh]at P;have ze:=Aw8 hu J (irb:=irb) i _ (show I0 (Af n.r g).addr (Af n.r g).bits∈Akv n g by rw[Akv,Bc4];simp) (wB _) (λa i h2=>by omega);have ha:(Za n irb g).2=true:=by
  rw[Za,zE ⟨⟨hi.1,by have:=hi.2;omega⟩,⟨i.1,by have:=i.2;omega⟩,J⟩];rcases ze with R|R
  .exact R.1
  .have:=R.2 dst P.1 P.2;rw[o]at this;cases this
 refine⟨⟨g,(Af n.r g).l,(Za n irb g).1⟩,?_,q_⟩;rw[Hw,he,zE ⟨⟨hd.1,by have:=hd.2;omega⟩,hi.1,J⟩,Z4];have e:((g.toNat:Nat):Int)=g:=yQ i.1;refine vM.2 ⟨g.toNat,xD.2 i.2,?_⟩;rw[Af4,e,zE ha]
def Bb7{n:Ai}(B:Oj n)(hu:Eb n)(cx:Aa5 n){p d:Int}(hd:InD n d){f:Bg}(hc:U5 n p d f)(P:(Ie n d f.dst).2=true)(h:(Ww n (Ie n d f.dst).1 f).2.2=0):U5 n p (Ww n (Ie n d f.dst).1 f).1 (Ww n (Ie n d f.dst).1 f).2.1:=by
 have hr:=B.right;have p8:(Ie n d f.dst).1=(Af n.c d).ar/\0<=(Af n.c d).ar/\I4 (Af n.r (Af n.c d).ar).addr=f.dst:=by
  rw[Ie]at P|-;split at P
  .cases P
  rename_i h1;rw[zD h1];split at P
  .cases P
  rename_i i;rw[zD i];simp only[vY,Decidable.not_not]at i;exact⟨q_,by omega,i.2⟩
 obtain ⟨e,h0,hm⟩:=p8;rw[e]at h |-;have hi:Kw n (Af n.c d).ar:=⟨h0,by
  have i:=(K1 hr hd.2).2.2;rw[<- Aj hd.2]at i;omega⟩
 have vc:=hu _ (Uq hi.2);rw[Ww]at h|-;split at h
 .cases h
 rename_i h1;rw[zD h1];split at h
 .cases h
 rename_i i;rw[zD i];split at h
 .rename_i j;exact zW h j
 rename_i j;rw[zD j];split at h
 .cases h
 rename_i h4;rw[zD h4];split at h
 .cases h
 rename_i o;rw[zD o];split at h
 .cases h
 rename_i h6;rw[zD h6];have j:(Cn f.body).2=0:=Classical.byContradiction j;have o:(Cu n (Af n.c d).ar (Cn f.body).1.dst).2=true:=kS o;obtain ⟨hp,bd⟩:=Aah j;have o7:=hp.dst;have R:0<=(((Cn f.body).1.dst:Nat):Int)/\(((Cn f.body).1.dst:Nat):Int)<4294967296:=⟨uB _,by omega⟩
 have gh:=(Sa.1 (Td o).1).1;obtain ⟨q,hq,uy⟩:=A9y B hu cx hd rfl hi R o;have sk:=hu _ (Uq gh.2);obtain ⟨_,k,g⟩:=hc;have g:bE n p k (d,0)\/(bE n p k (d,1)/\f.dst=I4 (Cn f.body).1.dst):=by
  rcases g with g|⟨g,a0,g1,_,g3⟩
  .exact .inl g
  .exact .inr ⟨g,by rw[g1];exact g3⟩
 generalize Cn f.body=J at *;obtain ⟨J,pe⟩:=J;dsimp only at *;refine⟨⟨⟨A3g R,A3g sk,by dsimp only;decide,?_⟩,by dsimp only;decide,A0u sk⟩,?_⟩
 .dsimp only;rw[Qo];show 20+J.body.length<=1504;omega
 rw[<-uy];refine⟨k+1,.inr ⟨?_,Avq J,A3d (A3h hp) (by show J.body.length<=1480;omega),o7,q_⟩⟩;rcases g with g|⟨g,g3⟩
 .exact .step g (.inr ⟨q_,q,hq,q_⟩)
 .exfalso;rw[g3]at hm;have ea:=Bb5 vc.1 R.1 hm;have ht:=Au6 hr hu cx R o;have:L3 n ((J.dst:Nat):Int)=true:=Zi.2 ⟨_,hi.2,by rw[<-Aj hi.2];exact ea⟩;rw[this]at ht;cases ht
structure Ik(n:Ai)(bp:Int->Int)(m:B4):Prop where
 len:m.ai.length=n.c.length
 all:∀X,InD n X->∀q∈Ec m X,U5 n (bp q.ad) X q.frame
def Bdo(n:Ai)(bp:Int->Int)(s:Kt):Prop:=∃k y,bE n (bp s.ad) k y/\s.ac∈Ci n y.1
structure Bgj(n:Ai)(p:Int)(o:My):Prop where
 seen:o.kind=1->∃k y,bE n p k y/\o.ac∈Ci n y.1
 ah:o.kind=2->(Ir n o.ac o.bytes).2.2.2=0->U5 n p (Ir n o.ac o.bytes).2.1 (Ir n o.ac o.bytes).2.2.1
 cz:o.kind=3->(Jh n o.bytes).2.2.2=0->U5 n p (Jh n o.bytes).2.1 (Jh n o.bytes).2.2.1
 cw:o.kind=4->InD n o.l/\U5 n p o.l o.frame
def Ban{n:Ai}{p:Int}{o:My}(h:o.kind=5):Bgj n p o:=⟨λe=>by omega,λe=>by omega,λe=>by omega,λe=>by omega⟩
section
variable {n:Ai} {bp:Int->Int}
theorem Ik.same{m g:B4}(h:Ik n bp m)(e:g.ai=m.ai):Ik n bp g:=⟨by rw[e];exact h.len,λX j q i=>h.all X j q (by rw[Ec,e]at i;exact i)⟩
theorem Ik.setQ{m:B4}(h:Ik n bp m){d:Int}{l:List B0}(j:InD n d->∀q∈l,U5 n (bp q.ad) d q.frame)(o:0<=d):Ik n bp (setQ m d l):=by
 refine⟨by show (m.ai.set _ _).length=_;rw[yO];exact h.len,λX i q g=>?_⟩;rw[Atn]at g;split at g
 .rename_i J;have e:d=X:=by have:=i.1;omega
  subst e;exact j i q g
 .exact h.all X i q g
theorem Ik.come{m:B4}(h:Ik n bp m){d:Int}{q:B0}{e:Int}(j:e=0->InD n d/\U5 n (bp q.ad) d q.frame):Ik n bp (Sz m d q e):=by
 rw[Sz];split
 .exact h.same q_
 rename_i o;obtain ⟨i,J⟩:=j (Classical.byContradiction o);split
 .refine h.setQ (λ_ x g=>?_) i.1;rw[cN]at g;split at g
  .exact h.all d i x g
  .rcases yJ.1 g with g|g
   .exact h.all d i x g
   .rw[zX.1 g];exact J
 .exact h.same q_
theorem Ik.goes{m:B4}(h:Ik n bp m){o:My}{g:Int}(J:Bgj n (bp g) o):Ik n bp (Ii n m o g).1/\∀s∈(Ii n m o g).2,Bdo n bp s:=by
 rw[Ii];split
 .rename_i j;refine⟨h,λs i=>?_⟩;rw[zX.1 i];exact J.seen j
 split
 .rename_i j;exact⟨h.come λe=>⟨Ano e,J.ah j e⟩,λs i=>(by cases i)⟩
 split
 .rename_i j;exact⟨h.come λe=>⟨(Ae5 e).2,J.cz j e⟩,λs i=>(by cases i)⟩
 split
 .rename_i j;exact⟨h.come (d:=o.l) (q:=⟨-2,0,g,o.frame⟩) (e:=0) λ_=>J.cw j,λs i=>(by cases i)⟩
 .exact⟨h.same rfl,λs i=>(by cases i)⟩
theorem Ik.goesL{g:Int}:∀(l:List My) {m:B4},Ik n bp m->(∀o∈l,Bgj n (bp g) o)->Ik n bp (goesL n m g l).1/\∀s∈(Go.Sy.Zaa.goesL n m g l).2,Bdo n bp s
 |[],m,h,_=>⟨h,λs i=>(by cases i)⟩
 |o::l,m,h,j=>by
  obtain ⟨J,P⟩:=h.goes (j o qx);obtain ⟨R,h4⟩:=Ik.goesL l J λo h=>j o (by simp[h])
  rw[Go.Sy.Zaa.goesL];refine⟨R,λs i=>?_⟩;rcases yJ.1 i with i|i
  .exact P s i
  .exact h4 s i
theorem Ik.take{m:B4}(h:Ik n bp m)(d a:Int):Ik n bp (C5 m d a).1/\((C5 m d a).2.2=true->InD n d/\U5 n (bp (C5 m d a).2.1.ad) d (C5 m d a).2.1.frame):=by
 rw[C5];split
 .exact⟨h,λe=>(by cases e)⟩
 rename_i hp;have g:InD n d:=by
  have hp:Am d m.ai.length=true:=kS hp;rw[h.len]at hp;exact Tb hp
 rw[Tz];split
 .exact⟨h.setQ (λg q i=>h.all d g q i) g.1,λe=>(by cases e)⟩
 .rename_i j;refine⟨h.setQ (λg q i=>h.all d g q (uQ i)) g.1,λ_=>⟨g,?_⟩⟩;exact h.all d g _ (Y1 j_)
end
section
variable {n:Ai} (B:Oj n) (hu:Eb n) (cx:Aa5 n)
include B hu cx
theorem Awr{p X:Int}{fw:List Bool}{t:List Bc}{q:B0}{now:Int}(R:InD n X)(J:U5 n p X q.frame):∀o∈(Hz n fw t X q now).2.1,Bgj n p o:=by
 intro o j;rw[Hz]at j;split at j
 .cases j
 split at j
 .rename_i jj;split at j
  .cases j
  rename_i g;have g:(Ww n (Ie n X q.frame.dst).1 q.frame).2.2=0:=Classical.byContradiction g;rw[zX.1 j];refine⟨λe=>(by cases e),λe=>(by cases e),λe=>(by cases e),λ_=>⟨?_,Bb7 B hu cx R J jj g⟩⟩;exact Avp (λd hd=>(Sa.1 (Td hd).1).1) g
 .rcases yJ.1 j with h|h
  .obtain ⟨i,_,rfl⟩:=yT.1 h;rw[Ab7,Xh];split
   .exact Ban q_
   rename_i g;have g:(Hi n i X q.frame).2=0:=Classical.byContradiction g;refine⟨λ_=>?_,λ_ e=>A6y B.right R J g e,λe=>?_,λe=>?_⟩
   .have hm:=(Auz B.right R J.1 g).1;obtain ⟨_,k,P⟩:=J;rcases P with P|P
    .exact⟨k,_,P,hm⟩
    .exact⟨k,_,P.1,hm⟩
   .dsimp only at e;split at e<;>cases e
   .dsimp only at e;split at e<;>cases e
  .obtain ⟨i,_,rfl⟩:=yT.1 h;rw[Aeq,Xh];split
   .exact Ban q_
   rename_i g;have g:(Mc n X i q.frame).2=0:=Classical.byContradiction g;exact⟨λe=>(by cases e),λe=>(by cases e),λ_ _=>A6m B R J g,λe=>(by cases e)⟩
theorem Ik.pick{bp:Int->Int}{m:B4}(h:Ik n bp m)(d a:Int):Ik n bp (T5 n m d a).1/\∀s∈(T5 n m d a).2,Bdo n bp s:=by
 obtain ⟨g,i⟩:=h.take d a;rw[T5];split
 .exact⟨g,λs j=>(by cases j)⟩
 rename_i J;obtain ⟨P,R⟩:=i (kS J);refine Ik.goesL _ ?_ λo ho=>Awr B hu cx P R o ho
 rw[Xf];split
 .exact g.same q_
 split
 .exact g.same q_
 .exact g.same q_
theorem Ik.do{bp:Int->Int}{m:B4}(h:Ik n bp m)(x:B7)(j:Te n x=1->bp (m.af+1)=x.ac):Ik n bp (fS n m x).1/\∀s∈(fS n m x).2,Bdo n bp s:=by
 rw[fS];split
 .rename_i o;refine⟨?_,λs g=>(by cases g)⟩;rw[M4];split
  .exact h
  rename_i i;have hi:Te n x=1:=by
   rw[Te,zE];simp only[vY,Bool.not_eq_false]at i;exact⟨o,i.1,by omega⟩
  refine Ik.come (m:=⟨m.up,m.al,m.ai,m.ay,m.af+1,m.ap⟩) (d:=(Ev n x.ac x.bytes).1) (q:=⟨x.ac,0,m.af+1,(Ev n x.ac x.bytes).2.1⟩) (e:=(Ev n x.ac x.bytes).2.2) (h.same q_) λe=>⟨Aao e,?_⟩
  dsimp only;rw[j hi];obtain ⟨J,P⟩:=A7o e;exact⟨J,0,.inl (.start P)⟩
 split
 .exact h.pick B hu cx _ _
 split
 .exact⟨(h.take _ _).1,λs g=>(by cases g)⟩
 split
 .exact⟨h.same rfl,λs g=>(by cases g)⟩
 split
 .split
  .exact⟨h.same rfl,λs g=>(by cases g)⟩
  .exact⟨h,λs g=>(by cases g)⟩
 .exact⟨h,λs g=>(by cases g)⟩
theorem Ik.run{bp:Int->Int}:∀(l:List B7) {m:B4},Kv m->Ik n bp m->(∀(i:Nat) (h:i<(l.filter λx=>decide (Te n x=1)).length),bp (m.af+1+i)=((l.filter λx=>decide (Te n x=1))[i]).ac)->∀s∈(Ja n m l).2,Bdo n bp s
 |[],m,_,_,_,s,g=>by cases g
 |x::l,m,J,h,o,s,g=>by
  obtain ⟨P,R⟩:=A3r (n:=n) J x;have ff:Te n x=1->bp (m.af+1)=x.ac:=λhi=>by
   have j:(x::l).filter (λx=>decide (Te n x=1))=x::l.filter λx=>decide (Te n x=1):=tM (zL hi)
   have:=o 0 (by rw[j];simp);simp only[j]at this;simpa using this
  obtain ⟨h1,h2⟩:=h.do B hu cx x ff
  rw[Ja]at g;rcases yJ.1 g with g|g
  .exact h2 s g
  .refine Ik.run l P h1 (λi hi=>?_) s g;rw[R];by_cases c:Te n x=1
   .have j:(x::l).filter (λx=>decide (Te n x=1))=x::l.filter λx=>decide (Te n x=1):=tM (zL c)
    have:=o (i+1) (by rw[j,yI];omega);simp only[j,tW]at this;rw[<-this,c];congr 1;omega
   .have j:(x::l).filter (λx=>decide (Te n x=1))=l.filter λx=>decide (Te n x=1):=List.filter_cons_of_neg (kS c)
    have hz:Te n x=0:=by
     rw[Te]at c|-;split at c
     .exact zW q_ c
     .rename_i hh;rw[zD hh]
    have:=o i (by rw[j];exact hi);simp only[j]at this;rw[<-this,hz];congr 1;omega
end
def Baw(n:Ai)(bp:Int->Int):Ik n bp (Vg n):=by
 refine⟨by show (List.replicate n.c.length ([]:List B0)).length=_;simp,λX i q g=>?_⟩;have:Ec (Vg n) X=[]:=by
  show ((List.replicate n.c.length ([]:List B0))[X.toNat]?).getD []=[];rw[List.getElem?_replicate];split<;>rfl
 rw[this]at g;cases g
def Anl{n:Ai}{bp:Int->Int}{m:B4}(h:Ik n bp m)(g:List (List Bc)):∀j,Ik n bp (Ajg m g j)
 |0=>h
 |j+1=>by
  rw[Ajg,Ajf];have:=Anl h g j;split
  .exact this
  rw[Bbo]
  repeat' split
  all_goals (first|exact this.same rfl|exact this)
def Af2{n:Ai}{J:List Int}{f:Nat}{a:Int}:∀(l:List Int) (i:Nat),Z3 n J f a i l=none->∀(k:Nat) (h:k<l.length),¬(a<0\/l[k]<0\/a=l[k])->(Kh n f ((i+k:Nat):Int)).2=false
 |[],i,_,k,h=>by cases h
 |b::r,i,g,k,h=>by
  intro o;rw[Z3]at g;split at g
  .cases g
  rename_i P;cases k with
  |zero=>
   have j:¬(Kh n f ((i:Nat):Int)).2=true:=λj=>P ⟨o,j⟩
   simpa using j
  |succ k=>
   have:=Af2 r (i+1) g k (by rw[yI]at h;omega) o;rw[show i+1+k=i+(k+1) by omega]at this;exact this
def Af3{n:Ai}{g:List Int}:∀(l:List Int) (i:Nat),(Aaf n g i l).2.2=false->∀(f:Nat) (o:f<l.length) (t:Nat) (J:t<g.length),¬(l[f]<0\/g[t]<0\/l[f]=g[t])->(Kh n ((i+f:Nat):Int) (t:Nat)).2=false
 |[],i,_,f,o=>by cases o
 |a::r,i,j,f,o=>by
  intro t J R;rw[Aaf]at j;cases P:Z3 n g i a 0 g with
  |some to=>rw[P]at j;cases j
  |none=>
   rw[P]at j;cases f with
   |zero=>
    have:=Af2 g 0 P t J R;rw[xU]at this;exact this
   |succ f=>
    have:=Af3 r (i+1) j f (by rw[yI]at o;omega) t J R;rw[show i+1+f=i+(f+1) by omega]at this;exact this
def A0i{n:Ai}{of:List Int}(P:Jt n of=true)(h:(Kq n of).2.2=false){p q:Int}(hp:Am p of.length=true)(o:Am q of.length=true)(R:0<=Af of p)(h2:0<=Af of q)(i:Af of p≠Af of q):(Kh n p q).2=false:=by
 rw[Kq,zD (by rw[P];decide)]at h;simp only[Am,zG,zK]at hp o;have J:p.toNat<of.length:=by omega
 have g:q.toNat<of.length:=by omega
 have:=Af3 of 0 h p.toNat J q.toNat g (by
  rw[Aj J]at R i;rw[Aj g]at h2 i;rintro (j|j|j)
  .omega
  .omega
  .exact i j)
 rwa [xU,yQ hp.1,yQ o.1]at this
def Bbz{n:Ai}{of:List Int}(J:Jt n of=true)(x:B7):Ajs of x=decide (Te n x=1):=by
 have j:=Vp J;unfold Ajs Te;by_cases o:x.kind=1
 .cases hp:Am x.ac of.length
  .rw[j.1]at hp;simp[hp]
  .have g:=j.2.2 x.ac hp;rw[j.1]at hp;by_cases i:(Af n.g x.ac).ah<0
   .rw[zE i]at g;simp[o,hp,i,g.1]
   .rw[zD i]at g;simp[o,hp,i,g]
 .simp[o]
def Aoq{of g:List Int}:∀l:List Kt,(∀s∈l,Af of (Af g (s.ad-1))=Af of s.ac)->Ae4 of g l=(0,0,false)
 |[],_=>rfl
 |s::l,h=>by
  rw[Ae4,zD (λi=>i (h s qx))];exact Aoq l λx j=>h x (by simp[j])
def A5o{n:Ai}(B:Oj n)(hu:Eb n)(cx:Aa5 n){of:List Int}(J:Jt n of=true)(hl:(Kq n of).2.2=false)(g:List (List Bc))(l:List B7):Ae4 of (Jc of l) (Ja n (Acm n g) l).2=(0,0,false):=by
 have R:=Vp J;have lj:=Aje n g;have e:(l.filter λx=>decide (Te n x=1)).map (·.ac)=Jc of l:=by
  rw[Jc];congr 1;exact List.filter_congr λx _=>(Bbz J x).symm
 have j:=Ik.run (n:=n) B hu cx (bp:=λ o=>Af (Jc of l) (o-1)) l lj.1 (Anl (Baw n _) g g.length) (λ i hi=>by
  have jg:i<(Jc of l).length:=by rw[<-e,yS];exact hi
  rw[lj.2,show (0:Int)+1+(i:Int)-1=(i:Int) by omega,Aj (l:=Jc of l) (i:=(i:Int)) (kS jg)];simp only[<- e,tO,yA])
 refine Aoq _ λs hs=>Classical.byContradiction λag=>?_
 obtain ⟨k,y,hw,hm⟩:=j s hs;dsimp only at hw;have hr:=As5 J g l s hs;have gp:=Aeh (n:=n) l lj.1 s hs;have hi:(s.ad-1).toNat<(Jc of l).length:=by omega
 have uc:Af (Jc of l) (s.ad-1)∈Jc of l:=Uq hi;obtain ⟨eh,fy⟩:=A5v _ uc;generalize Af (Jc of l) (s.ad-1)=p at *;have wc:∀{i:Int},Am i of.length=true->(Af n.g i).ah<0->Qq n i=true:=λ{i} P h2=>by
  rw[R.1]at P;simp only[Am,zG,zK]at P;rw[Qq,zL P.1,zL P.2,zL h2];rfl
 have bd:(Af n.g p).ah<0:=Classical.byContradiction λhh=>by
  have:=R.2.2 p eh;rw[zD hh]at this;omega
 have so:=R.2.2 s.ac hr.1;rw[zE gp.2.1]at so;have uz:=A0i J hl eh hr.1 fy so.1 ag;exact(A36.2 uz).2 B.right (wc eh bd) (wc hr.1 gp.2.1) (λhh=>ag (by rw[hh])) k y hw (Ahk.2 hm)
def Age{n:Ai}{g:Int}:∀(l:List My) {m:B4},(∀o∈l,Ale n o)->∀s∈(goesL n m g l).2,s.bytes.length<=1518
 |[],_,_,s,i=>by cases i
 |o::l,m,j,s,i=>by
  rw[goesL]at i;rcases yJ.1 i with i|i
  .rw[Ii]at i;split at i
   .rw[zX.1 i];exact(j o qx).bytes
   .repeat' split at i
    all_goals cases i
  .exact Age l (λo h=>j o (by simp[h])) s i
def Bcv{n:Ai}(i:n.Fin)(j:n.Num){m:B4}{J D:Int}(h:D8 n m J D)(x:B7):∀s∈(fS n m x).2,s.bytes.length<=1518:=by
 intro s g;rw[fS]at g;split at g
 .cases g
 split at g
 .rw[T5]at g;split at g
  .cases g
  .exact Age _ (eL i j (Abg h _ _).2) s g
 .repeat' split at g
  all_goals cases g
def Am7{n:Ai}(i:n.Fin)(j:n.Num):∀(l:List B7) {m:B4} {J D:Int},D8 n m J D->0<=J->0<=D->∀s∈(Ja n m l).2,s.bytes.length<=1518
 |[],_,_,_,_,_,_,s,g=>by cases g
 |x::l,m,J,D,h,o,P,s,g=>by
  rw[Ja]at g;rcases yJ.1 g with g|g
  .exact Bcv i j h x s g
  .exact Am7 i j l (A1o i j h o P x) j_ j_ s g
structure Iso(n:Ai)(of:List Int):Prop where
 B:Oj n
 hu:Eb n
 bi:Aa5 n
 ow:Jt n of=true
 hl:(Kq n of).2.2=false
section
variable {n:Ai} {of:List Int} (I:Iso n of)
include I
end
section
variable {n:Ai} {of:List Int} {t:Int}
end
section
variable {n:Ai} {of:List Int} {t:Int}
end
section
variable {n:Ai} {of:List Int} (I:Iso n of)
include I
end
section
variable {n:Ai} {of:List Int} {t:Int}
end
section
variable {n:Ai} {of:List Int} (I:Iso n of)
include I
end
end Go.Sy.Zaa
