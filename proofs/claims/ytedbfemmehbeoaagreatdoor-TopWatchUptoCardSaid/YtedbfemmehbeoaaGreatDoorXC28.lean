/- Parts of a proof. -/
import Derived.Test.YtedbfemmehbeoaaGreatDoorXC26
set_option maxHeartbeats 4000000
set_option linter.all false
namespace Go.Sy.Zaa
open Go.Proofs Go.Proofs.Tryz
section
attribute [local irreducible]G DR
set_option maxRecDepth 100000
structure Uy(x:B7):Prop where
 az:L6 x.az
 bytes:x.bytes.length<=100000
 up:x.up.length<=100000
def Avc(a b:ByteArray):(Hs [a,b] ⟨#[32]⟩).size<=a.size+b.size+2:=by
 have:=Z7 [a,b] ⟨#[32]⟩;rw[A9o]at this;have e:(⟨#[32]⟩:ByteArray).size * [a,b].length=2:=rfl;omega
def T9(a b c:ByteArray):(Hs [a,b,c] ⟨#[32]⟩).size<=a.size+b.size+c.size+3:=by
 have:=Z7 [a,b,c] ⟨#[32]⟩;rw[Aef]at this;have e:(⟨#[32]⟩:ByteArray).size * [a,b,c].length=3:=rfl;omega
def Abo{n:Ai}(j:Ac n=true)(i:Qw n){x:B7}(g:Uy x):(Kl n x).1.size<=300000:=by
 have l:=fM x.bytes;have o:=Abb x.up;have p:=Qk g.az;have r:=Aoj i x.l;have t:=g.bytes;have I:=g.up;unfold Kl;split
 .split
  .rename_i hp;have J:=Oo j i (Vo hp);have:=T9 Hv (Cr n x.ac) (dJ x.bytes);have e:Hv.size=6:=rfl;dsimp only;omega
  .show 0<=_;omega
 split
 .have:=T9 Vu (Uf n x.l) (I7 x.az);have e:Vu.size=4:=rfl;dsimp only;omega
 split
 .have:=T9 W4 (Uf n x.l) (I7 x.az);have e:W4.size=4:=rfl;dsimp only;omega
 split
 .show 4<=_;omega
 split
 .have:=Avc Ui (Qz x.up);have e:Ui.size=5:=rfl;dsimp only;omega
 .show 0<=_;omega
def rowB(n:Ai)(x:B7):List UInt8:=(Kl n x).1.data.toList++[10]
def V5(n:Ai)(l:List B7):List UInt8:=l.flatMap (rowB n)
def At8(n:Ai)(x:B7):Bool:=(Kl n x).2
def cO(n:Ai)(l:List B7):List UInt8×Int :=
 if Ac n=false then ([],2) else if l.all (At8 n)=false then ([],2) else if 400<l.length\/20000<(V5 n l).length then ([],3) else (V5 n l,0)
def Atr(n:Ai)(l:List B7){j:Nat}(h:j<l.length):V5 n (l.take (j+1))=V5 n (l.take j)++(Kl n l[j]).1.data.toList++[10]:=by
 rw[V5,V5,zZ h,List.flatMap_append,yW,xZ,List.flatMap_nil,yV];rfl
def Atc{n:Ai}(g:Ac n=true)(i:Qw n){x:B7}(j:Uy x):(rowB n x).length<=300001:=by
 rw[rowB,zR];exact Nat.succ_le_succ (Abo g i j)
def Aq8{a:Type}{f:a->List UInt8}{k:Nat}:∀l:List a,(∀x∈l,(f x).length<=k)->(l.flatMap f).length<=k*l.length
 |[],_=>by simp
 |x::l,h=>by
  have i:=h x qx;have j:=Aq8 l λy g=>h y (by simp[g])
  rw[xZ,zR,yI,Nat.mul_add];omega
def A5u{n:Ai}(g:Ac n=true)(i:Qw n)(l:List B7)(j:∀x∈l,Uy x):(V5 n l).length<=300001*l.length :=
 Aq8 l λx o=>Atc g i (j x o)
def Bde{k:Type}{p:k->Bool}{l:List k}{j:Nat}(g:Ic (λ_ x=>p x) l j)(r:l.length<=j):l.all p=true:=by
 rw[yX];intro x o;obtain ⟨i,hi,rfl⟩:=yY.1 o;exact g i hi j_
def all_at{k:Type}{p:k->Bool}{l:List k}{j:Nat}(i:j<l.length)(h:p l[j]=false):l.all p=false:=by
 cases g:l.all p
 .rfl
 .rw[yX]at g;rw[g _ (zI i)]at h;cases h
def Al2(n:Ai)(hn:n.Fin)(cm:Qw n)(l:List B7)(hl:l.length<=1000)(hs:∀x∈l,Uy x):Sq 35 [Aq n,.sl 6 Dm l] [Bj 900] (.tup [.sl 1 Ae (cO n l).1,Aa (cO n l).2]) [Bj 900]:=cT F35 ntmps35 λF hF=>by
 have g:=cO.eq_1 n l;generalize cO n l=a0 at *;have hr:=A7 n hn;refine gQ hr F49 ?_;cases r:Ac n
 .rw[zE r]at g;subst g;refine fU ?_;refine Ar 4 1 Ae q_ (fU ?_);exact done q_ (.cons .tmp As) [] [Bj 900] (λ_ h=>h) q_ q_ kU
 rw[zD (by simp[r])]at g;refine fU ?_;refine Bi 2 8 (Aq n) q_ q_ q_ (Ct 6 1000 1 Ae q_ q_ ?_);refine Bb l.length (λj=>Ic (λ_ x=>At8 n x) l j) (λj=>[(1,.sl 6 Dm l),(2,.ref 8 (Aq n) 0),(6,.osl 1000),(14,.sl 6 Dm l),(15,Aa l.length),(16,Aa j)]) (λj=>[(1000,.row 1 Ae (V5 n (l.take j))),Bj 900]) [] (Bn _ _)
  kU ?_
 intro j hj hI;refine gH ?_ ?_<;>intro h
 .have I:j<l.length:=by simpa using h
  have ai:(j:Int).toNat<l.length:=kS I;have o:=Atr n l I;have bd:=A5u r cm (l.take j) (λx R=>hs x (wK R));have nz:(l.take j).length<=1000:=by rw[zY];omega
  have J:=λh=>@all_at _ (At8 n) l j I h
  have P:=hs _ (zI I);have i:=λh=>Bk (p:=λ_ x=>At8 n x) hI I h
  obtain ⟨x,R⟩:=kE (l[(j:Int).toNat]'ai);have pc:l[j]=x:=R;rw[pc]at o J P i;have q:=A9p n hn r cm x P.az (by have:=P.bytes;omega) (by have:=P.up;omega);have az:=Abo r cm P;obtain ⟨u,hu⟩:=kE (V5 n (l.take j));rw[hu]at o bd|-;simp only[At8]at J i;obtain ⟨xs,kx⟩:=kE (V5 n (l.take (j+1)));rw[kx]at o;obtain ⟨⟨t,ok⟩,gh⟩:∃p,Kl n x=p:=⟨_,rfl⟩
  rw[gh]at q J i o az;dsimp only at q J i o az;refine fU ?_;refine⟨q_,by omega,ai,?_⟩;rw[R];refine fW ?_;refine Al (Ad [(900,900)] q_ F71 q q_ ⟨q_,z_⟩ q_ ⟨.inl q_,z_⟩) q_ q_ ?_;cases ok
  .rw[zE (J rfl)]at g;subst g;refine fU ?_;refine Ar 4 1 Ae q_ (fU ?_);exact done q_ (.cons .tmp As) [] [Bj 900] (λ_ h=>h) q_ q_ kU
  have i:=i rfl;have e1:t.data.toList.length=t.size:=rfl;refine fU ?_;refine Al (Ac2 Γ.toTy 31 q_ q_ q_ q_ q_ q_ q_ (.row q_) q_ qx j_ j_) q_ q_ (fU ?_);refine Al (Ah Γ.toTy 33 q_ q_ q_ q_ q_ (.row q_) (.lit (e:=Ae) (l:=[10]) q_ q_) qx kO kO) q_ q_ (gE ?_);refine A6 [(1000,33)] hI j_ i ⟨kA,⟨.inl (zH (Ob.row 1 Ae) (kx.trans o)),q_,.inl q_,q_,z_⟩,q_,q_⟩
 .have bu:j=l.length:=qB h;subst bu;rw[zD (by rw[Bde hI (yG _)];simp)]at g;rw[yM];generalize V5 n l=out at *;refine fU ?_;constructor<;>intro h2
  .rw[zE (.inl (by have:=zO h2;omega))]at g;subst g;refine fU ?_;refine Ar 4 1 Ae q_ (fU ?_);exact done q_ (.cons .tmp As) [] [Bj 900] (λ_ h=>h) q_ q_ kU
  have h2:=zQ h2;refine fU ?_;constructor<;>intro h3
  .rw[zE (.inr (by have:=zO h3;omega))]at g;subst g;refine fU ?_;refine Ar 4 1 Ae q_ (fU ?_);exact done q_ (.cons .tmp As) [] [Bj 900] (λ_ h=>h) q_ q_ kU
  .rw[zD (by have:=zQ h3;omega)]at g;subst g;refine Ao 1000 q_ (fU ?_);exact done q_ (.cons .tmp As) [] [Bj 900] (λ_ h=>h) q_ q_ kU
structure Axc(x:Kt):Prop where
 ad:L6 x.ad
 bytes:x.bytes.length<=100000
def W8(n:Ai)(x:Kt):ByteArray:=Hs [Cr n x.ac,I7 x.ad,dJ x.bytes] ⟨#[32]⟩
def As3(n:Ai)(x:Kt):List UInt8:=if Am x.ac n.g.length=true then (W8 n x).data.toList++[10] else []
def W6(n:Ai)(l:List Kt):List UInt8:=l.flatMap (As3 n)
def Yh(n:Ai)(l:List Kt):List UInt8:=if Ac n=false then [] else W6 n l
def Apy{n:Ai}(i:Ac n=true)(j:Qw n){x:Kt}(g:Axc x)(hp:Am x.ac n.g.length=true):(W8 n x).size<=300000:=by
 have l:=fM x.bytes;have o:=Qk g.ad;have p:=g.bytes;have r:=Oo i j (Vo hp);have:=T9 (Cr n x.ac) (I7 x.ad) (dJ x.bytes);rw[W8];omega
def As2{n:Ai}(g:Ac n=true)(i:Qw n)(l:List Kt)(j:∀x∈l,Axc x):(W6 n l).length<=300001*l.length :=
 Aq8 l λx o=>by
  rw[As3];split
  .rename_i hp;have:=Apy g i (j x o) hp;rw[zR];exact Nat.succ_le_succ this
  .exact xV _
def Ayy(n:Ai)(l:List Kt){j:Nat}(h:j<l.length):W6 n (l.take (j+1))=W6 n (l.take j)++As3 n l[j]:=by
 rw[W6,W6,zZ h,List.flatMap_append,xZ,List.flatMap_nil,yV]
def Aqo(n:Ai)(hn:n.Fin)(P:Qw n)(l:List Kt)(hl:l.length<=100000)(hs:∀x∈l,Axc x):Sp 33 [Aq n,.sl 3 Im l] (.sl 1 Ae (Yh n l)):=cT F33 ntmps33 λF hF=>by
 have I:=Yh.eq_1 n l;generalize Yh n l=a0 at *;have hr:=A7 n hn;refine gQ hr F49 ?_;cases o:Ac n
 .rw[zE o]at I;subst I;refine fU ?_;exact Ar 4 1 Ae q_ gC
 rw[zD (by simp[o])]at I;subst I;refine fU ?_;refine Bi 2 8 (Aq n) q_ q_ q_ ?_;refine Bi 5 8 (Aq n) q_ q_ q_ (Ct 6 1000 1 Ae q_ q_ ?_);refine Bl l.length (λj=>[(5,.ref 8 (Aq n) 0),(6,.osl 1000),(14,.sl 3 Im l),(15,Aa l.length),(16,Aa j)]) (λj=>[(1000,.row 1 Ae (W6 n (l.take j)))]) []
  kU ?_
 intro j hj;refine gH ?_ ?_<;>intro h
 .have p:j<l.length:=by simpa using h
  have ai:(j:Int).toNat<l.length:=kS p;have g:=Ayy n l p;have bd:=As2 o P (l.take j) (λx J=>hs x (wK J));have nz:(l.take j).length<=100000:=by rw[zY];omega
  have r:=hs _ (zI p);obtain ⟨x,J⟩:=kE (l[(j:Int).toNat]'ai);have pc:l[j]=x:=J;rw[pc]at g r;rw[As3]at g;obtain ⟨t,og,bs⟩:=x;have q1:=bW n t;have R:=λhi=>Aeg n o P t hi
  have z2:=λhi=>Oo o P (i:=t) hi
  have q3:=Akw bs (by have:=r.bytes;dsimp only at this;omega);have z3:=fM bs;have q4:=Yo og r.ad;have z4:=Qk r.ad;have h1:=r.bytes;dsimp only at z4 h1;obtain ⟨u,hu⟩:=kE (W6 n (l.take j));rw[hu]at g bd|-;obtain ⟨xs,kx⟩:=kE (W6 n (l.take (j+1)));rw[kx]at g;dsimp only at g;refine fU ?_;refine⟨q_,by omega,ai,?_⟩;rw[J];refine gQ q1 F67 ?_;cases hp:Am t n.g.length
  .rw[zD (by simp[hp])]at g;rw[yV]at g;refine gE ?_;exact A9 [] p ⟨kA,⟨.inl (zH (Ob.row 1 Ae) (kx.trans g)),q_,z_⟩,q_,q_⟩
  rw[zE hp,W8]at g;dsimp only at g;have hi:=Vo hp;have R:=R hi;have z2:=z2 hi;generalize Cr n t=tp at *;generalize dJ bs=tb at *;generalize I7 og=ta at *;have q6:=Vq [tp,ta,tb] qx (by rw[Aef];omega);have z6:=T9 tp ta tb;generalize Hs [tp,ta,tb] ⟨#[32]⟩=tj at *;have e1:tj.data.toList.length=tj.size:=rfl;rw[<-yW]at g;refine gK R F68 ?_;refine cD q4 F47 (gK q3 F69 ?_);refine eH [35] q6 F48 q_ (.cons (.lit q_ q_ q_) .nil) q_ y_ q_ ?_;refine fU ?_;refine C6 (Ac2 Γ.toTy 37 q_ q_ q_ q_ q_ q_ q_ (.row q_) q_ qx j_ j_) y_ q_ (fU ?_);refine C6 (Ah Γ.toTy 39 q_ q_ q_ q_ q_ (.row q_) (.lit (e:=Ae) (l:=[10]) q_ q_) qx kO kO) y_ q_ (fU ?_);refine⟨y_,?_⟩;refine gJ ?_;exact A9 [(1000,39)] p ⟨kA,⟨.inl (zH (Ob.row 1 Ae) (kx.trans g)),q_,z_⟩,q_,q_⟩
 .have bu:j=l.length:=qB h;subst bu;rw[yM];exact Ao 1000 q_ gC
abbrev A8p:ByteArray:=⟨#[45]⟩
abbrev Amq:ByteArray:=⟨#[105,115,111,108,97,116,101,100]⟩
abbrev A8q:ByteArray:=⟨#[108,101,97,107]⟩
abbrev Apf:ByteArray:=⟨#[114,101,106,101,99,116]⟩
def T4(n:Ai)(r:Vl):List ByteArray :=
 if r.kind=1 then [Amq] else if r.kind=2 then [A8q,Arf n r.ba,Arf n r.to] else if r.kind=3 then [Apf,oV r.cd,I7 r.row,I7 r.error] else [A8p]
def To(n:Ai)(r:Vl):List UInt8 :=
 (Hs (T4 n r) ⟨#[32]⟩).data.toList++[10]++(if r.kind=2 then (cO n r.bz).1 else [])
def Aog{n:Ai}(g:Qw n)(i:Int):(Arf n i).size<=700:=by
 unfold Arf;split
 .rename_i h;exact Oo h.2 g (Vo h.1)
 .show 1<=_;omega
def Atu(w:Int):(oV w).size<=6:=by
 unfold oV;split
 .show 6<=_;omega
 split
 .show 6<=_;omega
 .show 1<=_;omega
def A5t{n:Ai}(l:List B7):(cO n l).1.length<=20000:=by
 unfold cO;split
 .exact xV _
 split
 .exact xV _
 split
 .exact xV _
 .dsimp only;omega
def sizes4(a b c d:ByteArray):bV [a,b,c,d]=a.size+(b.size+(c.size+(d.size+0))):=rfl
def Ajb(n:Ai)(hn:n.Fin)(p:Qw n)(r:Vl)(hl:r.bz.length<=1000)(hs:∀x∈r.bz,Uy x)(dx:L6 r.row)(j:L6 r.error):Sq 24 [Aq n,cI r] [Bj 900] (.sl 1 Ae (To n r)) [Bj 900]:=cT F24 ntmps24 λF hF=>by
 have i:=To.eq_1 n r;have g:=T4.eq_1 n r;obtain ⟨o,t,row,er,I,J,P⟩:=r;dsimp only at hl hs dx j i g;generalize To n ⟨o,t,row,er,I,J,P⟩=a0 at *;generalize T4 n ⟨o,t,row,er,I,J,P⟩=R at *;have q1:=Af0 n hn p I;have q2:=Af0 n hn p J;have z1:=Aog p I;have z2:=Aog p J;have q3:=Al2 n hn p P hl hs;have z3:=A5t (n:=n) P;have q4:=Al3 t;have z4:=Atu t;have q5:=Yo row dx;have z5:=Qk dx;have q6:=Yo er j;have z6:=Qk j;generalize Arf n I=te at *;generalize Arf n J=tt at *;generalize oV t=tp at *;generalize I7 row=tr at *;generalize I7 er=tx at *;generalize cO n P=sp at *;obtain ⟨sp,a1⟩:=sp;dsimp only at q3 z3 i;have zz:bV R<=2000/\R.length<=4:=by
  rw[g];have c1:Amq.size=8:=rfl;have c2:A8q.size=4:=rfl;have c3:Apf.size=6:=rfl;have c4:A8p.size=1:=rfl;split
  .exact⟨by show 8+0<=_;omega,by decide⟩
  split
  .exact⟨by rw[Aef];omega,by simp⟩
  split
  .exact⟨by rw[sizes4];omega,by simp⟩
  .exact⟨by show 1+0<=_;omega,by decide⟩
 have qj:=Vq R j_ j_;have zj:=Z7 R ⟨#[32]⟩;have c1:(⟨#[32]⟩:ByteArray).size=1:=rfl;rw[c1,wC]at zj;generalize Hs R ⟨#[32]⟩=tj at *;have e1:tj.data.toList.length=tj.size:=rfl;refine gR ?_ ?_<;>intro h
 .obtain rfl:o=1:=by simpa using h
  rw[zE rfl]at g;rw[zD qq,yV]at i;refine fU ?_;refine Agj [12] qj F48 q_ (.cons (.lit q_ (by rw[g];rfl) q_) .nil) q_ q_ q_ ?_;refine fU ?_;refine Al (Me (d:=45) Γ.toTy q_ q_ q_ q_ q_ q_ q_ q_ q_) q_ q_ (fU ?_);refine Al (Ah Γ.toTy 47 q_ q_ q_ q_ q_ (.row q_) (.lit (e:=Ae) (l:=[10]) q_ q_) qx kO kO) q_ q_ (fU ?_);refine Al (Ah Γ.toTy 49 q_ q_ q_ q_ q_ (.row q_) (.nil (e:=Ae)) qx kO kO) q_ q_ ?_;rw[yV];refine Ao 49 q_ ?_;subst i;refine fU ?_;exact done q_ As [] [Bj 900] (λ_ h=>h) q_ q_ kU
 rw[zD (kS h)]at g;refine gH ?_ ?_<;>intro h
 .obtain rfl:o=2:=by simpa using h
  rw[zE rfl]at g i;refine gK q1 F45 ?_;refine cD q2 F45 (fU ?_);refine⟨y_,?_⟩;refine fW ?_;refine Al (Ad [(900,900)] q_ F35 q3 q_ ⟨q_,z_⟩ q_ ⟨.inl q_,z_⟩) q_ q_ (fU ?_);refine Agj [23] qj F48 q_ (.cons (.lit q_ (by rw[g];rfl) q_) .nil) q_ q_ q_ ?_;refine fU ?_;refine Al (Me (d:=45) Γ.toTy q_ q_ q_ q_ q_ q_ q_ q_ q_) q_ q_ (fU ?_);refine Al (Ah Γ.toTy 47 q_ q_ q_ q_ q_ (.row q_) (.lit (e:=Ae) (l:=[10]) q_ q_) qx kO kO) q_ q_ (fU ?_);refine Al (Ah Γ.toTy 49 q_ q_ q_ q_ q_ (.row q_) (.sl (e:=Ae)) qx kO kO) q_ q_ (Ao 49 q_ ?_);subst i;refine fU ?_;exact done q_ As [] [Bj 900] (λ_ h=>h) q_ q_ kU
 have h2:o≠2:=kS h;rw[zD h2]at g i;rw[yV]at i;refine gH ?_ ?_<;>intro h
 .obtain rfl:o=3:=by simpa using h
  rw[zE rfl]at g;refine gK q4 F46 ?_;refine cD q5 F47 (gK q6 F47 ?_);refine⟨y_,?_⟩;refine fW ?_;refine Agj [42] qj F48 q_ (.cons (.lit q_ (by rw[g];rfl) q_) .nil) q_ q_ q_ ?_;refine fU ?_;refine Al (Me (d:=45) Γ.toTy q_ q_ q_ q_ q_ q_ q_ q_ q_) q_ q_ (fU ?_);refine Al (Ah Γ.toTy 47 q_ q_ q_ q_ q_ (.row q_) (.lit (e:=Ae) (l:=[10]) q_ q_) qx kO kO) q_ q_ (fU ?_);refine Al (Ah Γ.toTy 49 q_ q_ q_ q_ q_ (.row q_) (.nil (e:=Ae)) qx kO kO) q_ q_ ?_;rw[yV];refine Ao 49 q_ ?_;subst i;refine fU ?_;exact done q_ As [] [Bj 900] (λ_ h=>h) q_ q_ kU
 rw[zD (kS h)]at g;refine fU ?_;refine Agj [7] qj F48 q_ (.cons (.lit q_ (by rw[g];rfl) q_) .nil) q_ q_ q_ ?_;refine fU ?_;refine Al (Me (d:=45) Γ.toTy q_ q_ q_ q_ q_ q_ q_ q_ q_) q_ q_ (fU ?_);refine Al (Ah Γ.toTy 47 q_ q_ q_ q_ q_ (.row q_) (.lit (e:=Ae) (l:=[10]) q_ q_) qx kO kO) q_ q_ (fU ?_);refine Al (Ah Γ.toTy 49 q_ q_ q_ q_ q_ (.row q_) (.nil (e:=Ae)) qx kO kO) q_ q_ ?_;rw[yV];refine Ao 49 q_ ?_;subst i;refine fU ?_;exact done q_ As [] [Bj 900] (λ_ h=>h) q_ q_ kU
def drop2{l:List UInt8}{i:Nat}(h:i+1<l.length):l.drop i=l[i]::l[i+1]::l.drop (i+2):=by
 rw[yK (by omega:i<l.length),yK h]
def Aqd{l:List UInt8}(h:l.length<=1):Ho l=some []:=by
 cases l with
 |nil=>rfl
 |cons a l=>cases l with
  |nil=>rfl
  |cons b l=>simp at h
def Ack(s:ByteArray)(hs:s.size<=1000000):Sp 127 [Ap s] (.tup [.sl 1 Ae (oU s).1,Ab (oU s).2]):=cT F127 ntmps127 λF hF=>by
 have az:s.data.toList.length=s.size:=rfl;have g:=oU.eq_1 s;generalize oU s=a0 at *;have I:=eq45 s;refine fW ?_;by_cases J:s.data.toList=[45]
 .rw[zE J]at g;rw[zL J]at I;subst g;refine⟨λ_=>?_,λh=>zW h (by rw[I];simp)⟩;refine fU ?_;exact Ar 2 1 Ae q_ gC
 rw[zD J]at g;rw[zJ J]at I;refine⟨λh=>zW h (by rw[I];simp),λ_=>?_⟩;refine fU ?_;refine Ct 4 1000 1 Ae q_ q_ ?_;refine Dc (λx:List UInt8×Nat=>Ho s.data.toList=(Ho (s.data.toList.drop x.2)).map (x.1++·)/\x.2<=s.size/\x.1.length<=x.2) (λx=>[(0,Ap s),(4,.osl 1000),(5,Aa x.2)]) (λx=>[(1000,.row 1 Ae x.1)]) (λx=>s.size-x.2) ([],0) [] ⟨by simp,by simp,by simp⟩
  kU ?_
 rintro ⟨out,i⟩ ⟨j,zh,p⟩;dsimp only at j zh p|-;refine gE ?_;constructor<;>intro h
 .have ab:i+1<s.data.toList.length:=qA h;have ff:Cb s (i:Int).toNat=s.data.toList[i]:=by rw[yA];exact aL j_
  have d6:Cb s (((i:Nat):Int)+1).toNat=s.data.toList[i+1]:=by rw[show (((i:Nat):Int)+1).toNat=i+1 by omega];exact aL ab
  rw[drop2 ab,Ho]at j;generalize s.data.toList[i]=a at *;generalize s.data.toList[i+1]=b at *;have qa:=lP Aqx a _ (An2 a);have qb:=lP Aqx b _ (An2 b);have la:=Xo a;have lb:=Xo b;have o:=@hexV_or a b;rw[<-ff]at qa;rw[<-d6]at qb;refine fU ?_;refine⟨by omega,by omega,?_⟩;refine fW ?_;refine cD qa F208 (gE ?_);refine⟨by omega,by omega,?_⟩;refine fW ?_;refine cD qb F208 (fU ?_);refine⟨y_,?_⟩;rw[ff,d6];refine fW ?_;by_cases ha:J1 a=16
  .rw[zD j_]at j;rw[j]at g;dsimp only[Option.map_none]at g;subst g;rw[zE ha];refine⟨λ_=>?_,λh=>zW (zQ h) j_⟩;refine fU ?_;exact Ar 2 1 Ae q_ gC
  rw[zD ha];refine⟨λh=>zW (zO h) j_,λ_=>?_⟩;by_cases t:J1 b=16
  .rw[zD j_]at j;rw[j]at g;dsimp only[Option.map_none]at g;subst g;rw[zE t];refine fU ?_;exact Ar 2 1 Ae q_ gC
  rw[zD t];rw[zE j_]at j;have o:=o j_ j_;refine fU ?_;refine⟨λh=>zW (zO h) j_,λ_=>?_⟩;refine fU ?_;refine⟨by decide,?_⟩;refine fW ?_;rw[o];refine Al (Ah Γ.toTy 39 q_ q_ q_ q_ q_ (.row q_) (.lit (e:=Ae) (l:=[Bfj a b]) q_ q_) qx kO kO) q_ q_ (gE ?_);refine A8 (out++[Bfj a b],i+2) [(1000,39)] ⟨?_,by dsimp only;omega,by simp;omega⟩ (by dsimp only;omega) kU;dsimp only;rw[j,Option.map_map];congr 1;funext r;simp
 .have wu:s.data.toList.length<=i+1:=qB h;rw[Aqd (l:=s.data.toList.drop i) (by rw[yP];omega)]at j;simp only[vO,yV]at j;rw[j]at g;dsimp only at g;have bx:(s.size:Int).tmod 2=((s.size%2:Nat):Int):=by rw[uE j_];omega
  refine Ao 1000 q_ (fU ?_);constructor<;>intro h2
  .have P:0<s.size:=by have:=zO h2;omega
   rw[zL P,yB]at g;refine fU ?_;refine⟨by decide,?_⟩;refine fW ?_;rw[bx];constructor<;>intro R
   .have h5:s.size%2=0:=by have:((s.size%2:Nat):Int)=0:=(kS R);omega
    rw[zL h5,yB]at g;subst g;refine fU ?_;refine Av q_ (.cons .tmp As) ?_ q_;refine zH (λb=>SV.tup [SV.sl 1 Ae out,Ab b]) ?_;exact decide_eq_decide.2 j_
   .have h5:¬s.size%2=0:=λe=>by rw[e]at R;simp at R
    rw[zJ h5,yE]at g;subst g;exact gC
  .have P:¬0<s.size:=by have:=zQ h2;omega
   rw[zJ P,yE,yE]at g;subst g;exact gC
def Adl(c:UInt8):Bool:=decide (c.toNat=48)||decide (c.toNat=49)
def lJ(c:UInt8):Bool:=decide (c.toNat=49)
def upL(w:ByteArray):List Bool:=if w.data.toList=[45] then [] else w.data.toList.map lJ
def Zr(k:Nat)(w:ByteArray):List Bool×Bool :=
 if w.data.toList=[45] then ([],decide (k=0)) else if w.data.toList.all Adl=false then ([],false) else (w.data.toList.map lJ,decide (0<w.size)&&decide (w.size=k))
def Azy(k:Nat)(w:ByteArray):Bool:=!(w == ⟨#[]⟩)&&(Qz (upL w)==w)&&decide ((upL w).length=k)
def Ahz:∀l:List UInt8,Q0 (l.map lJ)=l↔l.all Adl=true
 |[]=>by simp[Q0]
 |c::l=>by
  have h:=Ahz l;rw[Q0]at h|-;simp only[xR,List.all_cons,zG,List.cons.injEq,h];have e:((if lJ c=true then (49:UInt8) else 48)=c)↔Adl c=true:=by
   rw[lJ,Adl];by_cases j:c.toNat=49
   .have:c=49:=UInt8.toNat_inj.1 j;subst this;decide
   .rw[zJ j];simp only[Bool.or_false,zK];constructor
    .intro g;have i:(48:UInt8)=c:=kS g;rw[<-i];rfl
    .intro g;have i:c=48:=UInt8.toNat_inj.1 g;simp[i]
  rw[e]
def A5l(k:Nat)(w:ByteArray):(Zr k w).2=Azy k w/\(Azy k w=true->(Zr k w).1=upL w):=by
 unfold Zr Azy;by_cases i:w.data.toList=[45]
 .have j:w=⟨#[45]⟩:=Sm i;subst j;have o:upL ⟨#[45]⟩=[]:=rfl;rw[zE i,o];refine⟨?_,λ_=>rfl⟩;show decide (k=0)=(true&&true&&decide (0=k));rw[yB,yB];exact decide_eq_decide.2 j_
 have o:upL w=w.data.toList.map lJ:=by rw[upL,zD i]
 rw[zD i,o];have p:w.data.toList.length=w.size:=rfl;cases g:w.data.toList with
 |nil=>
  have j:w=⟨#[]⟩:=Sm g;subst j;exact⟨q_,λ_=>rfl⟩
 |cons c l=>
  have r:(w == ⟨#[]⟩)=false:=by
   cases h:(w==(⟨#[]⟩:ByteArray))
   .rfl
   .rw[(Aay _ _).1 h]at g;cases g
  have t:(Qz ((c::l).map lJ)==w)=(c::l).all Adl:=by
   rw[Qz,zD qx,xY,Aay,<-Ahz,<-g];constructor
   .intro h;have:=zH (λb:ByteArray=>b.data.toList) h;simpa [Jy] using this
   .intro h;rw[h,Jw]
  rw[r,t];cases I:(c::l).all Adl
  .refine⟨q_,λh=>by simp at h⟩
  .rw[zD qx];refine⟨?_,λ_=>rfl⟩;rw[g]at p;dsimp only;rw[<-p];simp
def Ag5(n:Ai)(hn:n.Fin)(s:ByteArray)(hs:s.size<=1000000):Sp 130 [Aq n,Ap s] (.tup [.sl 1 Ab (Zr n.x.length s).1,Ab (Zr n.x.length s).2]):=cT F130 ntmps130 λF hF=>by
 have az:s.data.toList.length=s.size:=rfl;have g:=Zr.eq_1 n.x.length s;generalize Zr n.x.length s=a0 at *;have o:=eq45 s;refine fW ?_;by_cases r:s.data.toList=[45]
 .rw[zE r]at g;rw[zL r]at o;subst g;refine⟨λ_=>?_,λh=>zW h (by rw[o];simp)⟩;refine fU ?_;refine⟨y_,?_⟩;refine fW ?_;refine Ar 4 1 Ab q_ ?_;refine Av q_ (.cons .tmp As) ?_ q_;refine zH (λb=>SV.tup [SV.sl 1 Ab [],Ab b]) ?_;rw[xY];simp<;>omega
 rw[zD r]at g;rw[zJ r]at o;refine⟨λh=>zW h (by rw[o];simp),λ_=>?_⟩;refine fU ?_;refine Bi 2 8 (Aq n) q_ q_ q_ (Ct 6 1000 1 Ab q_ q_ ?_);refine Bb s.size (λj=>Ic (λ_ c=>Adl c) s.data.toList j) (λj=>[(1,Ap s),(2,.ref 8 (Aq n) 0),(6,.osl 1000),(16,Aa s.size),(17,Aa j)]) (λj=>[(1000,.row 1 Ab ((s.data.toList.take j).map lJ))]) [] (Bn _ _)
  kU ?_
 intro j hj t;have jf:((s.data.toList.take j).map lJ).length=j:=by rw[yS,zY];omega
 refine gH ?_ ?_<;>intro h
 .have I:j<s.data.toList.length:=qA h;have J:Cb s (j:Int).toNat=s.data.toList[j]:=by rw[yA];exact aL I
  have bw:=λh=>@all_at' _ Adl s.data.toList j I h
  have du:=λh=>Bk (p:=λ_ c=>Adl c) t I h
  have P:(s.data.toList.take (j+1)).map lJ=(s.data.toList.take j).map lJ++[lJ s.data.toList[j]]:=by rw[zZ I,wP];rfl
  generalize s.data.toList[j]=c at *;generalize (s.data.toList.take j).map lJ=v at *;have hv:lJ c=((c.toNat:Int)==49):=by rw[lJ,xY];simp;omega
  rw[hv]at P;have kv:=c.toNat_lt;refine fU ?_;refine⟨by omega,by omega,?_⟩;rw[J];refine fW ?_;constructor<;>intro i
  .have R:c.toNat≠48:=λe=>by rw[e]at i;simp at i
   refine fU ?_;refine⟨by omega,by omega,?_⟩;rw[J];refine fW ?_;constructor<;>intro h4
   .have h5:c.toNat≠49:=λe=>by rw[e]at h4;simp at h4
    rw[zE (bw (by rw[Adl,zJ R,zJ h5];rfl))]at g;subst g;refine fU ?_;exact Ar 4 1 Ab q_ gC
   .have h5:c.toNat=49:=by
     have h6:((c.toNat:Int) != 49)=false:=h4;have h7:(c.toNat:Int)=49:=kS h6;omega
    have xl:Adl c=true:=by rw[Adl,zL h5,tY]
    refine fU ?_;refine⟨by omega,by omega,?_⟩;rw[J];refine fW ?_;refine Al (Ah Γ.toTy 36 q_ q_ q_ q_ q_ (.row q_) (.lit (e:=Ab) (l:=[(c.toNat:Int)==49]) q_ q_) qx kO kO) q_ q_ (gE ?_);exact A6 [(1000,36)] t j_ (du xl) ⟨kA,⟨.inl (zH (Ob.row 1 Ab) P),q_,z_⟩,q_,q_⟩
  .have R:c.toNat=48:=by have h7:(c.toNat:Int)=48:=(kS i);omega
   have xl:Adl c=true:=by rw[Adl,zL R,wT]
   refine fU ?_;refine⟨by omega,by omega,?_⟩;rw[J];refine fW ?_;refine Al (Ah Γ.toTy 36 q_ q_ q_ q_ q_ (.row q_) (.lit (e:=Ab) (l:=[(c.toNat:Int)==49]) q_ q_) qx kO kO) q_ q_ (gE ?_);exact A6 [(1000,36)] t j_ (du xl) ⟨kA,⟨.inl (zH (Ob.row 1 Ab) P),q_,z_⟩,q_,q_⟩
 .have bu:j=s.size:=qB h;subst bu;rw[zD (by rw[fZ t (yG _)];simp)]at g;have gm:s.data.toList.take s.size=s.data.toList:=yM;rw[gm]at jf|-;generalize s.data.toList.map lJ=out at *;refine Ao 1000 q_ (fU ?_);constructor<;>intro i
  .rw[zL (by have:=zO i;omega),yB]at g;subst g;refine fU ?_;refine⟨y_,?_⟩;refine fW ?_;refine Av q_ (.cons .tmp As) ?_ q_;refine zH (λb=>SV.tup [SV.sl 1 Ab out,Ab b]) ?_;rw[xY];simp;omega
  .rw[zJ (by have:=zQ i;omega),yE]at g;subst g;refine fU ?_;refine⟨y_,?_⟩;refine fW ?_;exact dN
def verbT:Nat->ByteArray
 |1=>Hv
 |2=>Vu
 |3=>W4
 |4=>Aba
 |5=>Ui
 |_=>⟨#[]⟩
def Qm(w:ByteArray):Int :=
 if (Hv==w)=true then 1 else if (Vu==w)=true then 2 else if (W4==w)=true then 3 else if (Aba==w)=true then 4 else if (Ui==w)=true then 5 else 0
def kindS(w:ByteArray):Sq 124 [Ap w] [Bj 900] (Aa (Qm w)) [Bj 900]:=cT F124 ntmps124 λF J=>by
 have l:=Qm.eq_1 w;generalize Qm w=t at *;refine fW ?_;refine Al (Aj2 Γ.toTy 900 q_ q_ q_ q_ q_) q_ q_ (fU ?_);refine Bb 6 (λj=>∀i,1<=i->i<j->(verbT i==w)=false) (λj=>[(0,Ap w),(5,.agg A8y),(6,Aa j)]) (λ_=>[Bj 900]) [] (λi p r=>by omega)
  kU ?_
 intro j P g;have I:j=0\/j=1\/j=2\/j=3\/j=4\/j=5\/j=6:=by omega
 rcases I with rfl|rfl|rfl|rfl|rfl|rfl|rfl
 .refine fU ?_;refine Al (B5 (k:=.string) Γ.toTy q_ q_ q_ Tryz.underlying9 q_ q_ qq qq q_) q_ q_ (fU ?_)
  (repeat (first|(refine⟨λh=>False.elim (by first|(exact zW h qq)|(simp at h;done)|(simp at h;omega)),λ_=>?_⟩;(refine fU ?_))|(refine⟨λ_=>?_,λh=>False.elim (by first|(exact zW h qq)|(simp at h;done)|(simp at h;omega))⟩;(refine fU ?_))))
  refine iL ?_;refine fW ?_;exact A6 [] g j_ (λi p r=>by omega) kU
 .refine fU ?_;refine Al (B5 (k:=.string) Γ.toTy q_ q_ q_ Tryz.underlying9 q_ q_ qq qq q_) q_ q_ (fU ?_)
  (repeat (first|(refine⟨λh=>False.elim (by first|(exact zW h qq)|(simp at h;done)|(simp at h;omega)),λ_=>?_⟩;(refine fU ?_))|(refine⟨λ_=>?_,λh=>False.elim (by first|(exact zW h qq)|(simp at h;done)|(simp at h;omega))⟩;(refine fU ?_))))
  cases o:(Hv==w)
  .refine⟨λh=>zW h qx,λ_=>?_⟩;refine gE ?_;refine A6 [] g j_ (λi p r=>?_) kU;by_cases hi:i=1
   .subst hi;exact o
   .exact g i p j_
  .refine⟨λ_=>?_,λh=>zW h qx⟩;rw[zE o]at l;subst l;refine fU ?_;exact done q_ As [] [Bj 900] (λ_ h=>h) q_ q_ kU
 .refine fU ?_;refine Al (B5 (k:=.string) Γ.toTy q_ q_ q_ Tryz.underlying9 q_ q_ qq qq q_) q_ q_ (fU ?_)
  (repeat (first|(refine⟨λh=>False.elim (by first|(exact zW h qq)|(simp at h;done)|(simp at h;omega)),λ_=>?_⟩;(refine fU ?_))|(refine⟨λ_=>?_,λh=>False.elim (by first|(exact zW h qq)|(simp at h;done)|(simp at h;omega))⟩;(refine fU ?_))))
  cases o:(Vu==w)
  .refine⟨λh=>zW h qx,λ_=>?_⟩;refine gE ?_;refine A6 [] g j_ (λi p r=>?_) kU;by_cases hi:i=2
   .subst hi;exact o
   .exact g i p j_
  .refine⟨λ_=>?_,λh=>zW h qx⟩;rw[zD (by rw[show (Hv==w)=false from g 1 qq qq];simp)]at l;rw[zE o]at l;subst l;refine fU ?_;exact done q_ As [] [Bj 900] (λ_ h=>h) q_ q_ kU
 .refine fU ?_;refine Al (B5 (k:=.string) Γ.toTy q_ q_ q_ Tryz.underlying9 q_ q_ qq qq q_) q_ q_ (fU ?_)
  (repeat (first|(refine⟨λh=>False.elim (by first|(exact zW h qq)|(simp at h;done)|(simp at h;omega)),λ_=>?_⟩;(refine fU ?_))|(refine⟨λ_=>?_,λh=>False.elim (by first|(exact zW h qq)|(simp at h;done)|(simp at h;omega))⟩;(refine fU ?_))))
  cases o:(W4==w)
  .refine⟨λh=>zW h qx,λ_=>?_⟩;refine gE ?_;refine A6 [] g j_ (λi p r=>?_) kU;by_cases hi:i=3
   .subst hi;exact o
   .exact g i p j_
  .refine⟨λ_=>?_,λh=>zW h qx⟩;rw[zD (by rw[show (Hv==w)=false from g 1 qq qq];simp)]at l;rw[zD (by rw[show (Vu==w)=false from g 2 qq qq];simp)]at l;rw[zE o]at l;subst l;refine fU ?_;exact done q_ As [] [Bj 900] (λ_ h=>h) q_ q_ kU
 .refine fU ?_;refine Al (B5 (k:=.string) Γ.toTy q_ q_ q_ Tryz.underlying9 q_ q_ qq qq q_) q_ q_ (fU ?_)
  (repeat (first|(refine⟨λh=>False.elim (by first|(exact zW h qq)|(simp at h;done)|(simp at h;omega)),λ_=>?_⟩;(refine fU ?_))|(refine⟨λ_=>?_,λh=>False.elim (by first|(exact zW h qq)|(simp at h;done)|(simp at h;omega))⟩;(refine fU ?_))))
  cases o:(Aba==w)
  .refine⟨λh=>zW h qx,λ_=>?_⟩;refine gE ?_;refine A6 [] g j_ (λi p r=>?_) kU;by_cases hi:i=4
   .subst hi;exact o
   .exact g i p j_
  .refine⟨λ_=>?_,λh=>zW h qx⟩;rw[zD (by rw[show (Hv==w)=false from g 1 qq qq];simp)]at l;rw[zD (by rw[show (Vu==w)=false from g 2 qq qq];simp)]at l;rw[zD (by rw[show (W4==w)=false from g 3 qq qq];simp)]at l;rw[zE o]at l;subst l;refine fU ?_;exact done q_ As [] [Bj 900] (λ_ h=>h) q_ q_ kU
 .refine fU ?_;refine Al (B5 (k:=.string) Γ.toTy q_ q_ q_ Tryz.underlying9 q_ q_ qq qq q_) q_ q_ (fU ?_)
  (repeat (first|(refine⟨λh=>False.elim (by first|(exact zW h qq)|(simp at h;done)|(simp at h;omega)),λ_=>?_⟩;(refine fU ?_))|(refine⟨λ_=>?_,λh=>False.elim (by first|(exact zW h qq)|(simp at h;done)|(simp at h;omega))⟩;(refine fU ?_))))
  cases o:(Ui==w)
  .refine⟨λh=>zW h qx,λ_=>?_⟩;refine gE ?_;refine A6 [] g j_ (λi p r=>?_) kU;by_cases hi:i=5
   .subst hi;exact o
   .exact g i p j_
  .refine⟨λ_=>?_,λh=>zW h qx⟩;rw[zD (by rw[show (Hv==w)=false from g 1 qq qq];simp)]at l;rw[zD (by rw[show (Vu==w)=false from g 2 qq qq];simp)]at l;rw[zD (by rw[show (W4==w)=false from g 3 qq qq];simp)]at l;rw[zD (by rw[show (Aba==w)=false from g 4 qq qq];simp)]at l;rw[zE o]at l;subst l;refine fU ?_;exact done q_ As [] [Bj 900] (λ_ h=>h) q_ q_ kU
 .rw[zD (by rw[show (Hv == w)=false from g 1 qq qq];simp),zD (by rw[show (Vu == w)=false from g 2 qq qq];simp),zD (by rw[show (W4 == w)=false from g 3 qq qq];simp),
   zD (by rw[show (Aba == w)=false from g 4 qq qq];simp),zD (by rw[show (Ui == w)=false from g 5 qq qq];simp)]at l
  subst l;refine fU ?_;exact done q_ As [] [Bj 900] (λ_ h=>h) q_ q_ kU
def V7(n:Ai)(w:ByteArray)(p:D4):Bool:=((Af n.j p.q).name++⟨#[46]⟩++p.name)==w
def A4y(n:Ai)(i:Qw n)(W:List ByteArray)(o:1<W.length)(p:D4)(hp:p∈n.g)(g:0<=p.q/\p.q.toNat<n.j.length):Sp 126 [Bm p,.ref 8 (Aq n) 0,.ref 1 (.sl 1 Ap W) 0] (Ab (V7 n (Af W 1) p)):=cT F126 ntmps126 λF J=>by
 have r:=i.2 _ hp;have t:=i.1 _ (zI g.2);have j:(1:Int).toNat<W.length:=o;rw[V7,Aj g.2,Aj j];obtain ⟨d,l⟩:=kE (n.j[p.q.toNat]'g.2);rw[l]at t|-;have P:=Ah8 d.name ⟨#[46]⟩;have I:(⟨#[46]⟩:ByteArray).size=1:=rfl;refine fW ?_;refine⟨q_,g.1,g.2,?_⟩;rw[l];refine fW ?_;refine⟨by show _+1<=_;omega,?_⟩;refine fW ?_;refine⟨by omega,?_⟩;refine fW ?_;refine⟨q_,by decide,j,?_⟩;refine fW ?_;refine⟨y_,?_⟩;refine fW ?_;exact dN
abbrev Hg(k:Nat):Nat×Ob:=(k,.glob 6 (.agg [Aa 0,Aa 3,Aa 3,Aa 3,Aa 1,Aa 2]) 0)
def Vt:B7:=⟨0,0,0,0,[],[]⟩
def Aja(k:Int):Int:=if k=4 then 1 else if k=5 then 2 else 3
def nO(n:Ai)(w:ByteArray):Nat:=(List.range n.c.length).findIdx (λi:Nat=>Uf n (i:Int)==w)
def stepT(n:Ai)(s:ByteArray):B7×Int :=
 if Qm (Af (Bd 32 s) 0)=0 then (Vt,22)
 else if ((Bd 32 s).length:Int)≠Aja (Qm (Af (Bd 32 s) 0)) then (Vt,22)
 else if Qm (Af (Bd 32 s) 0)=1 then
  if Bt (V7 n (Af (Bd 32 s) 1)) n.g<0 then (Vt,31)
  else if (Xz (Af (Bd 32 s) 2)).2=false then (Vt,21)
  else (⟨1,Bt (V7 n (Af (Bd 32 s) 1)) n.g,0,0,(Xz (Af (Bd 32 s) 2)).1,[]⟩,0)
 else if Qm (Af (Bd 32 s) 0)=2\/Qm (Af (Bd 32 s) 0)=3 then
  if nO n (Af (Bd 32 s) 1)=n.c.length then (Vt,31)
  else if (Iq (Af (Bd 32 s) 2) 0 999999999).2=false then (Vt,21)
  else (⟨Qm (Af (Bd 32 s) 0),0,nO n (Af (Bd 32 s) 1),(Iq (Af (Bd 32 s) 2) 0 999999999).1,[],[]⟩,0)
 else if Qm (Af (Bd 32 s) 0)=4 then (⟨4,0,0,0,[],[]⟩,0)
 else if Azy n.x.length (Af (Bd 32 s) 1)=false then (Vt,21)
 else (⟨5,0,0,0,[],upL (Af (Bd 32 s) 1)⟩,0)
def Avb(w:ByteArray):(Qm w=0/\(Hv==w)=false/\(Vu==w)=false/\(W4==w)=false/\(Aba==w)=false/\(Ui==w)=false)\/(Qm w=1/\w=Hv)\/(Qm w=2/\w=Vu)\/(Qm w=3/\w=W4)\/(Qm w=4/\w=Aba)\/(Qm w=5/\w=Ui):=by
 unfold Qm;split
 .rename_i h;exact .inr (.inl ⟨rfl,((Aay _ _).1 h).symm⟩)
 split
 .rename_i h;exact .inr (.inr (.inl ⟨rfl,((Aay _ _).1 h).symm⟩))
 split
 .rename_i h;exact .inr (.inr (.inr (.inl ⟨rfl,((Aay _ _).1 h).symm⟩)))
 split
 .rename_i h;exact .inr (.inr (.inr (.inr (.inl ⟨rfl,((Aay _ _).1 h).symm⟩))))
 split
 .rename_i h;exact .inr (.inr (.inr (.inr (.inr ⟨rfl,((Aay _ _).1 h).symm⟩))))
 .rename_i g i j l o;exact .inl ⟨q_,kS g,kS i,kS j,kS l,kS o⟩
def Aj9{n:Ai}{w:ByteArray}(h:∀i,i<n.c.length->(Uf n (i:Int)==w)=false):nO n w=n.c.length:=by
 have:(List.range n.c.length).findIdx (λi:Nat=>Uf n (i:Int)==w)=(List.range n.c.length).length:=by
  rw[List.findIdx_eq_length];intro x g;have:=h x (kS g);simpa using this
 rw[nO,this,vT]
def findD_some{n:Ai}{w:ByteArray}{j:Nat}(g:j<n.c.length)(h:∀i,i<j->(Uf n (i:Int)==w)=false)(l:(Uf n (j:Int)==w)=true):nO n w=j:=by
 rw[nO,List.findIdx_eq (by rw[vT];exact g)];refine⟨kS l,λi hi=>kS (h i hi)⟩
def Bf1(c:UInt8)(s:ByteArray):Uw c s<=s.size:=List.count_le_length
def A5z(c:UInt8)(l:List UInt8)(j:Nat):(Qd c l j).length<=l.length:=by
 rw[Qd,zY];have:=cH c l j;omega
def Abm(c:UInt8)(s:ByteArray):∀w∈Bd c s,w.size<=s.size:=by
 intro w g;rw[Bd,yJ,yT,zX]at g;rcases g with ⟨j,_,rfl⟩|rfl
 .rw[Dp];exact A5z _ _ _
 .rw[Dp];exact cH _ _ _
def A45(n:Ai)(hn:n.Fin)(hb:Ac n=true)(cm:Qw n)(s:ByteArray)(hs:s.size<100000):Sq 66 [Aq n,Ap s] [Bj 900,Hg 901] (.tup [Dm (stepT n s).1,Aa (stepT n s).2]) [Bj 900,Hg 901]:=cT F66 ntmps66 λF hF=>by
 have g:=stepT.eq_1 n s;generalize stepT n s=a6 at *;have q0:=Ah7 s 32 j_;have a7:=Ly 32 s;have a0:=Abm 32 s;have gu:=Bf1 32 s;have gp:=hn.g;unfold At at gp;have js:=Ac8 hb;generalize Bd 32 s=W at *;have sg:(0:Int).toNat<W.length:=by show 0<_;omega
 have kz:Af W 0=W[(0:Int).toNat]:=Aj sg;obtain ⟨w0,a1⟩:∃w0,W[(0:Int).toNat]'sg=w0:=⟨_,rfl⟩
 rw[kz,a1]at g;have q1:=kindS w0;have a4:=Avb w0;obtain ⟨kd,cd⟩:=kE (Qm w0);rw[cd]at g q1 a4;refine gQ q0 F6 ?_;refine fU ?_;refine⟨q_,by decide,sg,?_⟩;rw[a1];refine fW ?_;refine Al (Ad [(900,900)] q_ F124 q1 q_ ⟨q_,z_⟩ q_ ⟨.inl q_,z_⟩) q_ q_ ?_;refine Bi 2 8 (Aq n) q_ q_ q_ (Bi 6 1 (.sl 1 Ap W) q_ q_ q_ ?_);rcases a4 with ⟨rfl,_⟩|⟨rfl,_⟩|⟨rfl,_⟩|⟨rfl,_⟩|⟨rfl,_⟩|⟨rfl,_⟩
 .rw[zE rfl]at g;subst g;refine fU ?_
  (repeat (first|(refine⟨λh=>False.elim (by first|(exact zW h qq)|(simp at h;done)|(simp at h;omega)),λ_=>?_⟩;(refine fU ?_))|(refine⟨λ_=>?_,λh=>False.elim (by first|(exact zW h qq)|(simp at h;done)|(simp at h;omega))⟩;(refine fU ?_))))
  refine⟨y_,?_⟩;refine fW ?_;refine An 4 [Aa 0,Aa 0,Aa 0,Aa 0,.sl 1 Ae [],.sl 1 Ab []] q_ vL ?_;exact done q_ (.cons (.cell q_ q_ q_ q_) As) [] [Bj 900,Hg 901] (λ_ h=>h) q_ q_ kU
 .rw[zD qq]at g;refine fU ?_
  (repeat (first|(refine⟨λh=>False.elim (by first|(exact zW h qq)|(simp at h;done)|(simp at h;omega)),λ_=>?_⟩;(refine fU ?_))|(refine⟨λ_=>?_,λh=>False.elim (by first|(exact zW h qq)|(simp at h;done)|(simp at h;omega))⟩;(refine fU ?_))))
  refine Zj (O2.glob Γ.toTy 901 q_ q_ q_ q_ q_ qq qq) q_ y_ (fU ?_);refine⟨y_,?_⟩;refine gR ?_ ?_<;>intro h
  .have ag:(W.length:Int)≠3:=by simpa using h
   rw[zE (by exact ag)]at g;subst g;refine fU ?_;refine An 4 [Aa 0,Aa 0,Aa 0,Aa 0,.sl 1 Ae [],.sl 1 Ab []] q_ vL ?_;exact done q_ (.cons (.cell q_ q_ q_ q_) As) [] [Bj 900,Hg 901] (λ_ h=>h) q_ q_ kU
  have l:(W.length:Int)=3:=kS h;rw[zD (by rw[l];simp[Aja])]at g;rw[zE rfl]at g;have r:(1:Int).toNat<W.length:=by show 1<_;omega
  have o:(2:Int).toNat<W.length:=by show 2<_;omega
  have rh:Af W 2=W[(2:Int).toNat]:=Aj o;have qf:∀ p∈n.g,J3 a5 126 ([]++[Bm p]++[.ref 8 (Aq n) 0,.ref 1 (.sl 1 Ap W) 0]) (Ab (V7 n (Af W 1) p)):=λ p hp=>⟨⟨_,_,F126⟩,by
   obtain ⟨i,hi,rfl⟩:=yY.1 hp;exact A4y n cm W r _ (zI hi) (aG hb hi)⟩
  have q2:=Ut n.g (V7 n (Af W 1)) 126 [] [.ref 8 (Aq n) 0,.ref 1 (.sl 1 Ap W) 0] rfl qf hn.g;have a8:=Bff (V7 n (Af W 1)) n.g;have mf:=Kf (V7 n (Af W 1)) n.g;have tz:=a0 _ (zI o);rw[rh]at g;have q3:=Ack (W[(2:Int).toNat]'o) j_;have ww:=A95 (W[(2:Int).toNat]'o);generalize Bt (V7 n (Af W 1)) n.g=pi at *;refine gL q2 F125 ?_;refine gH ?_ ?_<;>intro h
  .rw[zE (zO h)]at g;subst g;refine fU ?_;refine An 4 [Aa 0,Aa 0,Aa 0,Aa 0,.sl 1 Ae [],.sl 1 Ab []] q_ vL ?_;exact done q_ (.cons (.cell q_ q_ q_ q_) As) [] [Bj 900,Hg 901] (λ_ h=>h) q_ q_ kU
  rw[zD (zQ h)]at g;refine fU ?_;refine⟨q_,by decide,o,?_⟩;refine gQ q3 F127 ?_;rw[ww.1];cases aq:(Xz (W[(2:Int).toNat]'o)).2
  .rw[aq,zE rfl]at g;subst g;refine fU ?_;refine An 4 [Aa 0,Aa 0,Aa 0,Aa 0,.sl 1 Ae [],.sl 1 Ab []] q_ vL ?_;exact done q_ (.cons (.cell q_ q_ q_ q_) As) [] [Bj 900,Hg 901] (λ_ h=>h) q_ q_ kU
  .rw[aq,zD qx]at g;rw[ww.2 aq];subst g;refine fU ?_;refine An 4 [Aa 1,Aa pi,Aa 0,Aa 0,.sl 1 Ae (Xz (W[(2:Int).toNat]'o)).1,.sl 1 Ab []] q_ vL ?_;exact done q_ (.cons (.cell q_ q_ q_ q_) As) [] [Bj 900,Hg 901] (λ_ h=>h) q_ q_ kU
 .rw[zD qq]at g;refine fU ?_
  (repeat (first|(refine⟨λh=>False.elim (by first|(exact zW h qq)|(simp at h;done)|(simp at h;omega)),λ_=>?_⟩;(refine fU ?_))|(refine⟨λ_=>?_,λh=>False.elim (by first|(exact zW h qq)|(simp at h;done)|(simp at h;omega))⟩;(refine fU ?_))))
  refine Zj (O2.glob Γ.toTy 901 q_ q_ q_ q_ q_ qq qq) q_ y_ (fU ?_);refine⟨y_,?_⟩;refine gR ?_ ?_<;>intro h
  .have ag:(W.length:Int)≠3:=by simpa using h
   rw[zE (by exact ag)]at g;subst g;refine fU ?_;refine An 4 [Aa 0,Aa 0,Aa 0,Aa 0,.sl 1 Ae [],.sl 1 Ab []] q_ vL ?_;exact done q_ (.cons (.cell q_ q_ q_ q_) As) [] [Bj 900,Hg 901] (λ_ h=>h) q_ q_ kU
  have l:(W.length:Int)=3:=kS h;rw[zD (by rw[l];simp[Aja])]at g;rw[zD qq,zE qq]at g;have r:(1:Int).toNat<W.length:=by show 1<_;omega
  have o:(2:Int).toNat<W.length:=by show 2<_;omega
  have I:Af W 1=W[(1:Int).toNat]:=Aj r;have rh:Af W 2=W[(2:Int).toNat]:=Aj o;have tz:=a0 _ (zI o);rw[I,rh]at g;have q3:=Acb (W[(2:Int).toNat]'o) 0 999999999;obtain ⟨J,sj⟩:∃J,W[(1:Int).toNat]'r=J:=⟨_,rfl⟩
  rw[sj]at g;refine fU ?_;refine Bb n.c.length (λj=>∀i,i<j->(Uf n (i:Int)==J)=false) (λj=>[(2,.ref 8 (Aq n) 0),(4,.ptr 4 0),(6,.ref 1 (.sl 1 Ap W) 0),(7,.ptr 7 0)]) (λj=>[(4,.box [Aa 0,Aa 0,Aa 0,Aa 0,Jl,Jl]),(7,.box [Aa 2,Aa 0,Aa j,Aa 0,Jl,Jl]),Bj 900,Hg 901]) [] (λi hi=>zW hi j_)
   kU ?_
  intro j hj hI;refine gH ?_ ?_<;>intro h
  .have ab:j<n.c.length:=qA h;have q4:=Akj n hn cm (j:Int);have l7:=@findD_some n J j ab hI;obtain ⟨td,P⟩:=kE (Uf n (j:Int));rw[P]at q4 l7;refine gK q4 F128 ?_;refine⟨q_,by decide,r,?_⟩;rw[sj];refine fW ?_;cases R:(td==J)
   .refine⟨y_,?_⟩;refine gJ ?_;refine A6 [] hI j_ (λi hi=>?_) kU;rcases vD i j with t|t
    .exact hI i t
    .obtain rfl:i=j:=by omega
     rw[P];exact R
   .rw[l7 R,zD j_]at g;refine⟨y_,?_⟩;refine fW ?_;refine⟨λt=>zW t kO,λ_=>?_⟩;refine fU ?_;refine⟨q_,by decide,o,?_⟩;refine gQ q3 F129 ?_;obtain ⟨⟨av,a2⟩,a3⟩:∃p,Iq (W[(2:Int).toNat]'o) 0 999999999=p:=⟨_,rfl⟩
    rw[a3]at g|-;dsimp only at g|-;cases a2
    .rw[zE rfl]at g;subst g;refine fU ?_;refine An 4 [Aa 0,Aa 0,Aa 0,Aa 0,.sl 1 Ae [],.sl 1 Ab []] q_ vL ?_;exact done q_ (.cons (.cell q_ q_ q_ q_) As) [] [Bj 900,Hg 901] (λ_ h=>h) q_ q_ kU
    .rw[zD qx]at g;subst g;refine fU ?_;refine An 4 [Aa 2,Aa 0,Aa (j:Int),Aa av,.sl 1 Ae [],.sl 1 Ab []] q_ vL ?_;exact done q_ (.cons (.cell q_ q_ q_ q_) As) [] [Bj 900,Hg 901] (λ_ h=>h) q_ q_ kU
  .have bu:j=n.c.length:=qB h;subst bu;rw[zE (Aj9 hI)]at g;refine fU ?_;refine⟨y_,?_⟩;refine fW ?_;refine⟨λ_=>?_,λt=>zW t qx⟩;subst g;refine fU ?_;refine An 4 [Aa 0,Aa 0,Aa 0,Aa 0,.sl 1 Ae [],.sl 1 Ab []] q_ vL ?_;exact done q_ (.cons (.cell q_ q_ q_ q_) As) [] [Bj 900,Hg 901] (λ_ h=>h) q_ q_ kU
 .rw[zD qq]at g;refine fU ?_
  (repeat (first|(refine⟨λh=>False.elim (by first|(exact zW h qq)|(simp at h;done)|(simp at h;omega)),λ_=>?_⟩;(refine fU ?_))|(refine⟨λ_=>?_,λh=>False.elim (by first|(exact zW h qq)|(simp at h;done)|(simp at h;omega))⟩;(refine fU ?_))))
  refine Zj (O2.glob Γ.toTy 901 q_ q_ q_ q_ q_ qq qq) q_ y_ (fU ?_);refine⟨y_,?_⟩;refine gR ?_ ?_<;>intro h
  .have ag:(W.length:Int)≠3:=by simpa using h
   rw[zE (by exact ag)]at g;subst g;refine fU ?_;refine An 4 [Aa 0,Aa 0,Aa 0,Aa 0,.sl 1 Ae [],.sl 1 Ab []] q_ vL ?_;exact done q_ (.cons (.cell q_ q_ q_ q_) As) [] [Bj 900,Hg 901] (λ_ h=>h) q_ q_ kU
  have l:(W.length:Int)=3:=kS h;rw[zD (by rw[l];simp[Aja])]at g;rw[zD qq,zE qq]at g;have r:(1:Int).toNat<W.length:=by show 1<_;omega
  have o:(2:Int).toNat<W.length:=by show 2<_;omega
  have I:Af W 1=W[(1:Int).toNat]:=Aj r;have rh:Af W 2=W[(2:Int).toNat]:=Aj o;have tz:=a0 _ (zI o);rw[I,rh]at g;have q3:=Acb (W[(2:Int).toNat]'o) 0 999999999;obtain ⟨J,sj⟩:∃J,W[(1:Int).toNat]'r=J:=⟨_,rfl⟩
  rw[sj]at g;refine fU ?_;refine Bb n.c.length (λj=>∀i,i<j->(Uf n (i:Int)==J)=false) (λj=>[(2,.ref 8 (Aq n) 0),(4,.ptr 4 0),(6,.ref 1 (.sl 1 Ap W) 0),(7,.ptr 7 0)]) (λj=>[(4,.box [Aa 0,Aa 0,Aa 0,Aa 0,Jl,Jl]),(7,.box [Aa 3,Aa 0,Aa j,Aa 0,Jl,Jl]),Bj 900,Hg 901]) [] (λi hi=>zW hi j_)
   kU ?_
  intro j hj hI;refine gH ?_ ?_<;>intro h
  .have ab:j<n.c.length:=qA h;have q4:=Akj n hn cm (j:Int);have l7:=@findD_some n J j ab hI;obtain ⟨td,P⟩:=kE (Uf n (j:Int));rw[P]at q4 l7;refine gK q4 F128 ?_;refine⟨q_,by decide,r,?_⟩;rw[sj];refine fW ?_;cases R:(td==J)
   .refine⟨y_,?_⟩;refine gJ ?_;refine A6 [] hI j_ (λi hi=>?_) kU;rcases vD i j with t|t
    .exact hI i t
    .obtain rfl:i=j:=by omega
     rw[P];exact R
   .rw[l7 R,zD j_]at g;refine⟨y_,?_⟩;refine fW ?_;refine⟨λt=>zW t kO,λ_=>?_⟩;refine fU ?_;refine⟨q_,by decide,o,?_⟩;refine gQ q3 F129 ?_;obtain ⟨⟨av,a2⟩,a3⟩:∃p,Iq (W[(2:Int).toNat]'o) 0 999999999=p:=⟨_,rfl⟩
    rw[a3]at g|-;dsimp only at g|-;cases a2
    .rw[zE rfl]at g;subst g;refine fU ?_;refine An 4 [Aa 0,Aa 0,Aa 0,Aa 0,.sl 1 Ae [],.sl 1 Ab []] q_ vL ?_;exact done q_ (.cons (.cell q_ q_ q_ q_) As) [] [Bj 900,Hg 901] (λ_ h=>h) q_ q_ kU
    .rw[zD qx]at g;subst g;refine fU ?_;refine An 4 [Aa 3,Aa 0,Aa (j:Int),Aa av,.sl 1 Ae [],.sl 1 Ab []] q_ vL ?_;exact done q_ (.cons (.cell q_ q_ q_ q_) As) [] [Bj 900,Hg 901] (λ_ h=>h) q_ q_ kU
  .have bu:j=n.c.length:=qB h;subst bu;rw[zE (Aj9 hI)]at g;refine fU ?_;refine⟨y_,?_⟩;refine fW ?_;refine⟨λ_=>?_,λt=>zW t qx⟩;subst g;refine fU ?_;refine An 4 [Aa 0,Aa 0,Aa 0,Aa 0,.sl 1 Ae [],.sl 1 Ab []] q_ vL ?_;exact done q_ (.cons (.cell q_ q_ q_ q_) As) [] [Bj 900,Hg 901] (λ_ h=>h) q_ q_ kU
 .rw[zD qq]at g;refine fU ?_
  (repeat (first|(refine⟨λh=>False.elim (by first|(exact zW h qq)|(simp at h;done)|(simp at h;omega)),λ_=>?_⟩;(refine fU ?_))|(refine⟨λ_=>?_,λh=>False.elim (by first|(exact zW h qq)|(simp at h;done)|(simp at h;omega))⟩;(refine fU ?_))))
  refine Zj (O2.glob Γ.toTy 901 q_ q_ q_ q_ q_ qq qq) q_ y_ (fU ?_);refine⟨y_,?_⟩;refine gR ?_ ?_<;>intro h
  .have ag:(W.length:Int)≠1:=by simpa using h
   rw[zE (by exact ag)]at g;subst g;refine fU ?_;refine An 4 [Aa 0,Aa 0,Aa 0,Aa 0,.sl 1 Ae [],.sl 1 Ab []] q_ vL ?_;exact done q_ (.cons (.cell q_ q_ q_ q_) As) [] [Bj 900,Hg 901] (λ_ h=>h) q_ q_ kU
  have l:(W.length:Int)=1:=kS h;rw[zD (by rw[l];simp[Aja])]at g;rw[zD qq,zD qq,zE rfl]at g;subst g;refine fU ?_;refine An 4 [Aa 4,Aa 0,Aa 0,Aa 0,.sl 1 Ae [],.sl 1 Ab []] q_ vL ?_;exact done q_ (.cons (.cell q_ q_ q_ q_) As) [] [Bj 900,Hg 901] (λ_ h=>h) q_ q_ kU
 .rw[zD qq]at g;refine fU ?_
  (repeat (first|(refine⟨λh=>False.elim (by first|(exact zW h qq)|(simp at h;done)|(simp at h;omega)),λ_=>?_⟩;(refine fU ?_))|(refine⟨λ_=>?_,λh=>False.elim (by first|(exact zW h qq)|(simp at h;done)|(simp at h;omega))⟩;(refine fU ?_))))
  refine Zj (O2.glob Γ.toTy 901 q_ q_ q_ q_ q_ qq qq) q_ y_ (fU ?_);refine⟨y_,?_⟩;refine gR ?_ ?_<;>intro h
  .have ag:(W.length:Int)≠2:=by simpa using h
   rw[zE (by exact ag)]at g;subst g;refine fU ?_;refine An 4 [Aa 0,Aa 0,Aa 0,Aa 0,.sl 1 Ae [],.sl 1 Ab []] q_ vL ?_;exact done q_ (.cons (.cell q_ q_ q_ q_) As) [] [Bj 900,Hg 901] (λ_ h=>h) q_ q_ kU
  have l:(W.length:Int)=2:=kS h;rw[zD (by rw[l];simp[Aja])]at g;rw[zD qq,zD qq,zD qq]at g;have r:(1:Int).toNat<W.length:=by show 1<_;omega
  have I:Af W 1=W[(1:Int).toNat]:=Aj r;have a9:=a0 _ (zI r);rw[I]at g;have q3:=Ag5 n hn (W[(1:Int).toNat]'r) j_;have ww:=A5l n.x.length (W[(1:Int).toNat]'r);refine fU ?_;refine⟨q_,by decide,r,?_⟩;refine fW ?_;refine cD q3 F130 ?_;rw[ww.1];cases aq:Azy n.x.length (W[(1:Int).toNat]'r)
  .rw[aq,zE rfl]at g;refine fU ?_;refine⟨y_,?_⟩;refine fW ?_;subst g;refine An 4 [Aa 0,Aa 0,Aa 0,Aa 0,.sl 1 Ae [],.sl 1 Ab []] q_ vL ?_;exact done q_ (.cons (.cell q_ q_ q_ q_) As) [] [Bj 900,Hg 901] (λ_ h=>h) q_ q_ kU
  .rw[aq,zD qx]at g;rw[ww.2 aq];subst g;refine fU ?_;refine⟨y_,?_⟩;refine fW ?_;refine An 4 [Aa 5,Aa 0,Aa 0,Aa 0,.sl 1 Ae [],.sl 1 Ab (upL (W[(1:Int).toNat]'r))] q_ vL ?_;exact done q_ (.cons (.cell q_ q_ q_ q_) As) [] [Bj 900,Hg 901] (λ_ h=>h) q_ q_ kU
def Ma(n:Ai):Nat->List B7->List ByteArray->List B7×Int×Int
 |_,out,[]=>(out,0,0)
 |i,out,r::g=>if (stepT n r).2=0 then Ma n (i+1) (out++[(stepT n r).1]) g else ([],(i:Int)+1,(stepT n r).2)
def Cp(n:Ai)(b:List UInt8):List B7×Int×Int :=
 if Ac n=false then ([],0,2) else if (H5 b).2≠0 then ([],0,(H5 b).2) else Ma n 0 [] (H5 b).1
def Zm:∀(l i:List UInt8),∀w∈Dd i l,w.size<=i.length+l.length
 |[],i,w,g=>by
  rw[Dd]at g;split at g
  .cases g
  .simp only[zX]at g;subst g;rw[Dp];simp
 |c::l,i,w,g=>by
  rw[Dd]at g;split at g
  .rcases yH.1 g with rfl|g
   .rw[Dp];simp
   .have:=Zm l [] w g;simp at this|-;omega
  .have:=Zm l _ w g;simp at this|-;omega
def Xa(b:List UInt8):(∀w∈(H5 b).1,w.size<=b.length)/\(H5 b).1.length<=400/\(0<=(H5 b).2/\(H5 b).2<=3):=by
 unfold H5;split
 .exact⟨λw g=>(by cases g),qq,qq⟩
 split
 .exact⟨λw g=>(by cases g),qq,qq⟩
 .rename_i i j;refine⟨λw g=>?_,by dsimp only;omega,by dsimp only;omega⟩;have:=Zm b [] w g;simpa using this
def Al4(n:Ai)(hn:n.Fin)(cm:Qw n)(b:List UInt8)(jt:b.length<100000):Sq 32 [Aq n,.sl 1 Ae b] [Bj 900,Hg 901] (.tup [.sl 6 Dm (Cp n b).1,Aa (Cp n b).2.1,Aa (Cp n b).2.2]) [Bj 900,Hg 901]:=cT F32 ntmps32 λF hF=>by
 have o:=Cp.eq_1 n b;generalize Cp n b=a1 at *;have hr:=A7 n hn;have q0:=Aeu b j_;have I:=Xa b;generalize H5 b=rt at *;obtain ⟨g,re⟩:=rt;dsimp only at o q0 I;obtain ⟨vq,wq,a2⟩:=I;refine gQ hr F49 ?_;cases P:Ac n
 .rw[zE P]at o;subst o;refine fU ?_;refine Ar 4 6 Dm q_ (fU ?_);exact done q_ (.cons .tmp (.cons .tmp As)) [] [Bj 900,Hg 901] (λ_ h=>h) q_ q_ kU
 rw[zD (by simp[P])]at o;refine gL q0 F29 ?_;refine Bi 2 8 (Aq n) q_ q_ q_ ?_;refine gH ?_ ?_<;>intro h
 .have R:re≠0:=by simpa using h
  rw[zE R]at o;subst o;refine fU ?_;refine Ar 4 6 Dm q_ (fU ?_);exact done q_ (.cons .tmp (.cons .tmp As)) [] [Bj 900,Hg 901] (λ_ h=>h) q_ q_ kU
 have R:re=0:=kS h;rw[zD (by simp[R])]at o;refine fU ?_;refine Ct 4 1000 6 Dm q_ q_ ?_;refine Bb g.length (λj=>Ma n 0 [] g=Ma n j ((g.take j).map (λr=>(stepT n r).1)) (g.drop j)) (λj=>[(2,.ref 8 (Aq n) 0),(4,.osl 1000),(23,.sl 1 Ap g),(24,Aa g.length),(25,Aa j)])
  (λj=>[(1000,.row 6 Dm ((g.take j).map (λr=>(stepT n r).1))),Bj 900,Hg 901]) [] rfl
  kU ?_
 intro j hj i;have jf:((g.take j).map (λr=>(stepT n r).1)).length=j:=by rw[yS,zY];omega
 refine gH ?_ ?_<;>intro h
 .have J:j<g.length:=qA h;have ai:(j:Int).toNat<g.length:=kS J;have fg:g.drop j=g[j]::g.drop (j+1):=yK J;have t:(g.take (j+1)).map (λr=>(stepT n r).1)=(g.take j).map (λr=>(stepT n r).1)++[(stepT n g[j]).1]:=by rw[zZ J,wP];rfl
  have az:=vq _ (zI J);have a0:=i;rw[fg,Ma]at i;rw[<-t]at i;obtain ⟨r,hx⟩:=kE (g[(j:Int).toNat]'ai);have pc:g[j]=r:=hx;rw[pc]at t i az;have q:=A45 n hn P cm r j_;obtain ⟨out,ho⟩:∃out,(g.take j).map (λr=>(stepT n r).1)=out:=⟨_,rfl⟩
  rw[ho]at t jf|-;obtain ⟨⟨x,e⟩,lm⟩:∃p,stepT n r=p:=⟨_,rfl⟩
  rw[lm]at t i q;dsimp only at t i q;refine fU ?_;refine⟨q_,by omega,ai,?_⟩;rw[hx];refine fW ?_;refine Al (Ad [(900,900),(901,901)] q_ F66 q q_ ⟨q_,q_,z_⟩ q_ kB) q_ q_ (fU ?_);constructor<;>intro h2
  .have h3:e≠0:=by simpa using h2
   rw[zD h3]at i;rw[i]at o;subst o;refine gE ?_;refine Ar 4 6 Dm q_ ?_;exact done q_ (.cons .tmp (.cons .tmp As)) [] [Bj 900,Hg 901] (λ_ h=>h) q_ q_ kU
  .have h3:e=0:=by simpa using h2
   rw[zE h3]at i;refine fU ?_;refine Al (Ah Γ.toTy 45 q_ q_ q_ q_ q_ (.row q_) (.lit (e:=Dm) (l:=[x]) q_ q_) qx kO kO) q_ q_ (gE ?_);exact A6 [(1000,45)] a0 j_ i ⟨kA,⟨.inl (zH (Ob.row 6 Dm) t),q_,.inl q_,q_,.inl q_,q_,z_⟩,q_,q_⟩
 .have bu:j=g.length:=qB h;subst bu;rw[wO,Ma]at i;rw[i]at o;generalize (g.take g.length).map (λr=>(stepT n r).1)=out at *;subst o;refine Ao 1000 q_ (fU ?_);exact done q_ (.cons .tmp (.cons .tmp As)) [] [Bj 900,Hg 901] (λ_ h=>h) q_ q_ kU
def Ud(e:Int)(l:List (Bool×Int)):Int:=l.foldl (λe x=>Ay e x.1 x.2) e
def Agg:∀(l:List (Bool×Int)) (e:Int),(∀x∈l,x.2≠0)->Ud e l=if e=0 then Ca l else e
 |[],e,_=>by
  show e=_;split
  .rename_i h;rw[h];rfl
  .rfl
 |(b,c)::l,e,h=>by
  have i:=h (b,c) qx;have j:=Agg l (Ay e b c) (λx o=>h x (by simp[o]));show Ud (Ay e b c) l=_;rw[j,Ca];dsimp only at i;by_cases g:e=0
  .subst g;cases b with
   |true=>simp[Ay,i]
   |false=>simp[Ay]
  .have:Ay e b c=e:=by rw[Ay,zD (λx=>g x.2)]
   rw[this,zD g,zD g]
def Hy(l:List (Bool×Int))(h:∀x∈l,x.2≠0):Ca l=Ud 0 l:=by rw[Agg l 0 h,zE rfl]
def fR(e:Int)(a b:List (Bool×Int)):Ud e (a++b)=Ud (Ud e a) b:=xS
abbrev rlO(w:List ByteArray)(i:Nat)(e:Int)(l:A2):It:=[(0,.box [.sl 1 Ap w,Aa i,Aa e]),(1,.box (Dl l))]
def Bae(w:List ByteArray):Nat:=if A4 w 4=Lg then 6 else if A4 w 4=Kj then 7 else 5
def Af1(g:Int)(s:ByteArray):(Hh g s).1.length<=16:=by
 rw[Hh];split
 .simp
 .rw[L5];cases h:M3 (λp=>Iq p 1 g) [] (Bd 44 s) with
  |mk l b=>
   cases b with
   |true=>exact(Yw _ _ _ _ h List.Pairwise.nil qq).2.1
   |false=>
    have:∀(ps:List ByteArray) (out r:List Int),M3 (λp=>Iq p 1 g) out ps=(r,false)->r=[]:=by
     intro ps
     induction ps with
     |nil=>intro out r h;rw[M3]at h;simp at h
     |cons p ps i=>
      intro out r h;rw[M3]at h;split at h
      .simp at h;exact h
      .exact i _ _ h
    rw[this _ _ _ h];simp
set_option maxRecDepth 100000 in
def Ben(w:List ByteArray)(e:Int)(l:A2)(hw:w.length<=1000000)(hs:∀s∈w,s.size<=40)(h4:4<w.length)(ha:A4 w 4=Lg->5<w.length)(a0:A4 w 4=Kj->6<w.length)(a1:l.z=0/\l.u=[]):Sq 143 [.ptr 0 0,.ptr 1 0] (rlO w 4 e l) (.tup []) (rlO w (Bae w) (Ud e ((If w).2.2++[(!(Cs (If w).1 (If w).2.1),21)])) {l with z:=(If w).1,u:=(If w).2.1}):=cT F143 ntmps143 λF hF=>by
 obtain ⟨row,kind,dev,port,j,far,name,p,addr,bits,vlan,num,o,tagged,imports,g,i⟩:=l;obtain ⟨g1,g2⟩:=a1;dsimp only at g1 g2;subst g1 g2;have q0:Sq 145 [.ptr 0 0] (aR w 4 e) (Ap (A4 w 4)) (aR w 5 e):=Xb w 4 e h4 hw;rw[Bae,If,fR];by_cases J:A4 w 4=Lg
 .have b1:(A4 w 4==(⟨#[97,99,99,101,115,115]⟩:ByteArray))=true:=Le J;have q1:=Aby w 5 e (ha J) hw;rw[zE J,zE J];have t:=Q4 ⟨row,kind,dev,port,j,far,name,p,addr,bits,(Ee (A4 w 5)).1,num,o,[],imports,g,i⟩ (by simp[At]);dsimp only at t|-;have yf:Ud e [(!(Ee (A4 w 5)).2,21)]=Ay e (!(Ee (A4 w 5)).2) 21:=rfl;rw[yf];have r:=λb=>O6 w 6 (Ay e (!(Ee (A4 w 5)).2) 21) b 21
  generalize Ay e (!(Ee (A4 w 5)).2) 21=I at *;generalize (Ee (A4 w 5)).1=v at *;have P:Ud I [(!(Cs v []),21)]=Ay I (!(Cs v [])) 21:=rfl;rw[P];have r:=r (!(Cs v []));generalize Ay I (!(Cs v [])) 21=R at *;generalize Cs v []=mb at *;refine T ?_;refine X (Ad [] q_ F145 q0 q_ W q_ V) ?_;refine X (Ad [] q_ F139 q1 q_ W q_ V) ?_;refine C t F215 ?_;refine X (Ad [] q_ F142 r q_ W q_ V) ?_;exact Bf q_ .nil [] (rlO w 6 R ⟨row,kind,dev,port,j,far,name,p,addr,bits,v,num,o,[],imports,g,i⟩) (λ_ h=>h) q_ q_ U
 .have b1:(A4 w 4==(⟨#[97,99,99,101,115,115]⟩:ByteArray))=false:=Oh J;rw[zD J,zD J];by_cases c2:A4 w 4=Kj
  .have b2:(A4 w 4==(⟨#[116,114,117,110,107]⟩:ByteArray))=true:=Le c2;have h6:=a0 c2;have h5:((5:Nat):Int).toNat<w.length:=by show 5<w.length;omega
   have e5:w[((5:Nat):Int).toNat]'h5=A4 w 5:=(E9 j_).symm;rw[zE c2,zE c2];by_cases c3:A4 w 5=dash
   .have b3:(w[((5:Nat):Int).toNat]'h5==(⟨#[45]⟩:ByteArray))=true:=Le (by rw[e5];exact c3);rw[zE c3];have q1:=Ahg w 6 e 4094 h6 hw hs;have t:=Q4 ⟨row,kind,dev,port,j,far,name,p,addr,bits,0,num,o,(Hh 4094 (A4 w 6)).1,imports,g,i⟩ (by have:=Af1 4094 (A4 w 6);simp only[At];omega);dsimp only at t|-;have yf:Ud e [(!(Hh 4094 (A4 w 6)).2,21)]=Ay e (!(Hh 4094 (A4 w 6)).2) 21:=rfl;rw[yf];have r:=λb=>O6 w 7 (Ay e (!(Hh 4094 (A4 w 6)).2) 21) b 21
    generalize Ay e (!(Hh 4094 (A4 w 6)).2) 21=I at *;generalize (Hh 4094 (A4 w 6)).1=v at *;have P:Ud I [(!(Cs 0 v),21)]=Ay I (!(Cs 0 v)) 21:=rfl;rw[P];have r:=r (!(Cs 0 v));generalize Ay I (!(Cs 0 v)) 21=R at *;generalize Cs 0 v=mb at *;refine T ?_;refine X (Ad [] q_ F145 q0 q_ W q_ V) ?_;refine X (Ad [] q_ F148 q1 q_ W q_ V) ?_;refine C t F215 ?_;refine X (Ad [] q_ F142 r q_ W q_ V) ?_;exact Bf q_ .nil [] (rlO w 7 R ⟨row,kind,dev,port,j,far,name,p,addr,bits,0,num,o,v,imports,g,i⟩) (λ_ h=>h) q_ q_ U
   .have b3:(w[((5:Nat):Int).toNat]'h5==(⟨#[45]⟩:ByteArray))=false:=Oh (by rw[e5];exact c3);rw[zD c3];have q4:=Aby w 5 e j_ hw;have yf:Ud e [(!(Ee (A4 w 5)).2,21),(!(Hh 4094 (A4 w 6)).2,21)]=Ay (Ay e (!(Ee (A4 w 5)).2) 21) (!(Hh 4094 (A4 w 6)).2) 21:=rfl;dsimp only;rw[yf];generalize Ay e (!(Ee (A4 w 5)).2) 21=e0 at *;have q1:=Ahg w 6 e0 4094 h6 hw hs;have t:=Q4 ⟨row,kind,dev,port,j,far,name,p,addr,bits,(Ee (A4 w 5)).1,num,o,(Hh 4094 (A4 w 6)).1,imports,g,i⟩ (by have:=Af1 4094 (A4 w 6);simp only[At];omega);dsimp only at t;have r:=λb=>O6 w 7 (Ay e0 (!(Hh 4094 (A4 w 6)).2) 21) b 21
    generalize Ay e0 (!(Hh 4094 (A4 w 6)).2) 21=I at *;generalize (Hh 4094 (A4 w 6)).1=v at *;generalize (Ee (A4 w 5)).1=u at *;have P:Ud I [(!(Cs u v),21)]=Ay I (!(Cs u v)) 21:=rfl;rw[P];have r:=r (!(Cs u v));generalize Ay I (!(Cs u v)) 21=R at *;generalize Cs u v=mb at *;refine T ?_;refine X (Ad [] q_ F145 q0 q_ W q_ V) ?_;refine X (Ad [] q_ F139 q4 q_ W q_ V) ?_;refine X (Ad [] q_ F148 q1 q_ W q_ V) ?_;refine C t F215 ?_;refine X (Ad [] q_ F142 r q_ W q_ V) ?_;exact Bf q_ .nil [] (rlO w 7 R ⟨row,kind,dev,port,j,far,name,p,addr,bits,u,num,o,v,imports,g,i⟩) (λ_ h=>h) q_ q_ U
  .have b2:(A4 w 4==(⟨#[116,114,117,110,107]⟩:ByteArray))=false:=Oh c2;rw[zD c2,zD c2];have t:=Q4 ⟨row,kind,dev,port,j,far,name,p,addr,bits,0,num,o,[],imports,g,i⟩ (by simp[At]);dsimp only at t|-;have P:Ud (Ud e []) [(!(Cs 0 []),21)]=Ay e (!(Cs 0 [])) 21:=rfl;rw[P];have r:=O6 w 5 e (!(Cs 0 [])) 21;generalize Ay e (!(Cs 0 [])) 21=R at *;generalize Cs 0 []=mb at *;refine T ?_;refine X (Ad [] q_ F145 q0 q_ W q_ V) ?_;refine C t F215 ?_;refine X (Ad [] q_ F142 r q_ W q_ V) ?_;exact Bf q_ .nil [] (rlO w 5 R ⟨row,kind,dev,port,j,far,name,p,addr,bits,0,num,o,[],imports,g,i⟩) (λ_ h=>h) q_ q_ U
def Af5(s:ByteArray):0<=Ea s/\Ea s<=9:=by
 rw[Ea]
 repeat' split
 all_goals decide
def Ou{k:Int}{w:List ByteArray}(h:T8 k w=true):(k=1\/k=6\/k=7->w.length=4)/\(k=3\/k=4\/k=8\/k=9->w.length=5)/\(k=5->w.length=3)/\(k=2->6<=w.length/\w.length<=7/\(A4 w 4=Kj->w.length=7))/\k≠0:=by
 rw[T8]at h;by_cases g:k=0
 .rw[zE g]at h;cases h
 rw[zD g]at h;by_cases i:k=2
 .rw[zE i]at h;by_cases o:w.length<6
  .rw[zE o]at h;cases h
  rw[zD o]at h;refine⟨λx=>by omega,λx=>by omega,λx=>by omega,λ_=>?_,g⟩;by_cases j:A4 w 4=Lg
  .rw[zE j]at h;have:=zO h;refine⟨by omega,by omega,λx=>?_⟩;rw[j]at x;exact zW x Ao9
  .rw[zD j]at h;by_cases l:A4 w 4=Kj
   .rw[zE l]at h;have:=zO h;exact⟨by omega,by omega,λ_=>this⟩
   .rw[zD l]at h;have:=zO h;exact⟨by omega,by omega,λx=>zW x l⟩
 rw[zD i]at h;by_cases p:k=3\/k=4\/k=8\/k=9
 .rw[zE p]at h;have:=zO h;exact⟨λx=>by omega,λ_=>this,λx=>by omega,λx=>by omega,g⟩
 rw[zD p]at h;by_cases r:k=5
 .rw[zE r]at h;have:=zO h;exact⟨λx=>by omega,λx=>by omega,λ_=>this,λx=>by omega,g⟩
 rw[zD r]at h;have:=zO h;exact⟨λ_=>this,λx=>by omega,λx=>by omega,λx=>zW x i,g⟩
def Ayn(w:List ByteArray)(row:Int)(g:w.length<=1000000)(J:∀s∈w,s.size<=40)(i:0<w.length)(o:Ea (A4 w 0)=1)(p:T8 1 w=true):Sp 74 [.sl 1 Ap w,Aa row] (.tup [Be (Dh w row).1,Aa (Dh w row).2]):=cT F74 ntmps74 λF hF=>by
 have P:(0:Int).toNat<w.length:=i;have f0:((w.length:Int)==0)=false:=by rw[zU];omega
 have jl:w[(0:Int).toNat]'P=A4 w 0:=(E9 i).symm;have R:Sp 137 [Ap (w[(0:Int).toNat]'P)] (Aa 1):=by
  have:=Lw (A4 w 0);rw[o]at this;rw[jl];exact this
 have qm:=Lv 1 qq w g;rw[p]at qm;have iq:=Ou p;have r:Dh w row=if Ca (C0 w row).2≠0 then (Ba,Ca (C0 w row).2) else ((C0 w row).1,0):=by
  rw[Dh,zD];rintro (j|j)
  .rw[j]at i;simp at i
  .rw[o,p]at j;cases j
 have l:=Hy _ (I3 w row);have hl:w.length=4:=iq.1 qq;have q1:=Kd w 1 (0:Int) j_ g J;obtain ⟨e1,fq⟩:∃e,Ay (0:Int) (!(A5 (A4 w 1))) 20=e:=⟨_,rfl⟩
 rw[fq]at q1;have q2:=fE w 2 e1 0 65535 j_ g;obtain ⟨e2,d5⟩:∃e,Ay e1 (!(Iq (A4 w 2) 0 65535).2) 21=e:=⟨_,rfl⟩
 rw[d5]at q2;have q3:=A97 w 3 e2 j_ g J;obtain ⟨e3,ic⟩:∃e,Ay e2 (Aqp (A4 w 3)) 21=e:=⟨_,rfl⟩
 rw[ic]at q3;have hR:C0 w row=({Ba with row:=row,kind:=1,q:=A4 w 1,num:=(Iq (A4 w 2) 0 65535).1,an:=(Sv (A4 w 3)).1},[((!(A5 (A4 w 1))),20),((!(Iq (A4 w 2) 0 65535).2),21),((Aqp (A4 w 3)),21)]):=by
  unfold C0;simp only[o];rfl
 rw[hR]at r l;have l:Ca _=e3:=l.trans (by
  show Ay (Ay (Ay ((0:Int)) (!(A5 (A4 w 1))) 20) (!(Iq (A4 w 2) 0 65535).2) 21) (Aqp (A4 w 3)) 21=_;rw[fq,d5,ic])
 rw[l]at r;rw[r];generalize e3=t at *;refine gB R F137 qm F136 ?_;refine C R F137 ?_;refine An 9 (Dl {Ba with row:=row,kind:=1}) rfl vL (T ?_);refine X (A1 [(0,31)] (A3 q_ q_ F138) q1 q_ W q_ V) ?_;refine X (Ad [(0,31)] q_ F140 q2 q_ W q_ V) ?_;refine X (Ad [(0,31)] q_ F141 q3 q_ W q_ V) ?_;cases hz:(t != 0)
 .have I:t=0:=by simpa using hz
  rw[zD (by rw[I];simp)];exact gA
 .have I:t≠0:=by simpa using hz
  rw[zE I];refine T ?_;exact An 4 (Dl Ba) q_ vL gA
def Ayl(w:List ByteArray)(row:Int)(g:w.length<=1000000)(i:∀s∈w,s.size<=40)(j:0<w.length)(p:Ea (A4 w 0)=3)(r:T8 3 w=true):Sp 74 [.sl 1 Ap w,Aa row] (.tup [Be (Dh w row).1,Aa (Dh w row).2]):=cT F74 ntmps74 λF hF=>by
 have P:(0:Int).toNat<w.length:=j;have f0:((w.length:Int)==0)=false:=by rw[zU];omega
 have jl:w[(0:Int).toNat]'P=A4 w 0:=(E9 j).symm;have R:Sp 137 [Ap (w[(0:Int).toNat]'P)] (Aa 3):=by
  have:=Lw (A4 w 0);rw[p]at this;rw[jl];exact this
 have qm:=Lv 3 qq w g;rw[r]at qm;have iq:=Ou r;have t:Dh w row=if Ca (C0 w row).2≠0 then (Ba,Ca (C0 w row).2) else ((C0 w row).1,0):=by
  rw[Dh,zD];rintro (l|l)
  .rw[l]at j;simp at j
  .rw[p,r]at l;cases l
 have o:=Hy _ (I3 w row);have hl:w.length=5:=iq.2.1 qq;have q1:=Kd w 1 (0:Int) j_ g i;obtain ⟨e1,fq⟩:∃e,Ay (0:Int) (!(A5 (A4 w 1))) 20=e:=⟨_,rfl⟩
 rw[fq]at q1;have q2:=Kd w 2 e1 j_ g i;obtain ⟨e2,d5⟩:∃e,Ay e1 (!(A5 (A4 w 2))) 20=e:=⟨_,rfl⟩
 rw[d5]at q2;have q3:=Kd w 3 e2 j_ g i;obtain ⟨e3,ic⟩:∃e,Ay e2 (!(A5 (A4 w 3))) 20=e:=⟨_,rfl⟩
 rw[ic]at q3;have q4:=Kd w 4 e3 j_ g i;obtain ⟨e4,mi⟩:∃e,Ay e3 (!(A5 (A4 w 4))) 20=e:=⟨_,rfl⟩
 rw[mi]at q4;have hR:C0 w row=({Ba with row:=row,kind:=3,q:=A4 w 1,ac:=A4 w 2,peer:=A4 w 3,bi:=A4 w 4},[((!(A5 (A4 w 1))),20),((!(A5 (A4 w 2))),20),((!(A5 (A4 w 3))),20),((!(A5 (A4 w 4))),20)]):=by
  unfold C0;simp only[p];rfl
 rw[hR]at t o;have o:Ca _=e4:=o.trans (by
  show Ay (Ay (Ay (Ay ((0:Int)) (!(A5 (A4 w 1))) 20) (!(A5 (A4 w 2))) 20) (!(A5 (A4 w 3))) 20) (!(A5 (A4 w 4))) 20=_;rw[fq,d5,ic,mi])
 rw[o]at t;rw[t];generalize e4=I at *;refine gB R F137 qm F136 ?_;refine C R F137 ?_;refine An 9 (Dl {Ba with row:=row,kind:=3}) rfl vL (T ?_);refine X (A1 [(0,31)] (A3 q_ q_ F138) q1 q_ W q_ V) ?_;refine X (A1 [(0,31)] (A3 q_ q_ F138) q2 q_ W q_ V) ?_;refine X (A1 [(0,31)] (A3 q_ q_ F138) q3 q_ W q_ V) ?_;refine X (A1 [(0,31)] (A3 q_ q_ F138) q4 q_ W q_ V) ?_;cases hz:(I != 0)
 .have J:I=0:=by simpa using hz
  rw[zD (by rw[J];simp)];exact gA
 .have J:I≠0:=by simpa using hz
  rw[zE J];refine T ?_;exact An 4 (Dl Ba) q_ vL gA
def Ayk(w:List ByteArray)(row:Int)(g:w.length<=1000000)(o:∀s∈w,s.size<=40)(i:0<w.length)(p:Ea (A4 w 0)=4)(r:T8 4 w=true):Sp 74 [.sl 1 Ap w,Aa row] (.tup [Be (Dh w row).1,Aa (Dh w row).2]):=cT F74 ntmps74 λF hF=>by
 have P:(0:Int).toNat<w.length:=i;have f0:((w.length:Int)==0)=false:=by rw[zU];omega
 have jl:w[(0:Int).toNat]'P=A4 w 0:=(E9 i).symm;have R:Sp 137 [Ap (w[(0:Int).toNat]'P)] (Aa 4):=by
  have:=Lw (A4 w 0);rw[p]at this;rw[jl];exact this
 have qm:=Lv 4 qq w g;rw[r]at qm;have iq:=Ou r;have t:Dh w row=if Ca (C0 w row).2≠0 then (Ba,Ca (C0 w row).2) else ((C0 w row).1,0):=by
  rw[Dh,zD];rintro (j|j)
  .rw[j]at i;simp at i
  .rw[p,r]at j;cases j
 have l:=Hy _ (I3 w row);have hl:w.length=5:=iq.2.1 qq;have q1:=Kd w 1 (0:Int) j_ g o;obtain ⟨e1,fq⟩:∃e,Ay (0:Int) (!(A5 (A4 w 1))) 20=e:=⟨_,rfl⟩
 rw[fq]at q1;have q2:=Aby w 2 e1 j_ g;obtain ⟨e2,d5⟩:∃e,Ay e1 (!(Ee (A4 w 2)).2) 21=e:=⟨_,rfl⟩
 rw[d5]at q2;have q3:=A97 w 3 e2 j_ g o;obtain ⟨e3,ic⟩:∃e,Ay e2 (Aqp (A4 w 3)) 21=e:=⟨_,rfl⟩
 rw[ic]at q3;have q4:=Kd w 4 e3 j_ g o;obtain ⟨e4,mi⟩:∃e,Ay e3 (!(A5 (A4 w 4))) 20=e:=⟨_,rfl⟩
 rw[mi]at q4;have hR:C0 w row=({Ba with row:=row,kind:=4,q:=A4 w 1,z:=(Ee (A4 w 2)).1,an:=(Sv (A4 w 3)).1,ac:=A4 w 4},[((!(A5 (A4 w 1))),20),((!(Ee (A4 w 2)).2),21),((Aqp (A4 w 3)),21),((!(A5 (A4 w 4))),20)]):=by
  unfold C0;simp only[p];rfl
 rw[hR]at t l;have l:Ca _=e4:=l.trans (by
  show Ay (Ay (Ay (Ay ((0:Int)) (!(A5 (A4 w 1))) 20) (!(Ee (A4 w 2)).2) 21) (Aqp (A4 w 3)) 21) (!(A5 (A4 w 4))) 20=_;rw[fq,d5,ic,mi])
 rw[l]at t;rw[t];generalize e4=I at *;refine gB R F137 qm F136 ?_;refine C R F137 ?_;refine An 9 (Dl {Ba with row:=row,kind:=4}) rfl vL (T ?_);refine X (A1 [(0,31)] (A3 q_ q_ F138) q1 q_ W q_ V) ?_;refine X (A1 [(0,31)] (A3 q_ q_ F139) q2 q_ W q_ V) ?_;refine X (Ad [(0,31)] q_ F141 q3 q_ W q_ V) ?_;refine X (A1 [(0,31)] (A3 q_ q_ F138) q4 q_ W q_ V) ?_;cases hz:(I != 0)
 .have J:I=0:=by simpa using hz
  rw[zD (by rw[J];simp)];exact gA
 .have J:I≠0:=by simpa using hz
  rw[zE J];refine T ?_;exact An 4 (Dl Ba) q_ vL gA
def Ayi(w:List ByteArray)(row:Int)(g:w.length<=1000000)(hs:∀s∈w,s.size<=40)(i:0<w.length)(o:Ea (A4 w 0)=6)(p:T8 6 w=true):Sp 74 [.sl 1 Ap w,Aa row] (.tup [Be (Dh w row).1,Aa (Dh w row).2]):=cT F74 ntmps74 λF hF=>by
 have J:(0:Int).toNat<w.length:=i;have f0:((w.length:Int)==0)=false:=by rw[zU];omega
 have jl:w[(0:Int).toNat]'J=A4 w 0:=(E9 i).symm;have P:Sp 137 [Ap (w[(0:Int).toNat]'J)] (Aa 6):=by
  have:=Lw (A4 w 0);rw[o]at this;rw[jl];exact this
 have R:=Lv 6 qq w g;rw[p]at R;have iq:=Ou p;have r:Dh w row=if Ca (C0 w row).2≠0 then (Ba,Ca (C0 w row).2) else ((C0 w row).1,0):=by
  rw[Dh,zD];rintro (j|j)
  .rw[j]at i;simp at i
  .rw[o,p]at j;cases j
 have l:=Hy _ (I3 w row);have hl:w.length=4:=iq.1 qq;have q1:=Kd w 1 (0:Int) j_ g hs;obtain ⟨e1,fq⟩:∃e,Ay (0:Int) (!(A5 (A4 w 1))) 20=e:=⟨_,rfl⟩
 rw[fq]at q1;have q2:=Aby w 2 e1 j_ g;obtain ⟨e2,d5⟩:∃e,Ay e1 (!(Ee (A4 w 2)).2) 21=e:=⟨_,rfl⟩
 rw[d5]at q2;have q3:=A96 w 3 e2 j_ g;obtain ⟨e3,ic⟩:∃e,Ay e2 (!(Ze (A4 w 3)).2) 21=e:=⟨_,rfl⟩
 rw[ic]at q3;have hR:C0 w row=({Ba with row:=row,kind:=6,q:=A4 w 1,z:=(Ee (A4 w 2)).1,num:=(Ze (A4 w 3)).1},[((!(A5 (A4 w 1))),20),((!(Ee (A4 w 2)).2),21),((!(Ze (A4 w 3)).2),21)]):=by
  unfold C0;simp only[o];rfl
 rw[hR]at r l;have l:Ca _=e3:=l.trans (by
  show Ay (Ay (Ay ((0:Int)) (!(A5 (A4 w 1))) 20) (!(Ee (A4 w 2)).2) 21) (!(Ze (A4 w 3)).2) 21=_;rw[fq,d5,ic])
 rw[l]at r;rw[r];generalize e3=t at *;refine gB P F137 R F136 ?_;refine C P F137 ?_;refine An 9 (Dl {Ba with row:=row,kind:=6}) rfl vL (T ?_);refine X (A1 [(0,31)] (A3 q_ q_ F138) q1 q_ W q_ V) ?_;refine X (A1 [(0,31)] (A3 q_ q_ F139) q2 q_ W q_ V) ?_;refine X (Ad [(0,31)] q_ F146 q3 q_ W q_ V) ?_;cases hz:(t != 0)
 .have I:t=0:=by simpa using hz
  rw[zD (by rw[I];simp)];exact gA
 .have I:t≠0:=by simpa using hz
  rw[zE I];refine T ?_;exact An 4 (Dl Ba) q_ vL gA
def Ayg(w:List ByteArray)(row:Int)(g:w.length<=1000000)(i:∀s∈w,s.size<=40)(j:0<w.length)(p:Ea (A4 w 0)=8)(r:T8 8 w=true):Sp 74 [.sl 1 Ap w,Aa row] (.tup [Be (Dh w row).1,Aa (Dh w row).2]):=cT F74 ntmps74 λF hF=>by
 have P:(0:Int).toNat<w.length:=j;have f0:((w.length:Int)==0)=false:=by rw[zU];omega
 have jl:w[(0:Int).toNat]'P=A4 w 0:=(E9 j).symm;have R:Sp 137 [Ap (w[(0:Int).toNat]'P)] (Aa 8):=by
  have:=Lw (A4 w 0);rw[p]at this;rw[jl];exact this
 have qm:=Lv 8 qq w g;rw[r]at qm;have iq:=Ou r;have t:Dh w row=if Ca (C0 w row).2≠0 then (Ba,Ca (C0 w row).2) else ((C0 w row).1,0):=by
  rw[Dh,zD];rintro (l|l)
  .rw[l]at j;simp at j
  .rw[p,r]at l;cases l
 have o:=Hy _ (I3 w row);have hl:w.length=5:=iq.2.1 qq;have q1:=Kd w 1 (0:Int) j_ g i;obtain ⟨e1,fq⟩:∃e,Ay (0:Int) (!(A5 (A4 w 1))) 20=e:=⟨_,rfl⟩
 rw[fq]at q1;have q2:=Kd w 2 e1 j_ g i;obtain ⟨e2,d5⟩:∃e,Ay e1 (!(A5 (A4 w 2))) 20=e:=⟨_,rfl⟩
 rw[d5]at q2;have q3:=Ahg w 3 e2 65535 j_ g i;obtain ⟨e3,ic⟩:∃e,Ay e2 (!(Hh 65535 (A4 w 3)).2) 21=e:=⟨_,rfl⟩
 rw[ic]at q3;have q4:=Ahg w 4 e3 65535 j_ g i;obtain ⟨e4,mi⟩:∃e,Ay e3 (!(Hh 65535 (A4 w 4)).2) 21=e:=⟨_,rfl⟩
 rw[mi]at q4;have hR:C0 w row=({Ba with row:=row,kind:=8,q:=A4 w 1,name:=A4 w 2,ak:=(Hh 65535 (A4 w 3)).1,am:=(Hh 65535 (A4 w 4)).1},[((!(A5 (A4 w 1))),20),((!(A5 (A4 w 2))),20),((!(Hh 65535 (A4 w 3)).2),21),((!(Hh 65535 (A4 w 4)).2),21)]):=by
  unfold C0;simp only[p];rfl
 rw[hR]at t o;have o:Ca _=e4:=o.trans (by
  show Ay (Ay (Ay (Ay ((0:Int)) (!(A5 (A4 w 1))) 20) (!(A5 (A4 w 2))) 20) (!(Hh 65535 (A4 w 3)).2) 21) (!(Hh 65535 (A4 w 4)).2) 21=_;rw[fq,d5,ic,mi])
 rw[o]at t;rw[t];generalize e4=I at *;refine gB R F137 qm F136 ?_;refine C R F137 ?_;refine An 9 (Dl {Ba with row:=row,kind:=8}) rfl vL (T ?_);refine X (A1 [(0,31)] (A3 q_ q_ F138) q1 q_ W q_ V) ?_;refine X (A1 [(0,31)] (A3 q_ q_ F138) q2 q_ W q_ V) ?_;refine X (Ad [(0,31)] q_ F148 q3 q_ W q_ V) ?_;refine X (Ad [(0,31)] q_ F148 q4 q_ W q_ V) ?_;cases hz:(I != 0)
 .have J:I=0:=by simpa using hz
  rw[zD (by rw[J];simp)];exact gA
 .have J:I≠0:=by simpa using hz
  rw[zE J];refine T ?_;exact An 4 (Dl Ba) q_ vL gA
def Ayj(w:List ByteArray)(row:Int)(P:w.length<=1000000)(hs:∀s∈w,s.size<=40)(p:0<w.length)(R:Ea (A4 w 0)=5)(cn:T8 5 w=true):Sp 74 [.sl 1 Ap w,Aa row] (.tup [Be (Dh w row).1,Aa (Dh w row).2]):=cT F74 ntmps74 λF hF=>by
 have ey:(0:Int).toNat<w.length:=p;have f0:((w.length:Int)==0)=false:=by rw[zU];omega
 have jl:w[(0:Int).toNat]'ey=A4 w 0:=(E9 p).symm;have r:Sp 137 [Ap (w[(0:Int).toNat]'ey)] (Aa 5):=by
  have:=Lw (A4 w 0);rw[R]at this;rw[jl];exact this
 have qm:=Lv 5 qq w P;rw[cn]at qm;have iq:=Ou cn;have t:Dh w row=if Ca (C0 w row).2≠0 then (Ba,Ca (C0 w row).2) else ((C0 w row).1,0):=by
  rw[Dh,zD];rintro (I|I)
  .rw[I]at p;simp at p
  .rw[R,cn]at I;cases I
 have l:=Hy _ (I3 w row);have hl:w.length=3:=iq.2.2.1 rfl;have q1:=Kd w 1 (0:Int) j_ P hs;obtain ⟨J,fq⟩:∃e,Ay (0:Int) (!(A5 (A4 w 1))) 20=e:=⟨_,rfl⟩
 rw[fq]at q1;have qn:=Xb w 2 J j_ P;have az:(A4 w 2).size<=40:=by rw[E9 (by omega:2<w.length)];exact hs _ (zI _)
 have qa:=Ae6 (A4 w 2) j_;have g:=O6 w 3 J (!((H7 (A4 w 2)).2&&decide ((H7 (A4 w 2)).1≠0))) 21;obtain ⟨e2,d5⟩:∃e,Ay J (!((H7 (A4 w 2)).2&&decide ((H7 (A4 w 2)).1≠0))) 21=e:=⟨_,rfl⟩
 rw[d5]at g;have hR:C0 w row=({Ba with row:=row,kind:=5,q:=A4 w 1,addr:=(H7 (A4 w 2)).1},[((!(A5 (A4 w 1))),20),((!((H7 (A4 w 2)).2&&decide ((H7 (A4 w 2)).1≠0))),21)]):=by
  unfold C0;simp only[R];rfl
 rw[hR]at t l;have l:Ca _=e2:=l.trans (by
  show Ay (Ay ((0:Int)) (!(A5 (A4 w 1))) 20) (!((H7 (A4 w 2)).2 && decide ((H7 (A4 w 2)).1≠0))) 21=_;rw[fq,d5])
 rw[l]at t;rw[t];generalize e2=i at *;clear hR t l d5;generalize H7 (A4 w 2)=rt at *;obtain ⟨av,ok⟩:=rt;dsimp only at qa g|-;cases ok
 .have g:Sq 142 [.ptr 0 0,Ab true,Aa 21] (aR w 3 J) (.tup []) (aR w 3 i):=g;refine gB r F137 qm F136 ?_;refine C r F137 ?_;refine An 9 (Dl {Ba with row:=row,kind:=5}) rfl vL (T ?_);refine X (A1 [(0,31)] (A3 q_ q_ F138) q1 q_ W q_ V) ?_;refine X (Ad [(0,31)] q_ F145 qn q_ W q_ V) ?_;refine C qa F144 ?_;refine X (Ad [(0,31)] q_ F142 g q_ W q_ V) ?_;cases o:(i != 0)
  .have j:i=0:=by simpa using o
   rw[zD (by rw[j];simp)];exact gA
  .have j:i≠0:=by simpa using o
   rw[zE j];refine T ?_;exact An 4 (Dl Ba) q_ vL gA
 .have hb:(!(true&&decide (av≠0)))=(av==0):=by
   by_cases h:av=0
   .rw[h];rfl
   .rw[zL h,zU.2 h];rfl
  rw[hb]at g;refine gB r F137 qm F136 ?_;refine C r F137 ?_;refine An 9 (Dl {Ba with row:=row,kind:=5}) rfl vL (T ?_);refine X (A1 [(0,31)] (A3 q_ q_ F138) q1 q_ W q_ V) ?_;refine X (Ad [(0,31)] q_ F145 qn q_ W q_ V) ?_;refine C qa F144 ?_;refine X (Ad [(0,31)] q_ F142 g q_ W q_ V) ?_;cases o:(i != 0)
  .have j:i=0:=by simpa using o
   rw[zD (by rw[j];simp)];exact gA
  .have j:i≠0:=by simpa using o
   rw[zE j];refine T ?_;exact An 4 (Dl Ba) q_ vL gA
def Ayh(w:List ByteArray)(row:Int)(p:w.length<=1000000)(hs:∀s∈w,s.size<=40)(t:0<w.length)(hk:Ea (A4 w 0)=7)(cn:T8 7 w=true):Sp 74 [.sl 1 Ap w,Aa row] (.tup [Be (Dh w row).1,Aa (Dh w row).2]):=cT F74 ntmps74 λF hF=>by
 have ey:(0:Int).toNat<w.length:=t;have f0:((w.length:Int)==0)=false:=by rw[zU];omega
 have jl:w[(0:Int).toNat]'ey=A4 w 0:=(E9 t).symm;have I:Sp 137 [Ap (w[(0:Int).toNat]'ey)] (Aa 7):=by
  have:=Lw (A4 w 0);rw[hk]at this;rw[jl];exact this
 have qm:=Lv 7 qq w p;rw[cn]at qm;have iq:=Ou cn;have J:Dh w row=if Ca (C0 w row).2≠0 then (Ba,Ca (C0 w row).2) else ((C0 w row).1,0):=by
  rw[Dh,zD];rintro (P|P)
  .rw[P]at t;simp at t
  .rw[hk,cn]at P;cases P
 have l:=Hy _ (I3 w row);have hl:w.length=4:=iq.1 qq;have q1:=Kd w 1 (0:Int) j_ p hs;obtain ⟨e1,fq⟩:∃e,Ay (0:Int) (!(A5 (A4 w 1))) 20=e:=⟨_,rfl⟩
 rw[fq]at q1;have q2:=A96 w 2 e1 j_ p;obtain ⟨R,d5⟩:∃e,Ay e1 (!(Ze (A4 w 2)).2) 21=e:=⟨_,rfl⟩
 rw[d5]at q2;have qn:=Xb w 3 R j_ p;have az:(A4 w 3).size<=40:=by rw[E9 (by omega:3<w.length)];exact hs _ (zI _)
 have qa:=Alx (A4 w 3) j_;have gi:(Io (A4 w 3)).2=true->0<(Io (A4 w 3)).1.length:=λh=>by
  have hp:=Ahh h;rw[Io,L5]at hp|-;have:=(Yw _ _ _ _ hp List.Pairwise.nil qq).2.2.1;rw[this,Ly];simp
 have g:=O6 w 4 R (!((Io (A4 w 3)).2&&decide ((Io (A4 w 3)).1.head? ≠ some 0))) 21;obtain ⟨e3,ic⟩:∃e,Ay R (!((Io (A4 w 3)).2&&decide ((Io (A4 w 3)).1.head? ≠ some 0))) 21=e:=⟨_,rfl⟩
 rw[ic]at g;have hR:C0 w row=({Ba with row:=row,kind:=7,q:=A4 w 1,num:=(Ze (A4 w 2)).1,aa:=(Io (A4 w 3)).1},[((!(A5 (A4 w 1))),20),((!(Ze (A4 w 2)).2),21),((!((Io (A4 w 3)).2&&decide ((Io (A4 w 3)).1.head? ≠ some 0))),21)]):=by
  unfold C0;simp only[hk];rfl
 rw[hR]at J l;have l:Ca _=e3:=l.trans (by
  show Ay (Ay (Ay ((0:Int)) (!(A5 (A4 w 1))) 20) (!(Ze (A4 w 2)).2) 21) (!((Io (A4 w 3)).2 && decide ((Io (A4 w 3)).1.head? ≠ some 0))) 21=_;rw[fq,d5,ic])
 rw[l]at J;rw[J];generalize e3=i at *;clear hR J l ic;generalize Io (A4 w 3)=rt at *;obtain ⟨av,ok⟩:=rt;dsimp only at qa g gi|-;cases ok
 .have g:Sq 142 [.ptr 0 0,Ab true,Aa 21] (aR w 4 R) (.tup []) (aR w 4 i):=g;refine gB I F137 qm F136 ?_;refine C I F137 ?_;refine An 9 (Dl {Ba with row:=row,kind:=7}) rfl vL (T ?_);refine X (A1 [(0,31)] (A3 q_ q_ F138) q1 q_ W q_ V) ?_;refine X (Ad [(0,31)] q_ F146 q2 q_ W q_ V) ?_;refine X (Ad [(0,31)] q_ F145 qn q_ W q_ V) ?_;refine C qa F147 ?_;refine X (Ad [(0,31)] q_ F142 g q_ W q_ V) ?_;cases o:(i != 0)
  .have j:i=0:=by simpa using o
   rw[zD (by rw[j];simp)];exact gA
  .have j:i≠0:=by simpa using o
   rw[zE j];refine T ?_;exact An 4 (Dl Ba) q_ vL gA
 .have h0:(0:Int).toNat<av.length:=gi rfl;have hb:(!(true&&decide (av.head? ≠ some 0)))=(av[(0:Int).toNat]'h0==0):=by
   cases av with
   |nil=>exact zW h0 qx
   |cons a r=>
    show (!(true&&decide (some a≠some 0)))=(a==0);by_cases h:a=0
    .rw[h];rfl
    .rw[zU.2 h,zL (kS h)];rfl
  rw[hb]at g;refine gB I F137 qm F136 ?_;refine C I F137 ?_;refine An 9 (Dl {Ba with row:=row,kind:=7}) rfl vL (T ?_);refine X (A1 [(0,31)] (A3 q_ q_ F138) q1 q_ W q_ V) ?_;refine X (Ad [(0,31)] q_ F146 q2 q_ W q_ V) ?_;refine X (Ad [(0,31)] q_ F145 qn q_ W q_ V) ?_;refine C qa F147 ?_;refine X (Ad [(0,31)] q_ F142 g q_ W q_ V) ?_;cases o:(i != 0)
  .have j:i=0:=by simpa using o
   rw[zD (by rw[j];simp)];exact gA
  .have j:i≠0:=by simpa using o
   rw[zE j];refine T ?_;exact An 4 (Dl Ba) q_ vL gA
def Ap9(s:ByteArray):∃m:Nat,(Dt s).1.1=m/\m<4294967296:=by
 rw[Dt];split
 .exact⟨0,q_,by decide⟩
 .have g:=Uh (Ib 47 s).1;have i:=aP (Ib 47 s).1;exact⟨(H7 (Ib 47 s).1).1.toNat,(yQ g).symm,by omega⟩
def Ayf(w:List ByteArray)(row:Int)(l:w.length<=1000000)(R:∀s∈w,s.size<=40)(r:0<w.length)(hk:Ea (A4 w 0)=9)(cn:T8 9 w=true):Sp 74 [.sl 1 Ap w,Aa row] (.tup [Be (Dh w row).1,Aa (Dh w row).2]):=cT F74 ntmps74 λF hF=>by
 have ey:(0:Int).toNat<w.length:=r;have f0:((w.length:Int)==0)=false:=by rw[zU];omega
 have jl:w[(0:Int).toNat]'ey=A4 w 0:=(E9 r).symm;have t:Sp 137 [Ap (w[(0:Int).toNat]'ey)] (Aa 9):=by
  have:=Lw (A4 w 0);rw[hk]at this;rw[jl];exact this
 have qm:=Lv 9 qq w l;rw[cn]at qm;have iq:=Ou cn;have I:Dh w row=if Ca (C0 w row).2≠0 then (Ba,Ca (C0 w row).2) else ((C0 w row).1,0):=by
  rw[Dh,zD];rintro (J|J)
  .rw[J]at r;simp at r
  .rw[hk,cn]at J;cases J
 have o:=Hy _ (I3 w row);have hl:w.length=5:=iq.2.1 qq;have q1:=Kd w 1 (0:Int) j_ l R;obtain ⟨e1,fq⟩:∃e,Ay (0:Int) (!(A5 (A4 w 1))) 20=e:=⟨_,rfl⟩
 rw[fq]at q1;have q2:=Aby w 2 e1 j_ l;obtain ⟨e2,d5⟩:∃e,Ay e1 (!(Ee (A4 w 2)).2) 21=e:=⟨_,rfl⟩
 rw[d5]at q2;have q3:=Kd w 3 e2 j_ l R;obtain ⟨P,ic⟩:∃e,Ay e2 (!(A5 (A4 w 3))) 20=e:=⟨_,rfl⟩
 rw[ic]at q3;have qn:=Xb w 4 P j_ l;have az:(A4 w 4).size<=40:=by rw[E9 (by omega:4<w.length)];exact R _ (zI _)
 have qa:=Aw7 (A4 w 4) j_;have a0:=Ap9 (A4 w 4);have g:=O6 w 5 P (!((Dt (A4 w 4)).2&&K4 (Dt (A4 w 4)).1.1 (Dt (A4 w 4)).1.2)) 21;obtain ⟨e4,mi⟩:∃e,Ay P (!((Dt (A4 w 4)).2&&K4 (Dt (A4 w 4)).1.1 (Dt (A4 w 4)).1.2)) 21=e:=⟨_,rfl⟩
 rw[mi]at g;have hR:C0 w row=({Ba with row:=row,kind:=9,q:=A4 w 1,z:=(Ee (A4 w 2)).1,name:=A4 w 3,addr:=(Dt (A4 w 4)).1.1,bits:=(Dt (A4 w 4)).1.2},[((!(A5 (A4 w 1))),20),((!(Ee (A4 w 2)).2),21),((!(A5 (A4 w 3))),20),((!((Dt (A4 w 4)).2&&K4 (Dt (A4 w 4)).1.1 (Dt (A4 w 4)).1.2)),21)]):=by
  unfold C0;simp only[hk];rfl
 rw[hR]at I o;have o:Ca _=e4:=o.trans (by
  show Ay (Ay (Ay (Ay ((0:Int)) (!(A5 (A4 w 1))) 20) (!(Ee (A4 w 2)).2) 21) (!(A5 (A4 w 3))) 20) (!((Dt (A4 w 4)).2 && K4 (Dt (A4 w 4)).1.1 (Dt (A4 w 4)).1.2)) 21=_;rw[fq,d5,ic,mi])
 rw[o]at I;rw[I];generalize e4=i at *;clear hR I o mi;obtain ⟨m,bq,bx⟩:=a0;generalize Dt (A4 w 4)=rt at *;obtain ⟨⟨av,bv⟩,ok⟩:=rt;dsimp only at qa g bq|-;subst bq;have qs:=Afd m bv bx;generalize K4 (m:Int) bv=sb at *;cases ok
 .have g:Sq 142 [.ptr 0 0,Ab true,Aa 21] (aR w 5 P) (.tup []) (aR w 5 i):=g;refine gB t F137 qm F136 ?_;refine C t F137 ?_;refine An 9 (Dl {Ba with row:=row,kind:=9}) rfl vL (T ?_);refine X (A1 [(0,31)] (A3 q_ q_ F138) q1 q_ W q_ V) ?_;refine X (A1 [(0,31)] (A3 q_ q_ F139) q2 q_ W q_ V) ?_;refine X (A1 [(0,31)] (A3 q_ q_ F138) q3 q_ W q_ V) ?_;refine X (Ad [(0,31)] q_ F145 qn q_ W q_ V) ?_;refine C qa F149 ?_;refine X (Ad [(0,31)] q_ F142 g q_ W q_ V) ?_;cases p:(i != 0)
  .have j:i=0:=by simpa using p
   rw[zD (by rw[j];simp)];exact gA
  .have j:i≠0:=by simpa using p
   rw[zE j];refine T ?_;exact An 4 (Dl Ba) q_ vL gA
 .have hb:(!(true&&sb))=!sb:=rfl;rw[hb]at g;refine gB t F137 qm F136 ?_;refine C t F137 ?_;refine An 9 (Dl {Ba with row:=row,kind:=9}) rfl vL (T ?_);refine X (A1 [(0,31)] (A3 q_ q_ F138) q1 q_ W q_ V) ?_;refine X (A1 [(0,31)] (A3 q_ q_ F139) q2 q_ W q_ V) ?_;refine X (A1 [(0,31)] (A3 q_ q_ F138) q3 q_ W q_ V) ?_;refine X (Ad [(0,31)] q_ F145 qn q_ W q_ V) ?_;refine gN qa F149 qs F150 ?_;refine X (Ad [(0,31)] q_ F142 g q_ W q_ V) ?_;cases p:(i != 0)
  .have j:i=0:=by simpa using p
   rw[zD (by rw[j];simp)];exact gA
  .have j:i≠0:=by simpa using p
   rw[zE j];refine T ?_;exact An 4 (Dl Ba) q_ vL gA
def Aym(w:List ByteArray)(row:Int)(p:w.length<=1000000)(hs:∀s∈w,s.size<=40)(J:0<w.length)(hk:Ea (A4 w 0)=2)(P:T8 2 w=true):Sp 74 [.sl 1 Ap w,Aa row] (.tup [Be (Dh w row).1,Aa (Dh w row).2]):=cT F74 ntmps74 λF hF=>by
 have ey:(0:Int).toNat<w.length:=J;have f0:((w.length:Int)==0)=false:=by rw[zU];omega
 have jl:w[(0:Int).toNat]'ey=A4 w 0:=(E9 J).symm;have R:Sp 137 [Ap (w[(0:Int).toNat]'ey)] (Aa 2):=by
  have:=Lw (A4 w 0);rw[hk]at this;rw[jl];exact this
 have qm:=Lv 2 qq w p;rw[P]at qm;have iq:=Ou P;have dz:Dh w row=if Ca (C0 w row).2≠0 then (Ba,Ca (C0 w row).2) else ((C0 w row).1,0):=by
  rw[Dh,zD];rintro (hh|hh)
  .rw[hh]at J;simp at J
  .rw[hk,P]at hh;cases hh
 have r:=Hy _ (I3 w row);have hl:6<=w.length/\w.length<=7/\(A4 w 4=Kj->w.length=7):=iq.2.2.2.1 rfl;have q1:=Kd w 1 (0:Int) j_ p hs;obtain ⟨e1,fq⟩:∃e,Ay (0:Int) (!(A5 (A4 w 1))) 20=e:=⟨_,rfl⟩
 rw[fq]at q1;have q2:=Kd w 2 e1 j_ p hs;obtain ⟨e2,d5⟩:∃e,Ay e1 (!(A5 (A4 w 2))) 20=e:=⟨_,rfl⟩
 rw[d5]at q2;have q3:=fE w 3 e2 1 65535 j_ p;obtain ⟨e3,ic⟩:∃e,Ay e2 (!(Iq (A4 w 3) 1 65535).2) 21=e:=⟨_,rfl⟩
 rw[ic]at q3;have i:=O6 w 4 e3 (decide (A4 w 4≠Lg)&&decide (A4 w 4≠Kj)) 20;obtain ⟨e4,mi⟩:∃e,Ay e3 (decide (A4 w 4≠Lg)&&decide (A4 w 4≠Kj)) 20=e:=⟨_,rfl⟩
 rw[mi]at i;have qp:=Ben w e4 { Ba with row:=row,kind:=2,q:=A4 w 1,ac:=A4 w 2,aj:=(Iq (A4 w 3) 1 65535).1 } p hs j_ (λ x=>by
  have h6:w.length=6:=by
   have t:=P;rw[T8,zD qq,zE rfl,zD j_,zE x]at t;exact zO t
  omega) (λ x=>by have:=hl.2.2 x;omega) ⟨rfl,rfl⟩
 have hR:C0 w row=({ Ba with row:=row,kind:=2,q:=A4 w 1,ac:=A4 w 2,aj:=(Iq (A4 w 3) 1 65535).1,z:=(If w).1,u:=(If w).2.1 },
   [((!(A5 (A4 w 1))),20),((!(A5 (A4 w 2))),20),((!(Iq (A4 w 3) 1 65535).2),21),((decide (A4 w 4≠Lg) && decide (A4 w 4≠Kj)),20)]++(If w).2.2++[(!(Cs (If w).1 (If w).2.1),21)]):=by
  unfold C0;simp only[hk];rfl
 rw[hR]at dz r;have r:Ca _=Ud e4 ((If w).2.2++[(!(Cs (If w).1 (If w).2.1),21)]):=r.trans (by
  rw[fR,fR,fR];congr 2;show Ay (Ay (Ay (Ay ((0:Int)) (!(A5 (A4 w 1))) 20) (!(A5 (A4 w 2))) 20) (!(Iq (A4 w 3) 1 65535).2) 21) (decide (A4 w 4≠Lg) && decide (A4 w 4≠Kj)) 20=_;rw[fq,d5,ic,mi])
 rw[r]at dz;rw[dz];clear hR dz r mi;dsimp only at qp|-;generalize Ud e4 ((If w).2.2++[(!(Cs (If w).1 (If w).2.1),21)])=o at *;generalize If w=pr at *;have g:(4:Int).toNat<w.length:=by show 4<w.length;omega
 have j:w[(4:Int).toNat]'g=A4 w 4:=(E9 j_).symm;by_cases ca:A4 w 4=Lg
 .have g1:(!(w[(4:Int).toNat]'g==(⟨#[97,99,99,101,115,115]⟩:ByteArray)))=false:=Ahq (by rw[j];exact ca);have i:Sq 142 [.ptr 0 0,Ab false,Aa 20] (aR w 4 e3) (.tup []) (aR w 4 e4):=by
   rw[zJ (λx=>x ca)]at i;exact i
  refine gB R F137 qm F136 ?_;refine C R F137 ?_;refine An 9 (Dl {Ba with row:=row,kind:=2}) rfl vL (T ?_);refine X (A1 [(0,31)] (A3 q_ q_ F138) q1 q_ W q_ V) ?_;refine X (A1 [(0,31)] (A3 q_ q_ F138) q2 q_ W q_ V) ?_;refine X (Ad [(0,31)] q_ F140 q3 q_ W q_ V) ?_;refine X (Ad [(0,31)] q_ F142 i q_ W q_ V) ?_;refine X (Ad [(0,31),(1,9)] q_ F143 qp q_ W q_ V) ?_;cases I:(o != 0)
  .have l:o=0:=by simpa using I
   rw[zD (by rw[l];simp)];exact gA
  .have l:o≠0:=by simpa using I
   rw[zE l];refine T ?_;exact An 4 (Dl Ba) q_ vL gA
 .have g1:(!(w[(4:Int).toNat]'g==(⟨#[97,99,99,101,115,115]⟩:ByteArray)))=true:=Arw (by rw[j];exact ca);have hb:(decide (A4 w 4≠Lg)&&decide (A4 w 4≠Kj))=!(w[(4:Int).toNat]'g==(⟨#[116,114,117,110,107]⟩:ByteArray)):=by
   rw[zL ca,yB,j];show decide (A4 w 4≠Kj)=!(A4 w 4==Kj);by_cases cr:A4 w 4=Kj
   .rw[Ahq cr,zJ (λx:A4 w 4≠Kj=>x cr)]
   .rw[Arw cr,zL cr]
  rw[hb]at i;refine gB R F137 qm F136 ?_;refine C R F137 ?_;refine An 9 (Dl {Ba with row:=row,kind:=2}) rfl vL (T ?_);refine X (A1 [(0,31)] (A3 q_ q_ F138) q1 q_ W q_ V) ?_;refine X (A1 [(0,31)] (A3 q_ q_ F138) q2 q_ W q_ V) ?_;refine X (Ad [(0,31)] q_ F140 q3 q_ W q_ V) ?_;refine X (Ad [(0,31)] q_ F142 i q_ W q_ V) ?_;refine X (Ad [(0,31),(1,9)] q_ F143 qp q_ W q_ V) ?_;cases I:(o != 0)
  .have l:o=0:=by simpa using I
   rw[zD (by rw[l];simp)];exact gA
  .have l:o≠0:=by simpa using I
   rw[zE l];refine T ?_;exact An 4 (Dl Ba) q_ vL gA
def A4v(w:List ByteArray)(row:Int)(j:w.length<=1000000)(l:∀s∈w,s.size<=40):Sp 74 [.sl 1 Ap w,Aa row] (.tup [Be (Dh w row).1,Aa (Dh w row).2]):=by
 by_cases i:0<w.length
 .cases g:T8 (Ea (A4 w 0)) w with
  |true=>
   have R:=Af5 (A4 w 0);have h0:=(Ou g).2.2.2.2;rcases (by omega:Ea (A4 w 0)=1\/Ea (A4 w 0)=2\/Ea (A4 w 0)=3\/Ea (A4 w 0)=4\/Ea (A4 w 0)=5\/Ea (A4 w 0)=6\/Ea (A4 w 0)=7\/Ea (A4 w 0)=8\/Ea (A4 w 0)=9) with h|h|h|h|h|h|h|h|h
   .exact Ayn w row j l i h (by rw[h]at g;exact g)
   .exact Aym w row j l i h (by rw[h]at g;exact g)
   .exact Ayl w row j l i h (by rw[h]at g;exact g)
   .exact Ayk w row j l i h (by rw[h]at g;exact g)
   .exact Ayj w row j l i h (by rw[h]at g;exact g)
   .exact Ayi w row j l i h (by rw[h]at g;exact g)
   .exact Ayh w row j l i h (by rw[h]at g;exact g)
   .exact Ayg w row j l i h (by rw[h]at g;exact g)
   .exact Ayf w row j l i h (by rw[h]at g;exact g)
  |false=>
   have o:Dh w row=(Ba,22):=by rw[Dh,zE (.inr g)]
   rw[o];refine Y7 Γ hm 100 F74 ntmps74 q_ λF t=>by
    have p:(0:Int).toNat<w.length:=i;have f0:((w.length:Int)==0)=false:=by rw[zU];omega
    have I:w[(0:Int).toNat]'p=A4 w 0:=(E9 i).symm;have J:Sp 137 [Ap (w[(0:Int).toNat]'p)] (Aa (Ea (A4 w 0))):=by
     rw[I];exact Lw (A4 w 0)
    have r:=Lv (Ea (A4 w 0)) (Af5 _) w j;rw[g]at r;refine gB J F137 r F136 ?_;exact An 4 (Dl Ba) q_ vL gA
 .have P:w=[]:=yF j_;subst P;have o:Dh [] row=(Ba,22):=by rw[Dh,zE (.inl rfl)]
  rw[o];refine Y7 Γ hm 100 F74 ntmps74 q_ λF t=>by
   refine T ?_;exact An 4 (Dl Ba) q_ vL gA
def Aln(i g:Addr)(e:Int)(x:Value)(u:FrameMode)(w:World)(l:w.cell? i=some (.int .i64 e))(o:w.cell? g=some x)(p:w.frozen? g=false):CallsD prog 73 #[.pointer (some i),.pointer (some g)] u w λr j w'=>j=u/\(r=.returned (.tuple #[])/\w'=if e=0 then w else w.setCell g (.slice none 0 0)):=by
 by_cases h:e=0
 .subst h
  go_enter_d func73,ntmps73
  go_wp2
  go_end0
  exact⟨q_,by simp⟩
 .rw[zD h]
  go_enter_d func73,ntmps73
  go_wp2
  go_end0
  exact⟨q_,q_⟩
def Bab{a0' a:Ka}{w0 w:World}{k:Nat}{v:Value}{l:List SV}(g:Rd a0' w0 (.ptr k 0) v)(j:a0' k≠.new->a k=a0' k\/a k=.dead)(o:B3 a w k (.box l)):∃b,a k=.blk b/\v=.pointer (some ⟨b,0,none⟩):=by
 obtain ⟨b,cs,T,r,i,_⟩:=o;refine⟨b,i,?_⟩;have p:a0' k≠.new:=λe=>by simp only[Rd,e]at g
 rcases j p with h|h
 .rw[i]at h;simp only[Rd,<-h]at g;exact g
 .rw[i]at h;cases h
def Bed{F F2:Fr}{n:Nat}{bn:List Nat}{J:∀k,F2.k0 k≠.new->k∈bn}{k:List KI}{s:SS}{L:List A2}{row e:Int}{cv:List Value}(hd:F2.ds=[⟨.fn (.func 73) cv.toArray,#[]⟩])(o0:B8 F2.k0 F2.w0 [.ptr 4 0,.ptr 2 0] cv)(cu:∀m w,bG F2 m w->bG F m w)(h2:s.h 2=.box [.sl 17 Be L])(R:s.h 4=.box [Aa e])(h3:s.σ 3=Aa row)(p2:s.σ 2=.ptr 2 0)(p4:s.σ 4=.ptr 4 0):G ⟨l,Γ.toTy,F2,n,A30 l Tryz.f38 F (.tup [.sl 17 Be (if e=0 then L else []),Aa row,Aa e]) [],bn,J⟩ (.code .ret::k) s:=by
 refine Bgz λm a w g=>?_
 have o2:=g.obj 2;rw[h2]at o2;have o4:=g.obj 4;rw[R]at o4;simp only[B8]at o0;obtain ⟨v4,r4,rfl,a0,v2,r2,rfl,mh,rfl⟩:=o0;obtain ⟨b4,k4,rfl⟩:=Bab a0 (g.ctx.cc 4) o4;obtain ⟨b2,k2,rfl⟩:=Bab mh (g.ctx.cc 2) o2;obtain ⟨a1,e1,c1,c2,st1,o,xe⟩:=H9 (off:=0) (x:=Jl) (v:=.slice none 0 0) g.inv o2 rfl (λm w=>by simp only[Rd]) rfl;have xe:B3 m (w.setCell ⟨a1,0,none⟩ (.slice none 0 0)) 2 (.box [.sl 17 Be []]):=by
  obtain ⟨b,cs,T,fr,f1,f2,f3,f4,f5⟩:=xe;refine⟨b,cs,T,fr,f1,f2,f3,f4,?_⟩;have f5:B8 m _ [Jl] cs:=f5;simp only[B8,Rd]at f5|-;obtain ⟨v,r,rfl,rfl,rfl⟩:=f5;exact⟨_,_,q_,by simp[D3],q_⟩
 rw[k2]at e1;cases e1;obtain ⟨a4,e4,d1,_,_,_,_⟩:=H9 (off:=0) (x:=Aa e) (v:=.int .i64 e) g.inv o4 rfl (λm w=>by simp[Rd,Aa]) rfl;rw[k4]at e4;cases e4;obtain ⟨u4,a2,a3⟩:=d1 0 (Aa e) rfl;have t:u4=.int .i64 e:=by simpa [Aa,Rd] using a3
 subst t;obtain ⟨u2,rz,_⟩:=c1 0 _ rfl;show Leaves l Tryz.f38 a.tmps _ a.defers .returning w;rw[g.defers,hd];refine leaves_cons (f:=73) (args:=#[.pointer (some ⟨b4,0,none⟩),.pointer (some ⟨b2,0,none⟩)]) qx (by simp[go_sem]) ?_;refine(Aln ⟨b4,0,none⟩ ⟨b2,0,none⟩ e u2 .returning w a2 rz (c2 0 qx)).mono ?_;rintro r u' y9 ⟨rfl,rfl,rfl⟩;by_cases I:e=0
 .rw[zE I,zE I];obtain ⟨v,g1,g2⟩:=cF (P:=l) (Γ:=Γ.toTy) g (fn:=Tryz.f38) (xs:=[.sl 17 Be L,Aa row,Aa e]) rfl (.cons (.cell p2 h2 rfl rfl) (.cons (h3▸.tmp) (.cons (.cell p4 R rfl rfl) .nil)));exact⟨v,g1,v,m,rfl,cu _ _ g.ctx,g.inv,g2,λp hp=>by cases hp⟩
 .rw[zD I,zD I];have m6:St F2 n ⟨s.σ,upd s.h 2 (.box [.sl 17 Be []])⟩ m a (w.setCell ⟨b2,0,none⟩ (.slice none 0 0)):=⟨g.defers,g.size,o,g.ctx.step o st1,λ i=>Rd.step st1 _ _ (g.ax i),λ j=>by
   show B3 m _ j (upd s.h 2 _ j);by_cases hj:j=2
   .subst hj;exact xe
   .have:upd s.h 2 (.box [.sl 17 Be []]) j=s.h j:=by
     simp only[upd];have:Nat.beq j 2=false:=by
      cases hb:Nat.beq j 2
      .rfl
      .exact zW (yN hb) hj
     rw[this];rfl
    rw[this];exact B3.step st1 (show ¬ j=2 from hj) _ (g.obj j)⟩
  obtain ⟨v,g1,g2⟩:=cF (P:=l) (Γ:=Γ.toTy) m6 (fn:=Tryz.f38) (xs:=[.sl 17 Be [],Aa row,Aa e]) rfl (.cons (.cell p2 rfl rfl rfl) (.cons (h3▸.tmp) (.cons (.cell p4 R rfl rfl) .nil)));exact⟨v,g1,v,m,rfl,cu _ _ m6.ctx,o,g2,λp hp=>by cases hp⟩
def Abf{F F2:Fr}{n:Nat}{i:List Nat}{g:∀k,F2.k0 k≠.new->k∈i}{k:List KI}{s:SS}{L j:List A2}{row e:Int}{l:List Value}(o:F2.ds=[⟨.fn (.func 73) l.toArray,#[]⟩])(p:B8 F2.k0 F2.w0 [.ptr 4 0,.ptr 2 0] l)(r:∀a w,bG F2 a w->bG F a w)(t:(if e=0 then L else [])=j)(I:s.h 2=.box [.sl 17 Be L])(J:s.h 4=.box [Aa e])(P:s.σ 3=Aa row)(R:s.σ 2=.ptr 2 0)(p4:s.σ 4=.ptr 4 0):G ⟨prog,Γ.toTy,F2,n,A30 prog Tryz.f38 F (.tup [.sl 17 Be j,Aa row,Aa e]) [],i,g⟩ (.code .ret::k) s:=by
 subst t;exact Bed o p r I J P R p4
def bY:∀(l i:List UInt8),∀s∈Dd i l,s.size<=i.length+l.length
 |[],i,s,g=>by
  rw[Dd]at g;split at g
  .cases g
  .simp at g;rw[g,Dp];simp
 |c::l,i,s,g=>by
  rw[Dd]at g;split at g
  .rcases yH.1 g with g|g
   .rw[g,Dp];simp
   .have:=bY l [] s g;simp at this|-;omega
  .have:=bY l (i++[c]) s g;simp at this|-;omega
def W9(b:List UInt8):(H5 b).1.length<=400/\∀s∈(H5 b).1,s.size<=20000:=by
 rw[H5];split
 .exact⟨by simp,λs g=>by cases g⟩
 .rename_i i;split
  .exact⟨by simp,λs g=>by cases g⟩
  .rename_i j;refine⟨by dsimp only;omega,λs g=>?_⟩;have:=bY b [] s g;simp at this;omega
def Zc(r:ByteArray)(i:r.size<=20000):(Iu r).1.length<=20001/\∀s∈(Iu r).1,s.size<=40:=by
 have j:=Wz r.data.toList [];have l:r.data.toList.length=r.size:=rfl;rw[Iu];split
 .rename_i h;refine⟨by dsimp only;omega,λs g=>?_⟩;rw[yX]at h;have:=h s g;simp only[lM,zG,zK]at this;exact this.1.2
 .exact⟨by simp,λs g=>by cases g⟩
def A4k(b:List UInt8)(o:b.length<=1000000):Sp 38 [.sl 1 Ae b] (.tup [.sl 17 Be (Lk b).1,Aa (Lk b).2.1,Aa (Lk b).2.2]):=A7x Γ hm 100 F38 ntmps38 rfl λF hF h0=>by
 have q1:=Aeu b o;have p:=Lk.eq_1 b;have gn:=W9 b;generalize Lk b=a0 at *;generalize H5 b=rt at *;obtain ⟨i,e0⟩:=rt;dsimp only at p gn q1;refine T ?_;refine Bgm q_ q_ q_ q_ h0 [2,4] (λj r=>?_) ?_
 .simp only[yH,xJ,vH,vY]at r;have n2:Nat.beq j 2=false:=by
   cases o:Nat.beq j 2
   .rfl
   .exact zW (yN o) r.1
  have n4:Nat.beq j 4=false:=by
   cases o:Nat.beq j 4
   .rfl
   .exact zW (yN o) r.2
  simp[SS.upd,aY,upd,mkh,n2,n4]
 intro F2 a2 cv R o0 cu;refine gD q1 F29 ?_;cases t:(e0 != 0);rotate_left
 .have I:e0≠0:=by simpa using t
  rw[zE I]at p;subst p;refine T ?_;exact An 2 [.sl 17 Be []] q_ (.cons .nil .nil) (Abf (L:=[]) R o0 cu qx q_ q_ q_ q_ q_)
 have v8:e0=0:=kS t;rw[zD (by simp[v8])]at p;subst v8;obtain ⟨a1,az⟩:=gn;refine T ?_;refine Zb 2 0 1000 17 Be q_ q_ q_ q_ ?_;refine Dc (λx:Nat×List A2=>a0=K3 x.1 (i.drop x.1) x.2/\x.1<=i.length/\x.2.length<=x.1) (λx=>[(2,.ptr 2 0),(4,.ptr 4 0),(20,.sl 1 Ap i),(21,Aa i.length),(22,Aa x.1)]) (λx=>[(2,.box [.osl 1000]),(4,.box [Aa 0]),(1000,.row 17 Be x.2)]) (λx=>i.length-x.1) (0,[]) [] ⟨p,by simp,by simp⟩ U ?_;rintro ⟨j,out⟩ ⟨g,r,j6⟩;dsimp only at g r j6|-;refine gP ?_ ?_<;>intro h
 .have ab:j<i.length:=qA h;have J:(j:Int).toNat<i.length:=ab;have hr:(i[(j:Int).toNat]'J).size<=20000:=az _ (zI _);have fg:i.drop j=i[(j:Int).toNat]'J::i.drop (j+1):=yK ab;rw[fg,K3]at g;clear h;have P:=Ajh (i[(j:Int).toNat]'J) j_;have im:=Zc (i[(j:Int).toNat]'J) hr;generalize Iu (i[(j:Int).toNat]'J)=wt at *;obtain ⟨ws,we⟩:=wt;dsimp only at g im P;cases t:(we != 0);rotate_left
  .have I:we≠0:=by simpa using t
   rw[zE I]at g;subst g;refine gD P F30 ?_;exact An 2 [.sl 17 Be []] q_ (.cons .nil .nil) (Abf (L:=[]) R o0 cu qx q_ q_ q_ q_ q_)
  have I:we=0:=kS t;rw[zD (by simp[I])]at g;by_cases kz:ws.length=0
  .rw[zE (yF kz)]at g;have f0:((ws.length:Int)==0)=true:=by rw[kz];rfl
   refine gD P F30 ?_;exact A8 (j+1,out) [] ⟨g,ab,by dsimp only;omega⟩ (by dsimp only;omega) U
  .rw[zD (λe=>kz (by rw[e];rfl))]at g;have f0:((ws.length:Int)==0)=false:=by rw[zU];omega
   have q3:=A4v ws ((j:Int)+1) j_ im.2;generalize Dh ws ((j:Int)+1)=st at *;obtain ⟨l,se⟩:=st;dsimp only at g q3;cases tz:(se != 0);rotate_left
   .have d5:se≠0:=by simpa using tz
    rw[zE d5]at g;subst g;refine gB P F30 q3 F74 ?_;exact Ao 1000 q_ (Abf (L:=out) R o0 cu (zD d5) q_ q_ q_ q_ q_)
   .have d5:se=0:=by simpa using tz
    rw[zD (by simp[d5])]at g;refine gB P F30 q3 F74 ?_;refine X (Ah Γ.toTy 56 q_ q_ q_ q_ q_ (.row q_) (.lit (e:=Be) (l:=[l]) q_ q_) qx kO kO) ?_;exact A8 (j+1,out++[l]) [(1000,56)] ⟨g,ab,by simp;omega⟩ (by dsimp only;omega) U
 .have bu:j=i.length:=qB h;subst bu;rw[wO,K3]at g;subst g;clear h;refine T ?_;exact Ao 1000 q_ (Abf (L:=out) R o0 cu (zE q_) q_ q_ q_ q_ q_)
end
structure Apb(l:A2):Prop where
 right:Hp l=true
 ok:Bds l
 z:0<=l.z/\l.z<=4094
 num:0<=l.num/\l.num<=16777215
 aj:0<=l.aj/\l.aj<=65535
 bits:0<=l.bits/\l.bits<=32
 u:Jm l.u 4094=true
 ak:Jm l.ak 65535=true
 am:Jm l.am 65535=true
 aa:l.aa.length<=16
 q:l.q.size<=12
 ac:l.ac.size<=12
 peer:l.peer.size<=12
 bi:l.bi.size<=12
 name:l.name.size<=12
def Hc{s:ByteArray}(h:A5 s=true):s.size<=12:=by
 simp only[A5,zG,zK]at h;exact h.2
def Ajd(s:ByteArray):0<=(Sv s).1:=by
 have g:∀c,0<=J1 c:=λc=>by
  unfold J1;split
  .omega
  .split<;>omega
 have:∀i,0<=lG s i:=λi=>by
  induction i with
  |zero=>exact wB _
  |succ i j=>
   have l:=g (Cb s (3*i));have o:=g (Cb s (3*i+1));rw[lG];omega
 unfold Sv;split
 .exact this 6
 .exact wB _
def A1f:(⟨#[]⟩:ByteArray).size=0:=rfl
def Alt(s:ByteArray):(0<=(Dt s).1.1/\(Dt s).1.1<4294967296):=by
 unfold Dt;split
 .exact⟨wB _,by decide⟩
 .exact⟨Uh _,aP _⟩
def A8b{s:ByteArray}(h:(Io s).2=true):(Io s).1.length<=16/\∀x∈(Io s).1,0<=x/\x<4294967296:=by
 have hp:=Ahh h;obtain ⟨a,b,c,d⟩:=Yw H7 (Bd 44 s) [] (Io s).1 hp List.Pairwise.nil qx;refine⟨b,λx l=>?_⟩;rcases d x l with g|⟨p,_,g⟩
 .cases g
 .have i:=Uh p;have j:=aP p;rw[g]at i j;exact⟨i,j⟩
def Ys{s:ByteArray}{hi:Int}(h:(Hh hi s).2=true):Jm (Hh hi s).1 hi=true:=Be7 (Ahh h)
def Ck(hi:Int):Jm [] hi=true:=by simp[Jm,cA]
def zV:(0:Int)<=0/\(0:Int)<=4094:=by decide
def zN:(0:Int)<=0/\(0:Int)<=16777215:=by decide
def zC:(0:Int)<=0/\(0:Int)<=65535:=by decide
def zB:(0:Int)<=0/\(0:Int)<=32:=by decide
def zM:(0:Int)<=0/\(0:Int)<18446744073709551616:=by decide
def zA:(0:Int)<=0/\(0:Int)<4294967296:=by decide
def zS:(⟨#[]⟩:ByteArray).size<=12:=by decide
def Ax4{w:List ByteArray}{row:Int}(h:(Dh w row).2=0):Apb (Dh w row).1:=by
 obtain ⟨g1,i⟩:=A4t h;rw[g1];clear g1 h;have ez:=A1f;have o1:∀{m:Int},0<=m->On m=true->0<=m/\m<18446744073709551616:=λa b=>⟨a,by have:=Ali b;omega⟩
 unfold C0 at i|-;dsimp only at i|-;by_cases p:Ea (A4 w 0)=1
 .simp only[zE p,yH,xJ,vH,forall_eq_or_imp,forall_eq,xQ,vA,zG]at i|-;obtain ⟨g,l,o,j⟩:=i;have c:=Mj l;have n1:=Hc g;exact⟨by simp[Hp,Cq,g,j,within_iff.2 c,K9],⟨o1 (Ajd _) j,zA,by simp[Ba]⟩,zV,⟨c.1,by have:=c.2;dsimp only;omega⟩,zC,zB,Ck _,Ck _,Ck _,by simp[Ba],n1,zS,zS,zS,zS⟩
 by_cases t:Ea (A4 w 0)=2
 .simp only[zD p,zE t]at i|-;have g:=i (!(A5 (A4 w 1)),20) qx;have l:=i (!(A5 (A4 w 2)),20) qx;have o:=i (!(Iq (A4 w 3) 1 65535).2,21) qx;have j:∀e∈(If w).2.2,e.1=false:=λe he=>i e (by simp[he])
  have r:=i (!(Cs (If w).1 (If w).2.1),21) qx;simp only[xQ,vA]at g l o r;have c:=Mj o;have hp:(0<=(If w).1/\(If w).1<=4094)/\Jm (If w).2.1 4094=true:=by
   clear r i;unfold If at j|-;split
   .rename_i e;rw[zE e]at j;have:=j _ (zX.2 rfl);simp only[xQ,vA]at this;have:=Mj this;exact⟨⟨by have:=this.1;dsimp only[Ee];omega,this.2⟩,Ck _⟩
   .rename_i e;rw[zD e]at j;split
    .rename_i e2;rw[zE e2]at j;split
     .rename_i e3;rw[zE e3]at j;have:=j _ (zX.2 rfl);simp only[xQ,vA]at this;exact⟨zV,Ys this⟩
     .rename_i e3;rw[zD e3]at j;have a1:=j _ (List.mem_cons_self);have a2:=j _ (List.mem_cons_of_mem _ (zX.2 rfl));simp only[xQ,vA]at a1 a2;have:=Mj a1;exact⟨⟨by have:=this.1;dsimp only[Ee];omega,this.2⟩,Ys a2⟩
    .exact⟨zV,Ck _⟩
  generalize If w=q at *;obtain ⟨hv,ht⟩:=hp;exact⟨by simp[Hp,Cq,g,l,r,ht,within_iff.2 c,within_iff.2 hv,K9],⟨zM,zA,by simp[Ba]⟩,hv,zN,⟨by have:=c.1;dsimp only;omega,c.2⟩,zB,ht,Ck _,Ck _,by simp[Ba],Hc g,Hc l,zS,zS,zS⟩
 by_cases I:Ea (A4 w 0)=3
 .simp only[zD p,zD t,zE I,yH,xJ,vH,forall_eq_or_imp,forall_eq,xQ,vA,zG]at i|-;obtain ⟨g,l,o,j⟩:=i;exact⟨by simp[Hp,Cq,g,l,o,j,K9],⟨zM,zA,by simp[Ba]⟩,zV,zN,zC,zB,Ck _,Ck _,Ck _,by simp[Ba],Hc g,Hc l,Hc o,Hc j,zS⟩
 by_cases J:Ea (A4 w 0)=4
 .simp only[zD p,zD t,zD I,zE J,yH,xJ,vH,forall_eq_or_imp,forall_eq,xQ,vA,zG]at i|-;obtain ⟨g,l,⟨o,j⟩,r⟩:=i;have c:=Mj l;exact⟨by simp[Hp,Cq,g,Apg l q_,j,r,K9],⟨o1 (Ajd _) j,zA,by simp[Ba]⟩,⟨by have:=c.1;dsimp only[Ee];omega,c.2⟩,zN,zC,zB,Ck _,Ck _,Ck _,by simp[Ba],Hc g,Hc r,zS,zS,zS⟩
 by_cases P:Ea (A4 w 0)=5
 .simp only[zD p,zD t,zD I,zD J,zE P,yH,xJ,vH,forall_eq_or_imp,forall_eq,xQ,vA,zG,zK]at i|-;obtain ⟨g,l,o⟩:=i;exact⟨by simp[Hp,Cq,g,o,K9],⟨zM,⟨Uh _,aP _⟩,by simp[Ba]⟩,zV,zN,zC,zB,Ck _,Ck _,Ck _,by simp[Ba],Hc g,zS,zS,zS,zS⟩
 by_cases R:Ea (A4 w 0)=6
 .simp only[zD p,zD t,zD I,zD J,zD P,zE R,yH,xJ,vH,forall_eq_or_imp,forall_eq,xQ,vA,zG]at i|-;obtain ⟨g,l,o⟩:=i;have c:=Mj l;have d:=Mj o;exact⟨by simp[Hp,Cq,g,Apg l q_,A8s o q_,K9],⟨zM,zA,by simp[Ba]⟩,⟨by have:=c.1;dsimp only[Ee];omega,c.2⟩,⟨by have:=d.1;dsimp only[Ze];omega,d.2⟩,zC,zB,Ck _,Ck _,Ck _,by simp[Ba],Hc g,zS,zS,zS,zS⟩
 by_cases h7:Ea (A4 w 0)=7
 .simp only[zD p,zD t,zD I,zD J,zD P,zD R,zE h7,yH,xJ,vH,forall_eq_or_imp,forall_eq,xQ,vA,zG,zK]at i|-;obtain ⟨g,l,o,j⟩:=i;have d:=Mj l;have e:=A8b o;exact⟨by simp[Hp,Cq,g,A8s l q_,Bdl (Ahh o) j,K9],⟨zM,zA,e.2⟩,zV,⟨by have:=d.1;dsimp only[Ze];omega,d.2⟩,zC,zB,Ck _,Ck _,Ck _,e.1,Hc g,zS,zS,zS,zS⟩
 by_cases h8:Ea (A4 w 0)=8
 .simp only[zD p,zD t,zD I,zD J,zD P,zD R,zD h7,zE h8,yH,xJ,vH,forall_eq_or_imp,forall_eq,xQ,vA,zG]at i|-;obtain ⟨g,l,o,j⟩:=i;exact⟨by simp[Hp,Cq,g,l,Ys o,Ys j,K9],⟨zM,zA,by simp[Ba]⟩,zV,zN,zC,zB,Ck _,Ys o,Ys j,by simp[Ba],Hc g,zS,zS,zS,Hc l⟩
 .simp only[zD p,zD t,zD I,zD J,zD P,zD R,zD h7,zD h8,yH,xJ,vH,forall_eq_or_imp,forall_eq,xQ,vA,zG]at i|-;obtain ⟨g,l,o,j,r⟩:=i;have c:=Mj l;have hb:=bR r;exact⟨by simp[Hp,Cq,g,o,Apg l q_,r,K9],⟨zM,Alt _,by simp[Ba]⟩,⟨by have:=c.1;dsimp only[Ee];omega,c.2⟩,zN,zC,⟨by dsimp only;omega,by dsimp only;omega⟩,Ck _,Ck _,Ck _,by simp[Ba],Hc g,zS,zS,zS,Hc o⟩
def Zh:∀(j:List ByteArray) (i:Nat) (out:List A2),(∀x∈out,Apb x)->∀x∈(K3 i j out).1,Apb x
 |[],_,_,h=>by rw[K3];exact h
 |r::j,i,out,h=>by
  rw[K3];split
  .intro x g;cases g
  .split
   .exact Zh j (i+1) out h
   .split
    .intro x g;cases g
    .rename_i l;refine Zh j (i+1) _ λx g=>?_
     rcases yJ.1 g with g|g
     .exact h x g
     .rw[zX.1 g];exact Ax4 j_
def Zf(b:List UInt8):∀x∈(Lk b).1,Apb x:=by
 unfold Lk;split
 .intro x g;cases g
 .exact Zh _ 0 [] qx
end Go.Sy.Zaa
