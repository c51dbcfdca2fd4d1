/- Parts of a proof. -/
import Derived.Test.YtedbfemmehbeoaaGreatDoorXC10
set_option maxHeartbeats 4000000
set_option linter.all false
namespace Go.Sy.Zaa
open Go.Proofs Go.Proofs.Tryz
attribute [local irreducible]G DR
set_option maxRecDepth 100000
def F36:Fun prog 36 Tryz.f36 (Aky Tryz.f36):=⟨func36,rfl,by kernel_rfl⟩
def F72:Fun prog 72 Tryz.f72 (Aky Tryz.f72):=⟨func72,rfl,by kernel_rfl⟩
def lP(s:ByteArray)(c:UInt8)(m:Int)(hm:Lib.indexByte s.data.toList c=m):Sp 208 [Ap s,Ae c] (Aa m) :=
 Spec.of_calls λk w vs hi g _=>by
  subst hm;simp only[B8]at g;obtain ⟨v,r,rfl,j,u,I,rfl,l,rfl⟩:=g;have o:v=.string s:=by simpa only [Ap,Rd] using j
  have p:u=.int .u8 c.toNat:=by simpa only [Ae,Rd] using l
  subst o p;have e:(Int.toNat (c.toNat:Int)).toUInt8=c:=by simp
  have i:=Tryz.strings_IndexByte s c.toNat w;rw[e]at i;exact i.mono λe w' ⟨t,hw⟩=>⟨t,hw▸RowKit.Below.refl _ _⟩
def Ah1(s p:ByteArray):Sp 210 [Ap s,Ap p] (Ap (Hl (Lib.trimPrefix s.data.toList p.data.toList))) :=
 Spec.of_calls λk w vs hi g _=>by
  simp only[B8]at g;obtain ⟨v,r,rfl,i,u,I,rfl,j,rfl⟩:=g;have l:v=.string s:=by simpa only [Ap,Rd] using i
  have o:u=.string p:=by simpa only [Ap,Rd] using j
  subst l o;exact(Tryz.strings_TrimPrefix s p w).mono λe w' ⟨t,hw⟩=>⟨t,hw▸RowKit.Below.refl _ _⟩
def A0b(s:ByteArray)(c:UInt8)(m:Int)(hm:Lib.indexByte s.data.toList c=m):Sp 72 [Ap s,Ap ⟨#[c]⟩] (Aa m) :=
 Spec.of_calls λk w vs hi g _=>by
  subst hm;simp only[B8]at g;obtain ⟨v,r,rfl,i,u,t,rfl,j,rfl⟩:=g;have l:v=.string s:=by simpa only [Ap,Rd] using i
  have o:u=.string ⟨#[c]⟩:=by simpa only [Ap,Rd] using j
  subst l o;exact(Tryz.stringslite_Index_one s c w).mono λe w' ⟨p,hw⟩=>⟨p,hw▸RowKit.Below.refl _ _⟩
def Ib(c:UInt8)(s:ByteArray):ByteArray×ByteArray×Bool :=
 if 0<=Lib.indexByte s.data.toList c then (s.extract 0 (Ua c s.data.toList),s.extract (Ua c s.data.toList+1) s.size,true) else (s,⟨#[]⟩,false)
def aB(l:List UInt8)(c:UInt8):Lib.indexByte l c<l.length:=by
 induction l with
 |nil=>simp[Lib.indexByte]
 |cons b l g=>
  unfold Lib.indexByte;rw[yI];split
  .omega
  split
  .omega
  .omega
def Bbr(s:ByteArray)(c:UInt8)(r:s.size<=1000000000):Sp 36 [Ap s,Ap ⟨#[c]⟩] (.tup [Ap (Ib c s).1,Ap (Ib c s).2.1,Ab (Ib c s).2.2]):=cT F36 ntmps36 λF t=>by
 have g:=Ib.eq_1 c s;generalize Ib c s=l at *;have o:=aB s.data.toList c;have I:s.data.toList.length=s.size:=rfl;have hid:Ua c s.data.toList=(Lib.indexByte s.data.toList c).toNat:=rfl;obtain ⟨m,j⟩:=kE (Lib.indexByte s.data.toList c);have q:=A0b s c m j;rw[j]at g o hid;refine gQ q F72 ?_;refine gH ?_ ?_<;>intro h
 .have i:0<=m:=zO h;rw[zE i,hid]at g;have p:(m+1).toNat=m.toNat+1:=by omega
  have J:(⟨#[c]⟩:ByteArray).size=1:=rfl;subst g;refine fU ?_;refine⟨⟨by omega,by omega,by omega⟩,?_⟩;refine fW ?_;refine⟨by show S2 (m+1);unfold S2;omega,?_⟩;refine fW ?_;refine⟨⟨by omega,by omega,by omega⟩,?_⟩;refine fW ?_;refine⟨y_,?_⟩;refine fW ?_;refine Av q_ (.cons .tmp (.cons .tmp As)) ?_ q_;show SV.tup [Ap _,Ap (s.extract (m.toNat+1) s.size),_]=SV.tup [Ap _,Ap (s.extract (m+1).toNat _),_];rw[p];rfl
 .have i:¬0<=m:=zQ h;rw[zD i]at g;subst g;exact gC
def Abi(s:ByteArray)(c:UInt8)(g:s.size<=1000000000):Sp 16 [Ap s,Ap ⟨#[c]⟩] (.tup [Ap (Ib c s).1,Ap (Ib c s).2.1,Ab (Ib c s).2.2]):=cT F16 ntmps16 λF j=>by
 have q:=Bbr s c g;generalize Ib c s=i at *;refine gQ q F36 ?_;exact gC
def bD(l:List UInt8):Int:=l.foldl (λn c=>10*n+((c.toNat:Int)-48)) 0
def Auj(s:ByteArray):Bool:=s.data.toList.head?==some 45
def U2(s:ByteArray):List UInt8:=if Auj s=true then s.data.toList.drop 1 else s.data.toList
def A58(s:ByteArray):Int:=if Auj s=true then 0-bD (U2 s) else bD (U2 s)
def Iq(s:ByteArray)(lo hi:Int):Int×Bool :=
 if (U2 s).length<1\/10<(U2 s).length then (0,false) else if (U2 s).all M6=false then (0,false)
 else if A58 s<lo\/hi<A58 s then (0,false) else if (I7 (A58 s)==s)=true then (A58 s,true) else (0,false)
def fV(l:List UInt8)(c:UInt8):bD (l++[c])=10*bD l+((c.toNat:Int)-48):=by
 rw[bD,xS];rfl
def A3t:∀(k:Nat) (l:List UInt8),l.length=k->(∀c∈l,M6 c=true)->0<=bD l/\bD l<10^k
 |0,l,g,_=>by
  rw[wU.1 g];exact⟨wB _,by decide⟩
 |k+1,l,g,h=>by
  have i:l≠[]:=λe=>by rw[e]at g;cases g
  have e:=uS i;have p:=A3t k l.dropLast (by rw[tG];omega) λc j=>h c (List.dropLast_subset l j)
  have o:=h _ (List.getLast_mem i);simp only[M6,zG,zK]at o;rw[<-e,fV,Int.pow_succ];omega
def Bfx{l:List UInt8}(i:l.length<=10)(h:∀c∈l,M6 c=true):0<=bD l/\bD l<10000000000:=by
 have g:=A3t _ l rfl h;refine⟨g.1,Int.lt_of_lt_of_le g.2 ?_⟩;have j:(10:Nat)^l.length<=10^10:=vC qq i;have o:((10:Nat)^l.length:Int)<=((10^10:Nat):Int):=by exact_mod_cast j
 simpa using o
def A86(s:ByteArray):Lib.trimPrefix s.data.toList [45]=U2 s:=by
 unfold Lib.trimPrefix U2 Auj;cases s.data.toList with
 |nil=>simp[Lib.hasPrefix]
 |cons c l=>
  by_cases g:c=45
  .subst g;simp[Lib.hasPrefix]
  .simp[Lib.hasPrefix,g,Ne.symm g]
def aL{s:ByteArray}{i:Nat}(h:i<s.data.toList.length):Cb s i=s.data.toList[i]:=by
 rw[Cb,wL,zT h];rfl
def A8z{α:Type}{p:α->Bool}{l:List α}{j:Nat}(g:Ic (λ_ x=>p x) l j):∀c∈l.take j,p c=true:=by
 intro c o;obtain ⟨i,hi,rfl⟩:=yY.1 o;rw[zY]at hi;rw[wN];exact g i j_ j_
def fZ{α:Type}{p:α->Bool}{l:List α}{j:Nat}(g:Ic (λ_ x=>p x) l j)(r:l.length<=j):l.all p=true:=by
 rw[yX];intro x o;obtain ⟨i,hi,rfl⟩:=yY.1 o;exact g i hi j_
def all_at'{α:Type}{p:α->Bool}{l:List α}{j:Nat}(i:j<l.length)(h:p l[j]=false):l.all p=false:=by
 cases g:l.all p
 .rfl
 .rw[yX]at g;rw[g _ (zI i)]at h;cases h
def u8_sub2{c:UInt8}(h:M6 c=true):IntKind.i64.wrap (IntKind.u8.wrap ((c.toNat:Int)-48))=(c.toNat:Int)-48:=by
 simp only[M6,zG,zK]at h;rw[IntKind.wrap_u8,IntKind.wrap_i64];omega
def neg_digs{s:ByteArray}(h:Auj s=true):(U2 s).length+1=s.size/\∀j,j<(U2 s).length->Cb s (1+j)=(U2 s).getD j 0:=by
 have i:s.data.toList.length=s.size:=rfl;rw[U2,zE h];rw[Auj]at h;cases g:s.data.toList with
 |nil=>rw[g]at h;cases h
 |cons c l=>
  rw[g]at i;refine⟨by simp at i|-;omega,λj o=>?_⟩;rw[Cb,g,tP];rfl
def pos_digs{s:ByteArray}(h:Auj s=false):(U2 s).length=s.size/\∀j,j<(U2 s).length->Cb s j=(U2 s).getD j 0:=by
 rw[U2,zD (by simp[h])];exact⟨q_,λj g=>rfl⟩
def Acb(s:ByteArray)(lo hi:Int):Sp 129 [Ap s,Aa lo,Aa hi] (.tup [Aa (Iq s lo hi).1,Ab (Iq s lo hi).2]):=cT F129 ntmps129 λF hF=>by
 have g:=Iq.eq_1 s lo hi;generalize Iq s lo hi=a0 at *;have q:=Ah1 s ⟨#[45]⟩;rw[show (⟨#[45]⟩:ByteArray).data.toList=[45] from rfl,A86]at q;have r:=A58.eq_1 s;have t8:=@neg_digs s;have j7:=@pos_digs s;generalize A58 s=i at *;generalize hD:U2 s=D at *;have t:(Hl D).size=D.length:=Dp D;refine gQ q F210 ?_;by_cases h1:D.length<1\/10<D.length
 .rw[zE h1]at g;subst g;refine gH ?_ ?_<;>intro h
  .exact gC
  .have P:1<=D.length:=by
    cases D with
    |nil=>exact zW (show (Hl []==(⟨#[]⟩:ByteArray))=true from rfl) (by rw[show (Hl []==(⟨#[]⟩:ByteArray))=false from h];simp)
    |cons=>simp
   refine gH ?_ ?_<;>intro h
   .exact gC
   .exact zW (zQ h) j_
 rw[zD h1]at g;have ag:(Hl D==(⟨#[]⟩:ByteArray))=false:=by
  cases o:(Hl D==(⟨#[]⟩:ByteArray))
  .rfl
  .have e:(Hl D).data=(⟨#[]⟩:ByteArray).data:=by simpa using (show ((Hl D).data==(⟨#[]⟩:ByteArray).data)=true from o)
   have:=zH Array.size e;have e2:(Hl D).data.size=D.length:=t;rw[e2]at this;have e3:(⟨#[]⟩:ByteArray).data.size=0:=rfl;omega
 refine fU ?_;refine⟨λh=>zW h (by rw[ag];simp),λ_=>?_⟩;refine fU ?_;refine⟨λh=>zW (zO h) j_,λ_=>?_⟩;refine fU ?_;refine Bb D.length (λj=>Ic (λ_ c=>M6 c) D j) (λj=>[(0,Ap s),(1,Aa lo),(2,Aa hi),(8,Ap (Hl D)),(9,Aa (bD (D.take j))),(21,Aa D.length),(22,Aa j)]) (λ_=>[]) [] (Bn _ _)
  ⟨⟨rfl,rfl,rfl,rfl,rfl,rfl,rfl,rfl,rfl,rfl,zH (λz:Nat=>SV.val (.int .i64 z)) t.symm,rfl,rfl,rfl,trivial⟩,trivial,rfl,rfl⟩ ?_
 intro j hj R;have hv:=Bfx (l:=D.take j) (by rw[zY];omega) (A8z R);refine gH ?_ ?_<;>intro h
 .have ab:j<D.length:=qA h;have hb:Cb (Hl D) (j:Int).toNat=D[j]:=by
   have:j<(Hl D).data.toList.length:=by rw[Jy];exact ab
   rw[yA,aL this];simp[Hl]
  have bw:=λh=>@all_at' _ M6 D j ab h
  have du:=λh=>Bk (p:=λ_ c=>M6 c) R ab h
  have af:bD (D.take (j+1))=10*bD (D.take j)+((D[j].toNat:Int)-48):=by rw[zZ ab,fV]
  have hu:=@u8_sub2 D[j];generalize D[j]=c at *;generalize bD (D.take j)=v at *;have kv:=c.toNat_lt;refine fU ?_;refine⟨by omega,by omega,?_⟩;rw[hb];refine fW ?_;constructor<;>intro P
  .have I:c.toNat<48:=by have:=zO P;omega
   rw[zE (bw (by rw[M6,zJ j_];rfl))]at g;subst g;exact gC
  have P:=zQ P;refine fU ?_;refine⟨by omega,by omega,?_⟩;rw[hb];refine fW ?_;constructor<;>intro I
  .have I:57<c.toNat:=by have:=zO I;omega
   rw[zE (bw (by rw[M6,zJ (by omega:¬c.toNat<=57),wR]))]at g;subst g;exact gC
  have I:=zQ I;have J:M6 c=true:=by rw[M6,zL j_,zL j_];rfl
  have hu:=hu J;refine fU ?_;refine⟨by show S2 (10*v);unfold S2;omega,?_⟩;refine fW ?_;refine⟨by omega,by omega,?_⟩;rw[hb];refine fW ?_;rw[hu];refine⟨by show S2 (10*v+((c.toNat:Int)-48));unfold S2;omega,?_⟩;refine gJ ?_;exact A6 [] R j_ (du J) ⟨⟨q_,q_,q_,q_,q_,q_,q_,q_,zH Aa af,q_,q_,q_,q_,q_,z_⟩,z_,q_,q_⟩
 .have bu:j=D.length:=qB h;subst bu;rw[zD (by rw[fZ R (yG _)];simp)]at g;rw[yM]at hv|-;have fin:∀i:Int,i=(if Auj s=true then 0-bD D else bD D)->(-10000000000<i/\i<10000000000)/\L6 i:=λi h=>by
   unfold L6;split at h<;>omega
  have fn:=fin i r;have q2:=Yo i fn.2;have m6:((Hl D).size:Int)=D.length:=by rw[t]
  cases hn:Auj s
  .rw[hn,zD qx]at r;have h4:=(j7 hn).1;rw[<-r];refine fU ?_;refine⟨λh=>zW (zO h) j_,λ_=>?_⟩;refine gH ?_ ?_<;>intro h
   .rw[zE (.inl (zO h))]at g;subst g;exact gC
   have h5:=zQ h;refine gH ?_ ?_<;>intro h
   .rw[zE (.inr (zO h))]at g;subst g;exact gC
   have h6:=zQ h;rw[zD j_]at g;refine gL q2 F47 ?_;cases o:(I7 i==s)
   .rw[o,zD qx]at g;subst g;refine fU ?_;refine⟨λ_=>?_,λh=>zW h (by rw[o];simp)⟩;exact gC
   .rw[o,zE rfl]at g;subst g;refine fU ?_;refine⟨λh=>zW h (by rw[o];simp),λ_=>?_⟩;exact gC
  .rw[hn,zE rfl]at r;have h4:=(t8 hn).1;have hw:IntKind.i64.wrap (0-bD D)=i:=by rw[IntKind.wrap_i64];omega
   refine fU ?_;refine⟨λ_=>?_,λh=>zW (zQ h) j_⟩;refine fU ?_;rw[hw];constructor<;>intro h
   .rw[zE (.inl (zO h))]at g;subst g;exact gC
   have h5:=zQ h;refine gH ?_ ?_<;>intro h
   .rw[zE (.inr (zO h))]at g;subst g;exact gC
   have h6:=zQ h;rw[zD j_]at g;refine gL q2 F47 ?_;cases o:(I7 i==s)
   .rw[o,zD qx]at g;subst g;refine fU ?_;refine⟨λ_=>?_,λh=>zW h (by rw[o];simp)⟩;exact gC
   .rw[o,zE rfl]at g;subst g;refine fU ?_;refine⟨λh=>zW h (by rw[o];simp),λ_=>?_⟩;exact gC
def Sf:∀(l:List UInt8) (c:UInt8),-1<=Lib.indexByte l c
 |[],_=>by simp[Lib.indexByte]
 |b::l,c=>by
  unfold Lib.indexByte;have:=Sf l c;split
  .omega
  split
  .omega
  .omega
def Dd:List UInt8->List UInt8->List ByteArray
 |g,[]=>if g=[] then [] else [Hl g]
 |g,c::r=>if c=10 then Hl g::Dd [] r else Dd (g++[c]) r
def H5(b:List UInt8):List ByteArray×Int :=
 if 20000<b.length then ([],3) else if 400<(Dd [] b).length then ([],3) else (Dd [] b,0)
def Afn:∀(l g:List UInt8),Lib.indexByte l 10=-1->Dd g l=if g++l=[] then [] else [Hl (g++l)]
 |[],g,_=>by rw[Dd,yV]
 |c::l,g,h=>by
  unfold Lib.indexByte at h;by_cases i:(c==10)=true
  .rw[zE i]at h;omega
  rw[zD i]at h;have hi:Lib.indexByte l 10=-1:=by
   by_cases j:(Lib.indexByte l 10 == -1)=true
   .simpa using j
   .rw[zD j]at h;have:=Sf l 10;omega
  rw[Dd,zD (kS i),Afn l _ hi];simp
def Afm:∀(l g:List UInt8),0<=Lib.indexByte l 10->Dd g l=Hl (g++l.take (Lib.indexByte l 10).toNat)::Dd [] (l.drop ((Lib.indexByte l 10).toNat+1))
 |[],g,h=>by simp[Lib.indexByte]at h
 |c::l,g,h=>by
  unfold Lib.indexByte at h|-;by_cases i:(c==10)=true
  .rw[zE i,Dd,zE (kS i)];simp
  rw[zD i]at h|-;by_cases j:(Lib.indexByte l 10 == -1)=true
  .rw[zE j]at h;omega
  rw[zD j]at h|-;have:=Sf l 10;have o:0<=Lib.indexByte l 10:=by
   have p:Lib.indexByte l 10≠-1:=kS j;omega
  have e:(Lib.indexByte l 10+1).toNat=(Lib.indexByte l 10).toNat+1:=by omega
  rw[Dd,zD (kS i),Afm l _ o,e];simp
def Ay2{l:List UInt8}(h:l≠[]):Dd [] l=(Ib 10 (Hl l)).1::Dd [] (Ib 10 (Hl l)).2.1.data.toList/\(Ib 10 (Hl l)).2.1.data.toList.length<l.length:=by
 have i:=xP.2 h;have o:=aB l 10;have p:=Sf l 10;have j:(Hl l).size=l.length:=Dp l;rw[Ib,Jy];split
 .rename_i g;dsimp only;rw[Afm l [] g,H8,H8,Jy,j,yM];refine⟨q_,?_⟩;rw[yP];omega
 .rename_i g;dsimp only;rw[Afn l [] j_,xO,zD h];exact⟨q_,i⟩
def A6g(l:List UInt8):(Hl l == ⟨#[]⟩)=decide (l=[]):=by
 cases l with
 |nil=>rfl
 |cons c l=>
  rw[zJ qx];cases g:(Hl (c::l)==(⟨#[]⟩:ByteArray))
  .rfl
  .have e:(Hl (c::l)).data=(⟨#[]⟩:ByteArray).data:=by simpa using (show ((Hl (c::l)).data==(⟨#[]⟩:ByteArray).data)=true from g)
   have:=zH Array.size e;simp[Hl]at this
def Aeu(b:List UInt8)(hb:b.length<=1000000):Sp 29 [.sl 1 Ae b] (.tup [.sl 1 Ap (H5 b).1,Aa (H5 b).2]):=cT F29 ntmps29 λF hF=>by
 have i:=H5.eq_1 b;generalize H5 b=a1 at *;refine gR ?_ ?_<;>intro h
 .rw[zE (qA h)]at i;subst i;refine fU ?_;exact Ar 2 1 Ap q_ gC
 rw[zD (qB h)]at i;refine fU ?_;refine Al (Cz Γ.toTy (bs:=b) q_ q_ q_ q_ q_ q_ q_ .sl) q_ q_ ?_;refine Ct 4 1000 1 Ap q_ q_ (fU ?_);refine Dc (λx:List ByteArray×List UInt8=>Dd [] b=x.1++Dd [] x.2/\x.1.length+x.2.length<=b.length) (λx=>[(4,.osl 1000),(5,Ap (Hl x.2))]) (λx=>[(1000,.row 1 Ap x.1)]) (λx=>x.2.length) ([],b) [] ⟨q_,by simp⟩
  kU ?_
 rintro ⟨out,g⟩ ⟨I,j⟩;dsimp only at I j|-;have o:=A6g g;refine fU ?_;by_cases r:g=[]
 .rw[zL r]at o;refine⟨λh=>zW h (by rw[o];simp),λ_=>?_⟩;have jj:Dd [] b=out:=by rw[I,r];simp[Dd]
  rw[jj]at i;refine gH ?_ ?_<;>intro h
  .rw[zE (qA h)]at i;subst i;refine fU ?_;exact Ar 2 1 Ap q_ gC
  .rw[zD (qB h)]at i;subst i;exact Ao 1000 q_ gC
 .rw[zJ r]at o;refine⟨λ_=>?_,λh=>zW h (by rw[o];simp)⟩;obtain ⟨J,R⟩:=Ay2 r;have q:=Abi (Hl g) 10 (by rw[Dp];omega);obtain ⟨⟨row,t,a0⟩,P⟩:∃p,Ib 10 (Hl g)=p:=⟨_,rfl⟩
  rw[P]at q J R;dsimp only at q J R;have a2:t.data.toList.length=t.size:=rfl;refine gL q F16 ?_;refine fU ?_;refine Al (Ah Γ.toTy 23 q_ q_ q_ q_ q_ (.row q_) (.lit (e:=Ap) (l:=[row]) q_ q_) qx kO kO) q_ q_ (fU ?_);refine A8 (out++[row],t.data.toList) [(1000,23)] ⟨by rw[I,J];simp,by simp;omega⟩ (by dsimp only;omega) ⟨⟨q_,q_,zH Ap (Jw t),q_,z_⟩,⟨.inl q_,q_,z_⟩,q_,q_⟩
end Go.Sy.Zaa
namespace Go.Sy.Zaa
section
variable {α:Type}
def A2j(p:α->Bool):List α->Nat
 |[]=>0
 |a::l=>if A2j p l=l.length/\p a=true then l.length+1 else A2j p l
def insE(lt:α->α->Bool)(x:α)(l:List α):List α:=l.take (l.length-A2j (lt x) l)++x::l.drop (l.length-A2j (lt x) l)
def Asy(lt:α->α->Bool):List α->List α->List α
 |out,[]=>out
 |out,x::l=>Asy lt (insE lt x out) l
def Bgs(lt:α->α->Bool)(l:List α):List α:=Asy lt [] l
end
section
variable {α:Type}
def bs(lt:α->α->Bool)(s:Nat)(l:List α):List α :=
 if h:s=0\/l.length<=s then Bgs lt l else Bgs lt (l.take s)++bs lt s (l.drop s)
termination_by l.length
decreasing_by
 simp only[yP];omega
end
section
variable {α:Type}
end
section
variable {α β:Type}
end
open Go.Proofs Go.Proofs.Tryz
structure A2 where
 row:Int
 kind:Int
 q:ByteArray
 ac:ByteArray
 peer:ByteArray
 bi:ByteArray
 name:ByteArray
 an:Int
 addr:Int
 bits:Int
 z:Int
 num:Int
 aj:Int
 u:List Int
 ak:List Int
 am:List Int
 aa:List Int
def Dl(l:A2):List SV:=[Aa l.row,Aa l.kind,Ap l.q,Ap l.ac,Ap l.peer,Ap l.bi,Ap l.name,B1 l.an,Bo l.addr,Aa l.bits,Aa l.z,Aa l.num,Aa l.aj,.sl 1 Aa l.u,.sl 1 Aa l.ak,.sl 1 Aa l.am,.sl 1 Bo l.aa]
def Be(l:A2):SV:=.agg [Aa l.row,Aa l.kind,Ap l.q,Ap l.ac,Ap l.peer,Ap l.bi,Ap l.name,B1 l.an,Bo l.addr,Aa l.bits,Aa l.z,Aa l.num,Aa l.aj,.sl 1 Aa l.u,.sl 1 Aa l.ak,.sl 1 Aa l.am,.sl 1 Bo l.aa]
attribute [local irreducible]G DR
set_option maxRecDepth 20000
def Q0(l:List Bool):List UInt8:=l.map λb=>if b then 49 else 48
def Qz(l:List Bool):ByteArray:=if l=[] then ⟨#[45]⟩ else Hl (Q0 l)
def Bd9(l:List Bool)(I:l.length<1000000):Sp 131 [.sl 1 Ab l] (Ap (Qz l)):=cT F131 ntmps131 λF J=>by
 refine gR ?_ ?_<;>intro h
 .have i:l=[]:=wU.1 (by have:(l.length:Int)=0:=(kS h);omega);rw[Qz,zE i];exact gC
 have i:l≠[]:=λe=>by subst e;simp at h
 rw[Qz,zD i];refine fU ?_;refine Ct 3 1000 1 Ae q_ q_ ?_;refine Bl l.length (λj=>[(3,.osl 1000),(10,.sl 1 Ab l),(11,Aa l.length),(12,Aa j)]) (λj=>[(1000,.row 1 Ae (Q0 (l.take j)))]) []
  kU ?_
 intro j P;have R:(Q0 (l.take j)).length<=l.length:=by rw[Q0,yS,zY];omega
 refine gH ?_ ?_<;>intro h
 .have g:j<l.length:=by simpa using h
  have o:(j:Int).toNat<l.length:=kS g;have p:Q0 (l.take (j+1))=Q0 (l.take j)++[if l[(j:Int).toNat]'o then 49 else 48]:=by
   rw[Q0,Q0,zZ g,wP];rfl
  obtain ⟨b,r⟩:=kE (l[(j:Int).toNat]'o);rw[r]at p;generalize Q0 (l.take j)=u at *;refine fU ?_;refine⟨q_,by omega,o,?_⟩;rw[r];cases b
  .refine fW ?_;refine Al (Ah Γ.toTy 20 q_ q_ q_ q_ q_ (.row q_) (.lit (e:=Ae) (l:=[48]) q_ q_) qx kO kO) q_ q_ (gE ?_);exact A9 [(1000,20)] g ⟨kA,⟨.inl (zH (Ob.row 1 Ae) p),q_,z_⟩,q_,q_⟩
  .refine fW ?_;refine Al (Ah Γ.toTy 20 q_ q_ q_ q_ q_ (.row q_) (.lit (e:=Ae) (l:=[49]) q_ q_) qx kO kO) q_ q_ (gE ?_);exact A9 [(1000,20)] g ⟨kA,⟨.inl (zH (Ob.row 1 Ae) p),q_,z_⟩,q_,q_⟩
 .have t:j=l.length:=qB h;subst t;rw[yM];refine fU ?_;exact Al (Cz Γ.toTy (bs:=Q0 l) q_ q_ q_ q_ q_ q_ q_ (.row q_)) q_ q_ gC
def dL(c:Nat):UInt8:=if c<10 then UInt8.ofNat (48+c) else UInt8.ofNat (87+c)
def Acu(l:List UInt8):List UInt8:=l.flatMap λc=>[dL (c.toNat/16),dL (c.toNat%16)]
def dJ(l:List UInt8):ByteArray:=if l=[] then ⟨#[45]⟩ else Hl (Acu l)
def dK:∀l:List UInt8,(Acu l).length=2*l.length
 |[]=>rfl
 |c::l=>by
  have:=dK l;rw[Acu]at this|-;rw[xZ,zR,this];simp only[yI,xG];omega
def Aqx:ByteArray:=⟨#[48,49,50,51,52,53,54,55,56,57,97,98,99,100,101,102]⟩
def A3i:∀k,k<16->Cb Aqx k=dL k:=by decide
def hex_hi(c:UInt8):((c.toNat:Int).fdiv (2^min (Int.toNat 4) IntKind.u8.bits))=((c.toNat/16:Nat):Int):=by
 show ((c.toNat:Int).fdiv 16)=_;rw[wM _ j_];omega
def A0v:∀k:Fin 256,bits .and .u8 (k.1:Int) 15=((k.1%16:Nat):Int):=by decide +kernel
def hex_lo(c:UInt8):bits .and .u8 (c.toNat:Int) 15=((c.toNat%16:Nat):Int):=A0v ⟨c.toNat,c.toNat_lt⟩
def Akw(l:List UInt8)(hl:l.length<1000000):Sp 69 [.sl 1 Ae l] (Ap (dJ l)):=cT F69 ntmps69 λF hF=>by
 refine gR ?_ ?_<;>intro h
 .have g:l=[]:=wU.1 (by have:(l.length:Int)=0:=(kS h);omega);rw[dJ,zE g];exact gC
 have g:l≠[]:=λe=>by subst e;simp at h
 rw[dJ,zD g];refine fU ?_;refine Ct 3 1000 1 Ae q_ q_ ?_;refine Bl l.length (λj=>[(3,.osl 1000),(9,.sl 1 Ae l),(10,Aa l.length),(11,Aa j)]) (λj=>[(1000,.row 1 Ae (Acu (l.take j)))]) []
  kU ?_
 intro j hj;refine gH ?_ ?_<;>intro h
 .have i:j<l.length:=by simpa using h
  have r:(j:Int).toNat<l.length:=kS i;obtain ⟨c,t⟩:=kE (l[(j:Int).toNat]'r);have I:Acu (l.take (j+1))=Acu (l.take j)++[dL (c.toNat/16),dL (c.toNat%16)]:=by
   rw[Acu,Acu,zZ i,List.flatMap_append];rw[show l[j]=c from t];rfl
  have lp:(Acu (l.take j)).length<=2*l.length:=by
   rw[dK,zY];omega
  generalize Acu (l.take j)=u at *;refine fU ?_;refine⟨q_,by omega,r,?_⟩;rw[t];refine fW ?_;refine⟨by decide,?_⟩;refine fW ?_;have kv:=c.toNat_lt;have o:=hex_hi c;have J:=A3i (c.toNat/16) j_;refine⟨by rw[o];omega,by rw[o];show _<16;omega,?_⟩;refine fW ?_;have p:=hex_lo c;have P:=A3i (c.toNat%16) j_;refine⟨by rw[p];omega,by rw[p];show _<16;omega,?_⟩;refine fW ?_;have v1:Cb Aqx ((c.toNat:Int).fdiv (2^min (Int.toNat 4) IntKind.u8.bits)).toNat=dL (c.toNat/16):=by rw[o];exact J
  have R:Cb Aqx (bits .and .u8 (c.toNat:Int) 15).toNat=dL (c.toNat%16):=by rw[p];exact P
  refine C6 (Ah Γ.toTy 23 q_ q_ q_ q_ q_ (.row q_) (.lit (e:=Ae) (l:=[Cb Aqx ((c.toNat:Int).fdiv (2^min (Int.toNat 4) IntKind.u8.bits)).toNat,Cb Aqx (bits .and .u8 (c.toNat:Int) 15).toNat]) q_ q_) qx kO kO) y_ q_ (fU ?_);refine⟨y_,?_⟩;refine gJ ?_;exact A9 [(1000,23)] i ⟨kA,⟨.inl (zH (Ob.row 1 Ae) (by rw[I,v1,R])),q_,z_⟩,q_,q_⟩
 .have bu:j=l.length:=qB h;subst bu;rw[yM];refine fU ?_;exact Al (Cz Γ.toTy (bs:=Acu l) q_ q_ q_ q_ q_ q_ q_ (.row q_)) q_ q_ gC
set_option maxRecDepth 100000
def Cc(d:UInt8):List UInt8->List UInt8->List ByteArray
 |g,[]=>[Hl g]
 |g,c::r=>if c=d then Hl g::Cc d [] r else Cc d (g++[c]) r
def U7(d:UInt8):∀(l g:List UInt8),d∉l->Cc d g l=[Hl (g++l)]
 |[],g,_=>by rw[Cc,yV]
 |c::l,g,h=>by
  simp only[yH,vY]at h;rw[Cc,zD (Ne.symm h.1),U7 d l _ h.2];simp
def Zk(d:UInt8):∀(l g:List UInt8),d∈l->Cc d g l=Hl (g++l.take (Ua d l))::Cc d [] (l.drop (Ua d l+1))
 |[],g,h=>by simp at h
 |c::l,g,h=>by
  by_cases i:c=d
  .subst i;rw[Cc,zE rfl,Ua];simp[Lib.indexByte]
  .have j:d∈l:=by
    simp only[yH]at h;exact h.resolve_left (Ne.symm i)
   have p:=(Mo j).1;have e:Ua d (c::l)=Ua d l+1:=by
    have o:Lib.indexByte (c::l) d=Lib.indexByte l d+1:=by
     rw[Lib.indexByte.eq_def];dsimp only;rw[zD (kS i),zD kO]
    rw[Ua,Ua,o];omega
   rw[Cc,zD i,Zk d l _ j,e];simp
def cG(d:UInt8)(l:List UInt8):∀j,D9 d l (j+1)=D9 d (l.drop (Ua d l+1)) j
 |0=>rfl
 |j+1=>by
  rw[D9,cG d l j];rfl
def Am3(d:UInt8):∀(k:Nat) (l:List UInt8),l.length<=k->Bd d (Hl l)=Cc d [] l
 |0,l,h=>by
  rw[wU.1 (by omega:l.length=0)];simp[Bd,Cc,D9,Hl]
 |k+1,l,h=>by
  by_cases g:d∈l
  .have i:=aH g;have p:=(Mo g).2;have o:(l.drop (Ua d l+1)).length<=k:=by rw[yP];omega
   rw[Zk d l [] g,<-Am3 d k _ o];simp only[Bd,Jy];rw[<-i,List.range_succ_eq_map,xR,tR,wF,xO,cG];congr 2;apply vR;intro j _;show Hl (Qd d l (j+1))=_;rw[Qd,Qd,cG]
  .have i:l.count d=0:=List.count_eq_zero.2 g;rw[U7 d l [] g];simp[Bd,Jy,i,D9]
def Vn(d:UInt8)(s:ByteArray):Bd d s=Cc d [] s.data.toList:=by
 rw[<-Am3 d _ _ (yG _),Jw]
def J1(c:UInt8):Int:=if 48<=c.toNat/\c.toNat<=57 then (c.toNat:Int)-48 else if 97<=c.toNat/\c.toNat<=102 then (c.toNat:Int)-87 else 16
def Xo(c:UInt8):0<=J1 c/\J1 c<=16:=by
 unfold J1;split
 .omega
 split
 .omega
 .omega
def Bfi:∀k:Fin 256,Lib.indexByte Aqx.data.toList (UInt8.ofNat k.1)=if J1 (UInt8.ofNat k.1)=16 then -1 else J1 (UInt8.ofNat k.1):=by decide +kernel
def An2(c:UInt8):Lib.indexByte Aqx.data.toList c=if J1 c=16 then -1 else J1 c:=by
 have:=Bfi ⟨c.toNat,c.toNat_lt⟩;simpa using this
def Bfj(a b:UInt8):UInt8:=UInt8.ofNat ((J1 a).toNat*16+(J1 b).toNat)
def or_all:∀x y:Fin 16,IntKind.u8.wrap (bits .or .i64 (IntKind.i64.wrap ((x.1:Int)*2^(min (Int.toNat 4) IntKind.i64.bits))) (y.1:Int))=((UInt8.ofNat (x.1*16+y.1)).toNat:Int):=by decide +kernel
def hexV_or{a b:UInt8}(j:J1 a<=15)(l:J1 b<=15):IntKind.u8.wrap (bits .or .i64 (IntKind.i64.wrap (J1 a*2^(min (Int.toNat 4) IntKind.i64.bits))) (J1 b))=((Bfj a b).toNat:Int):=by
 have g:=Xo a;have i:=Xo b;have:=or_all ⟨(J1 a).toNat,by omega⟩ ⟨(J1 b).toNat,by omega⟩;dsimp only at this;rw[yQ g.1,yQ i.1]at this;exact this
def Ho:List UInt8->Option (List UInt8)
 |a::b::r=>if J1 a<=15/\J1 b<=15 then (Ho r).map (Bfj a b::·) else none
 |_=>some []
def oU(s:ByteArray):List UInt8×Bool :=
 if s.data.toList=[45] then ([],true) else match Ho s.data.toList with
  |none=>([],false)
  |some b=>(b,decide (0<s.size)&&decide (s.size%2=0)&&decide (b.length<=1600))
def Xz(s:ByteArray):List UInt8×Bool :=
 if s.data.toList=[45] then ([],true) else if s.size=0\/s.size%2=1\/3200<s.size then ([],false) else match Ho s.data.toList with
  |none=>([],false)
  |some b=>(b,true)
def S6:∀(k:Nat) (l:List UInt8),l.length<=k->∀b,Ho l=some b->b.length=l.length/2
 |0,[],_,b,g=>by simp only[Ho,Option.some.injEq]at g;subst g;rfl
 |0,_::_,h,_,_=>by simp at h
 |k+1,[],_,b,g=>by simp only[Ho,Option.some.injEq]at g;subst g;rfl
 |k+1,[x],_,b,g=>by simp only[Ho,Option.some.injEq]at g;subst g;simp
 |k+1,x::y::r,h,b,g=>by
  rw[Ho]at g;split at g
  .cases i:Ho r with
   |none=>rw[i]at g;cases g
   |some c=>
    rw[i]at g;simp only[vO,Option.some.injEq]at g;subst g;have:=S6 k r (by simp at h;omega) c i;simp only[yI];omega
  .cases g
def A95(s:ByteArray):(oU s).2=(Xz s).2/\((Xz s).2=true->(oU s).1=(Xz s).1):=by
 have g:s.data.toList.length=s.size:=rfl;unfold oU Xz;split
 .exact⟨q_,λ_=>rfl⟩
 cases hp:Ho s.data.toList with
 |none=>
  dsimp only;split
  .exact⟨q_,λh=>rfl⟩
  .exact⟨q_,λh=>rfl⟩
 |some b=>
  have i:=S6 _ _ (yG _) b hp;dsimp only;split
  .refine⟨?_,λh=>by cases h⟩;dsimp only;rw[<-Bool.not_eq_true];intro h;simp only[zG,zK]at h;omega
  .refine⟨?_,λ_=>rfl⟩;dsimp only;simp only[zG,zK];omega
def eq45(s:ByteArray):(s == ⟨#[45]⟩)=decide (s.data.toList=[45]):=by
 cases h:(s==(⟨#[45]⟩:ByteArray))
 .rw[zJ];intro e;have:s=⟨#[45]⟩:=Sm e;subst this;cases h
 .rw[zL];have e:s.data=(⟨#[45]⟩:ByteArray).data:=kS ((show (s.data==(⟨#[45]⟩:ByteArray).data)=true from h));rw[e]
end Go.Sy.Zaa
namespace Go.Sy.Zaa
open Go.Proofs Go.Proofs.Tryz
section
def Tw(a b:ByteArray):(a==b)=true↔a=b:=by
 cases a with
 |mk a=>
  cases b with
  |mk b=>
   show (a==b)=true↔_;simp
instance:LawfulBEq ByteArray where
 eq_of_beq h:=(Tw _ _).1 h
 rfl:=(Tw _ _).2 rfl
def A61(c:UInt8):Bool:=decide (97<=c.toNat)&&decide (c.toNat<=122)
def Ba2:List UInt8->Bool
 |[]=>false
 |c::l=>A61 c&&l.all λc=>A61 c||M6 c
def A5(s:ByteArray):Bool:=Ba2 s.data.toList&&decide (s.size<=12)
def Acl(s:ByteArray)(i:Nat):Bool:=decide (J1 (Cb s (3*i))<=15)&&decide (J1 (Cb s (3*i+1))<=15)&&(decide (5<=i)||decide ((Cb s (3*i+2)).toNat=58))
def lG(s:ByteArray):Nat->Int
 |0=>0
 |i+1=>lG s i*256+J1 (Cb s (3*i))*16+J1 (Cb s (3*i+1))
def Sv(s:ByteArray):Int×Bool:=if s.size=17/\(List.range 6).all (Acl s)=true then (lG s 6,true) else (0,false)
def Vi(m:Int):Bool:=decide (m%281474976710656/4294967296=512)
def On(m:Int):Bool:=decide (m<=281474976710655)&&!(Vi m)&&!(J5 m.toNat)
def M3(one:ByteArray->Int×Bool):List Int->List ByteArray->List Int×Bool
 |out,[]=>(out,true)
 |out,p::r=>if (one p).2=false\/out.length=16\/(∃x,out.getLast? = some x/\(one p).1<=x) then ([],false) else M3 one (out++[(one p).1]) r
def L5(one:ByteArray->Int×Bool)(s:ByteArray):List Int×Bool:=M3 one [] (Bd 44 s)
def dash:ByteArray:=⟨#[45]⟩
def Hh(g:Int)(s:ByteArray):List Int×Bool:=if s=dash then ([],true) else L5 (λp=>Iq p 1 g) s
def Io(s:ByteArray):List Int×Bool:=L5 H7 s
def Dt(s:ByteArray):(Int×Int)×Bool :=
 if (Ib 47 s).2.2=false\/(H7 (Ib 47 s).1).2=false\/(Ul (Ib 47 s).2.1 32).2=false then ((0,0),false) else (((H7 (Ib 47 s).1).1,(Ul (Ib 47 s).2.1 32).1),true)
def K4(a bits:Int):Bool:=decide (1<=bits)&&decide (bits<=30)&&decide (a≠I0 a bits)&&decide (a≠Lq a bits)
def Ca:List (Bool×Int)->Int
 |[]=>0
 |(b,e)::l=>if b=true then e else Ca l
def Ay(g:Int)(b:Bool)(e:Int):Int:=if b=true/\g=0 then e else g
def Ea(s:ByteArray):Int :=
 if s=⟨#[100,101,118,105,99,101]⟩ then 1 else if s=⟨#[112,111,114,116]⟩ then 2 else if s=⟨#[108,105,110,107]⟩ then 3 else if s=⟨#[115,116,97,116,105,99]⟩ then 4
 else if s=⟨#[118,116,101,112]⟩ then 5 else if s=⟨#[118,110,105]⟩ then 6 else if s=⟨#[102,108,111,111,100]⟩ then 7 else if s=⟨#[118,114,102]⟩ then 8 else if s=⟨#[105,114,98]⟩ then 9 else 0
def Lg:ByteArray:=⟨#[97,99,99,101,115,115]⟩
def Kj:ByteArray:=⟨#[116,114,117,110,107]⟩
def A4(w:List ByteArray)(i:Nat):ByteArray:=(w[i]?).getD ⟨#[]⟩
def T8(k:Int)(w:List ByteArray):Bool :=
 if k=0 then false
 else if k=2 then (if w.length<6 then false else if A4 w 4=Lg then decide (w.length=6) else if A4 w 4=Kj then decide (w.length=7) else decide (w.length<=7))
 else if k=3\/k=4\/k=8\/k=9 then decide (w.length=5) else if k=5 then decide (w.length=3) else decide (w.length=4)
def Cs(g:Int)(tagged:List Int):Bool:=(decide (0<g)||!tagged.isEmpty)&&!(tagged.contains g)
def Ba:A2:=⟨0,0,⟨#[]⟩,⟨#[]⟩,⟨#[]⟩,⟨#[]⟩,⟨#[]⟩,0,0,0,0,0,0,[],[],[],[]⟩
def Ee(s:ByteArray):Int×Bool:=Iq s 1 4094
def Ze(s:ByteArray):Int×Bool:=Iq s 1 16777215
def If(w:List ByteArray):Int×List Int×List (Bool×Int) :=
 if A4 w 4=Lg then ((Ee (A4 w 5)).1,[],[(!(Ee (A4 w 5)).2,21)])
 else if A4 w 4=Kj then
  (if A4 w 5=dash then (0,(Hh 4094 (A4 w 6)).1,[(!(Hh 4094 (A4 w 6)).2,21)])
   else ((Ee (A4 w 5)).1,(Hh 4094 (A4 w 6)).1,[(!(Ee (A4 w 5)).2,21),(!(Hh 4094 (A4 w 6)).2,21)]))
 else (0,[],[])
def C0(w:List ByteArray)(row:Int):A2×List (Bool×Int) :=
 let n:=λi=>(!(A5 (A4 w i)),(20:Int))
 let k:=Ea (A4 w 0)
 if k=1 then ({Ba with row:=row,kind:=1,q:=A4 w 1,num:=(Iq (A4 w 2) 0 65535).1,an:=(Sv (A4 w 3)).1},[n 1,(!(Iq (A4 w 2) 0 65535).2,21),(!((Sv (A4 w 3)).2&&On (Sv (A4 w 3)).1),21)])
 else if k=2 then ({ Ba with row:=row,kind:=2,q:=A4 w 1,ac:=A4 w 2,aj:=(Iq (A4 w 3) 1 65535).1,z:=(If w).1,u:=(If w).2.1 },
  [n 1,n 2,(!(Iq (A4 w 3) 1 65535).2,21),(decide (A4 w 4≠Lg) && decide (A4 w 4≠Kj),20)]++(If w).2.2++[(!(Cs (If w).1 (If w).2.1),21)])
 else if k=3 then ({Ba with row:=row,kind:=3,q:=A4 w 1,ac:=A4 w 2,peer:=A4 w 3,bi:=A4 w 4},[n 1,n 2,n 3,n 4])
 else if k=4 then ({Ba with row:=row,kind:=4,q:=A4 w 1,z:=(Ee (A4 w 2)).1,an:=(Sv (A4 w 3)).1,ac:=A4 w 4},[n 1,(!(Ee (A4 w 2)).2,21),(!((Sv (A4 w 3)).2&&On (Sv (A4 w 3)).1),21),n 4])
 else if k=5 then ({Ba with row:=row,kind:=5,q:=A4 w 1,addr:=(H7 (A4 w 2)).1},[n 1,(!((H7 (A4 w 2)).2&&decide ((H7 (A4 w 2)).1≠0)),21)])
 else if k=6 then ({Ba with row:=row,kind:=6,q:=A4 w 1,z:=(Ee (A4 w 2)).1,num:=(Ze (A4 w 3)).1},[n 1,(!(Ee (A4 w 2)).2,21),(!(Ze (A4 w 3)).2,21)])
 else if k=7 then ({Ba with row:=row,kind:=7,q:=A4 w 1,num:=(Ze (A4 w 2)).1,aa:=(Io (A4 w 3)).1},[n 1,(!(Ze (A4 w 2)).2,21),(!((Io (A4 w 3)).2&&decide ((Io (A4 w 3)).1.head? ≠ some 0)),21)])
 else if k=8 then ({Ba with row:=row,kind:=8,q:=A4 w 1,name:=A4 w 2,ak:=(Hh 65535 (A4 w 3)).1,am:=(Hh 65535 (A4 w 4)).1},[n 1,n 2,(!(Hh 65535 (A4 w 3)).2,21),(!(Hh 65535 (A4 w 4)).2,21)])
 else ({ Ba with row:=row,kind:=9,q:=A4 w 1,z:=(Ee (A4 w 2)).1,name:=A4 w 3,addr:=(Dt (A4 w 4)).1.1,bits:=(Dt (A4 w 4)).1.2 },
  [n 1,(!(Ee (A4 w 2)).2,21),n 3,(!((Dt (A4 w 4)).2 && K4 (Dt (A4 w 4)).1.1 (Dt (A4 w 4)).1.2),21)])
def Dh(w:List ByteArray)(row:Int):A2×Int :=
 if w=[]\/T8 (Ea (A4 w 0)) w=false then (Ba,22) else if Ca (C0 w row).2≠0 then (Ba,Ca (C0 w row).2) else ((C0 w row).1,0)
def Og(g:List UInt8):List ByteArray:=if g=[] then [] else [Hl g]
def Kc:List UInt8->List UInt8->List ByteArray
 |g,[]=>Og g
 |g,c::r=>if c=35 then Og g else if c=32\/c=9 then Og g++Kc [] r else Kc (g++[c]) r
def Ar3(c:UInt8):Bool:=decide (32<c.toNat)&&decide (c.toNat<=126)&&decide (c.toNat≠35)
def lM(s:ByteArray):Bool:=decide (0<s.size)&&decide (s.size<=40)&&s.data.toList.all Ar3
def Iu(row:ByteArray):List ByteArray×Int:=if (Kc [] row.data.toList).all lM=true then (Kc [] row.data.toList,0) else ([],20)
def K3:Nat->List ByteArray->List A2->List A2×Int×Int
 |_,[],out=>(out,0,0)
 |i,r::g,out=>
  if (Iu r).2≠0 then ([],(i:Int)+1,(Iu r).2) else if (Iu r).1=[] then K3 (i+1) g out
  else if (Dh (Iu r).1 ((i:Int)+1)).2≠0 then ([],(i:Int)+1,(Dh (Iu r).1 ((i:Int)+1)).2) else K3 (i+1) g (out++[(Dh (Iu r).1 ((i:Int)+1)).1])
def Lk(b:List UInt8):List A2×Int×Int:=if (H5 b).2≠0 then ([],0,(H5 b).2) else K3 0 (H5 b).1 []
def As4(a b:A2):Bool :=
 a.row == b.row && (a.kind == b.kind && (a.q == b.q && (a.ac == b.ac && (a.peer == b.peer && (a.bi == b.bi && (a.name == b.name && (a.an == b.an && (a.addr == b.addr && (a.bits == b.bits &&
 (a.z == b.z && (a.num == b.num && (a.aj == b.aj && (a.u == b.u && (a.ak == b.ak && (a.am == b.am && a.aa == b.aa)))))))))))))))
def Ds(n lo hi:Int):Bool:=decide (lo<=n)&&decide (n<=hi)
abbrev Jm(l:List Int)(hi:Int):Bool:=cA l hi
def Sr(l:List Int):Bool:=(List.range l.length).all (λi=>decide (l.getD i 0≠0)&&(i==0||decide (l.getD (i-1) 0<l.getD i 0)))&&(decide (0<l.length)&&decide (l.length<=16))
def Cq(l:A2):A2×Bool :=
 let u:A2:={Ba with row:=l.row,kind:=l.kind,q:=l.q}
 if l.kind=1 then ({u with num:=l.num,an:=l.an},Ds l.num 0 65535&&On l.an)
 else if l.kind=2 then ({u with ac:=l.ac,aj:=l.aj,z:=l.z,u:=l.u},A5 l.ac&&(Ds l.aj 1 65535&&(Ds l.z 0 4094&&(Jm l.u 4094&&Cs l.z l.u))))
 else if l.kind=3 then ({u with ac:=l.ac,peer:=l.peer,bi:=l.bi},A5 l.ac&&(A5 l.peer&&A5 l.bi))
 else if l.kind=4 then ({u with z:=l.z,an:=l.an,ac:=l.ac},Ds l.z 1 4094&&(On l.an&&A5 l.ac))
 else if l.kind=5 then ({u with addr:=l.addr},decide (l.addr≠0))
 else if l.kind=6 then ({u with z:=l.z,num:=l.num},Ds l.z 1 4094&&Ds l.num 1 16777215)
 else if l.kind=7 then ({u with num:=l.num,aa:=l.aa},Ds l.num 1 16777215&&Sr l.aa)
 else if l.kind=8 then ({u with name:=l.name,ak:=l.ak,am:=l.am},A5 l.name&&(Jm l.ak 65535&&Jm l.am 65535))
 else if l.kind=9 then ({u with z:=l.z,name:=l.name,addr:=l.addr,bits:=l.bits},Ds l.z 1 4094&&(A5 l.name&&K4 l.addr l.bits))
 else (u,false)
def Hp(l:A2):Bool:=(Cq l).2&&(A5 l.q&&As4 (Cq l).1 l)
attribute [local irreducible]G DR
set_option maxRecDepth 100000
def A44{s:ByteArray}(h:s.size=0):s=⟨#[]⟩:=by
 have g:s.data.toList.length=0:=h;exact Sm (yF g)
def A60(s:ByteArray)(P:s.size<=1000000):Sp 63 [Ap s] (Ab (lM s)):=cT F63 ntmps63 λF hF=>by
 have az:s.data.toList.length=s.size:=rfl;have g:=lM.eq_1 s;obtain ⟨r,hr⟩:=kE (lM s);rw[hr]at g|-;refine T ?_;refine Bb s.size (λj=>Ic (λ_ c=>Ar3 c) s.data.toList j) (λj=>[(0,Ap s),(5,Aa s.size),(6,Aa j)]) (λ_=>[]) [] (Bn _ _) U ?_;intro j hj t;refine gP ?_ ?_<;>intro h
 .have I:j<s.data.toList.length:=qA h;have hb:Cb s j=s.data.toList[j]:=aL I;have l:=λh=>@all_at' _ Ar3 s.data.toList j I h
  have R:=λh=>Bk (p:=λ_ c=>Ar3 c) t I h
  rw[<-hb]at l R;clear h;have o:Ar3 (Cb s j)=(decide (32<(Cb s j).toNat)&&decide ((Cb s j).toNat<=126)&&decide ((Cb s j).toNat≠35)):=rfl;by_cases h1:32<(Cb s j).toNat
  .by_cases h2:(Cb s j).toNat<=126
   .by_cases h3:(Cb s j).toNat=35
    .rw[l (by rw[o];simp[h3]),wR]at g;subst g;exact gA
    .refine T ?_;exact A6 [] t j_ (R (by rw[o];simp[h1,h2,h3])) U
   .rw[l (by rw[o];simp[h2]),wR]at g;subst g;exact gA
  .rw[l (by rw[o];simp[h1]),wR]at g;subst g;exact gA
 .have bu:j=s.size:=qB h;subst bu;rw[fZ t (yG _),uP]at g;clear h;by_cases J:s.size=0
  .have P:=A44 J;have i:(s==(⟨#[]⟩:ByteArray))=true:=(Tw _ _).2 P;have g:r=false:=by rw[g,J];rfl
   have d5:(!(s==(⟨#[]⟩:ByteArray)))=false:=by rw[i];rfl
   subst g;exact gA
  .have i:(s==(⟨#[]⟩:ByteArray))=false:=by
    cases i:(s==(⟨#[]⟩:ByteArray))
    .rfl
    .exact zW (by rw[(Tw _ _).1 i];rfl) J
   have d5:(!(s==(⟨#[]⟩:ByteArray)))=true:=by rw[i];rfl
   by_cases h4:s.size<=40
   .have g:r=true:=by rw[g];simp[h4];omega
    subst g;refine T ?_;refine Av q_ As (zH Ab ?_) q_;exact(zL j_).symm
   .have g:r=false:=by rw[g];simp[h4]
    subst g;refine T ?_;refine Av q_ As (zH Ab ?_) q_;exact(zJ j_).symm
abbrev strO(row:ByteArray)(f:Nat)(l:List ByteArray):It:=[(1,.box [Aa f]),(2,.box [.osl 3]),(3,.row 1 Ap l),(4,.box [Ap row])]
abbrev strN(row:ByteArray)(f:Nat)(l:List ByteArray):It:=[(1,.box [Aa f]),(2,.box [.osl 5]),(3,.non),(5,.row 1 Ap l),(4,.box [Ap row])]
def A9h(row:ByteArray)(f i:Nat)(l:List ByteArray)(r:f<=i)(hi:i<=row.size)(t:row.size<=1000000)(I:l.length<=1000000):Sq 123 [Aa i,.ptr 1 0,.ptr 2 0,.ptr 4 0] (strO row f l) (.tup []) (strN row (i+1) (l++Og ((row.data.toList.take i).drop f))):=cT F123 ntmps123 λF J=>by
 have P:row.data.toList.length=row.size:=rfl;have g:row.extract f i=Hl ((row.data.toList.take i).drop f):=by rw[<-H8,Jw]
 refine gP ?_ ?_<;>intro h
 .have j:f<i:=qA h;have o:(row.data.toList.take i).drop f≠[]:=λe=>by
   have:=zH List.length e;rw[yP,zY]at this;simp at this;omega
  rw[Og,zD o,<-g];refine T ?_;refine⟨⟨by omega,by omega,by omega⟩,?_⟩;refine T ?_;refine Xd (Ah Γ.toTy 14 q_ q_ q_ q_ q_ (.row q_) (.lit (e:=Ap) (l:=[row.extract f i]) q_ q_) qx kO kO) ?_;refine T ?_;exact Bf q_ .nil [(5,14)] (strN row (i+1) (l++[row.extract f i])) (λ_ h=>h) q_ q_ U
 .have j:¬f<i:=qB h;have p:(row.data.toList.take i).drop f=[]:=vP (by rw[zY];omega);rw[p,Og,zE rfl,yV];refine eV 3 1000 q_ q_ qq (T ?_);exact Bf q_ .nil [(5,1000)] (strN row (i+1) l) (λ_ h=>h) q_ q_ U
def Ax3(row:ByteArray)(hs:row.size<=100000):Sp 62 [Ap row] (.sl 1 Ap (Kc [] row.data.toList)):=cT F62 ntmps62 λF hF=>by
 have az:row.data.toList.length=row.size:=rfl;refine T ?_;refine Zb 3 0 1000 1 Ap q_ q_ q_ q_ ?_;refine T ?_;refine Dc (λx:List ByteArray×Nat×Nat=>Kc [] row.data.toList=x.1++Kc ((row.data.toList.take x.2.2).drop x.2.1) (row.data.toList.drop x.2.2)/\x.2.1<=x.2.2/\x.2.2<=row.size/\x.1.length<=x.2.2)
  (λx=>[(1,.ptr 1 0),(3,.ptr 3 0),(5,.clo (.func 123) [] [.ptr 4 0,.ptr 3 0,.ptr 1 0]),(6,Aa x.2.2)]) (λx=>[(1,.box [Ap row]),(3,.box [.osl 1000]),(4,.box [Aa x.2.1]),(1000,.row 1 Ap x.1)]) (λx=>row.size-x.2.2) ([],0,0) [] ⟨rfl,by simp,by simp,by simp⟩ U ?_
 rintro ⟨l,f,i⟩ ⟨g,j,zh,o⟩;dsimp only at g j zh o|-;have q:=λi j hi=>A9h row f i l j hi j_ j_
 refine gP ?_ ?_<;>intro h
 .have I:i<row.size:=qA h;have J:i<row.data.toList.length:=I;have hb:Cb row i=row.data.toList[i]:=aL J;have P:row.data.toList.drop i=row.data.toList[i]::row.data.toList.drop (i+1):=yK J;have R:(row.data.toList.take (i+1)).drop f=(row.data.toList.take i).drop f++[row.data.toList[i]]:=by
   rw[zZ J,List.drop_append_of_le_length (by rw[zY];omega)]
  rw[<-hb]at P R;have q:=q i j j_;clear h;rw[P,Kc]at g;have p:(l++Og ((row.data.toList.take i).drop f)).length<=i+1:=by
   rw[Og];split<;>simp<;>omega
  have e0:(row.data.toList.take (i+1)).drop (i+1)=[]:=vP (by rw[zY];omega);have r:Cb row i=35↔(Cb row i).toNat=35:=⟨λe=>by rw[e];rfl,λe=>UInt8.toNat_inj.1 e⟩
  have t:Cb row i=32↔(Cb row i).toNat=32:=⟨λe=>by rw[e];rfl,λe=>UInt8.toNat_inj.1 e⟩
  have h9:Cb row i=9↔(Cb row i).toNat=9:=⟨λe=>by rw[e];rfl,λe=>UInt8.toNat_inj.1 e⟩
  by_cases c1:(Cb row i).toNat=35
  .rw[zE (r.2 c1)]at g;rw[g];refine T ?_;refine X (A1 [(1,4),(2,3),(3,1000),(4,1),(5,900)] (A3 q_ q_ F123) q q_ W q_ V) ?_;exact Ao 900 q_ gA
  .rw[zD (λe=>c1 (r.1 e))]at g;by_cases c2:(Cb row i).toNat=32\/(Cb row i).toNat=9
   .rw[zE (c2.elim (λe=>.inl (t.2 e)) (λe=>.inr (h9.2 e)))]at g;by_cases c3:(Cb row i).toNat=32
    .refine T ?_;refine X (A1 [(1,4),(2,3),(3,1000),(4,1),(5,900)] (A3 q_ q_ F123) q q_ W q_ V) ?_;refine A8 (l++Og ((row.data.toList.take i).drop f),i+1,i+1) [(1000,900)] ⟨?_,yG _,I,p⟩ (by dsimp only;omega) U;dsimp only;rw[g,yW,e0]
    .refine T ?_;refine X (A1 [(1,4),(2,3),(3,1000),(4,1),(5,900)] (A3 q_ q_ F123) q q_ W q_ V) ?_;refine A8 (l++Og ((row.data.toList.take i).drop f),i+1,i+1) [(1000,900)] ⟨?_,yG _,I,p⟩ (by dsimp only;omega) U;dsimp only;rw[g,yW,e0]
   .simp only[vY]at c2;rw[zD (by rw[t,h9];omega)]at g;refine T ?_;refine A8 (l,f,i+1) [] ⟨?_,by dsimp only;omega,I,by dsimp only;omega⟩ (by dsimp only;omega) U;dsimp only;rw[g,R]
 .have ui:i=row.size:=qB h;subst ui;have q:=q row.size j j_;have gg:row.data.toList.drop row.size=[]:=by rw[<-az,wO]
  rw[gg,Kc]at g;rw[g];clear h;refine T ?_;refine X (A1 [(1,4),(2,3),(3,1000),(4,1),(5,900)] (A3 q_ q_ F123) q q_ W q_ V) ?_;exact Ao 900 q_ gA
def Wz:∀(l g:List UInt8),(Kc g l).length<=l.length+1
 |[],g=>by rw[Kc,Og];split<;>simp
 |c::l,g=>by
  rw[Kc];have i:=Wz l [];have j:=Wz l (g++[c]);have o:(Og g).length<=1:=by rw[Og];split<;>simp
  split
  .simp;omega
  .split
   .simp;omega
   .simp;omega
def Zd:∀(l i:List UInt8),∀s∈Kc i l,s.size<=i.length+l.length
 |[],i,s,g=>by
  rw[Kc,Og]at g;split at g
  .cases g
  .simp at g;rw[g,Dp];simp
 |c::l,i,s,g=>by
  have j:∀s∈Og i,s.size<=i.length:=λs g=>by
   rw[Og]at g;split at g
   .cases g
   .simp at g;rw[g,Dp];exact yG _
  rw[Kc]at g;split at g
  .have:=j s g;omega
  .split at g
   .rcases yJ.1 g with g|g
    .have:=j s g;omega
    .have:=Zd l [] s g;simp at this|-;omega
   .have:=Zd l (i++[c]) s g;simp at this|-;omega
def Ajh(row:ByteArray)(I:row.size<=100000):Sp 30 [Ap row] (.tup [.sl 1 Ap (Iu row).1,Aa (Iu row).2]):=cT F30 ntmps30 λF hF=>by
 have q:=Ax3 row I;have g:=Iu.eq_1 row;have r:=Wz row.data.toList [];have J:=Zd row.data.toList [];have vq:row.data.toList.length=row.size:=rfl;generalize Iu row=P at *;generalize Kc [] row.data.toList=l at *;refine gD q F62 ?_;refine Bb l.length (λj=>Ic (λ_ s=>lM s) l j) (λj=>[(4,.sl 1 Ap l),(9,.sl 1 Ap l),(10,Aa l.length),(11,Aa j)]) (λ_=>[]) [] (Bn _ _) U ?_;intro j hj o;refine gP ?_ ?_<;>intro h
 .have i:j<l.length:=qA h;have t:(j:Int).toNat<l.length:=i;have R:=λh=>@all_at' _ lM l j i h
  have du:=λh=>Bk (p:=λ_ s=>lM s) o i h
  have rp:=J l[j] (zI i);clear h;refine T ?_;refine C (A60 (l[(j:Int).toNat]'t) (by rw[show l[(j:Int).toNat]'t=l[j] from q_];simp at rp;omega)) F63 ?_;constructor<;>intro h
  .have hf:lM l[j]=false:=by simpa using h
   rw[zD (by rw[R hf];simp)]at g;subst g;refine T ?_;exact Ar 2 1 Ap q_ gA
  .have ht:lM l[j]=true:=by simpa using h
   refine T ?_;exact A6 [] o j_ (du ht) U
 .have bu:j=l.length:=qB h;subst bu;rw[zE (fZ o (yG _))]at g;subst g;exact gA
structure Adw(l:A2):Prop where
 t:l.u.length<=100000
 i:l.ak.length<=100000
 e:l.am.length<=100000
 a:l.aa.length<=100000
def nC(i:Nat)(c:UInt8):Bool:=A61 c||(M6 c&&decide (i≠0))
def Ba3(s:ByteArray):A5 s=(Lu nC s.data.toList&&(decide (0<s.size)&&decide (s.size<=12))):=by
 have g:s.data.toList.length=s.size:=rfl;rw[A5,<-g];cases r:s.data.toList with
 |nil=>rfl
 |cons c l=>
  have e:Lu nC (c::l)=(A61 c&&l.all λc=>A61 c||M6 c):=by
   rw[xY,Cm,zG,yX];constructor
   .intro h;refine⟨by have:=h 0 qx;simpa [nC] using this,λx j=>?_⟩;obtain ⟨i,hi,rfl⟩:=yY.1 j;have:=h (i+1) kO;simpa [nC] using this
   .rintro ⟨o,p⟩ i hi;cases i with
    |zero=>simp[nC,o]
    |succ i=>
     have:=p (l[i]'(by simp at hi;omega)) (zI _);simpa [nC] using this
  rw[e,Ba2];simp
def Ju(s:ByteArray)(hs:s.size<=1000000):Sp 64 [Ap s] (Ab (A5 s)):=cT F64 ntmps64 λF hF=>by
 have az:s.data.toList.length=s.size:=rfl;have g:=Ba3 s;obtain ⟨r,P⟩:=kE (A5 s);rw[P]at g|-;refine T ?_;refine Bb s.size (λj=>Ic nC s.data.toList j) (λj=>[(0,Ap s),(7,Aa s.size),(8,Aa j)]) (λ_=>[]) [] (Bn _ _) U ?_;intro j hj t;refine gP ?_ ?_<;>intro h
 .have I:j<s.data.toList.length:=qA h;have R:Cb s j=s.data.toList[j]:=aL I;have l:=λh=>Ew (p:=nC) I h
  have J:=λh=>Bk (p:=nC) t I h
  rw[<-R]at l J;clear h;have i:nC j (Cb s j)=((decide (97<=(Cb s j).toNat)&&decide ((Cb s j).toNat<=122))||((decide (48<=(Cb s j).toNat)&&decide ((Cb s j).toNat<=57))&&decide (j≠0))):=rfl;rcases (by omega:(Cb s j).toNat<48\/(48<=(Cb s j).toNat/\(Cb s j).toNat<=57)\/(57<(Cb s j).toNat/\(Cb s j).toNat<97)\/(97<=(Cb s j).toNat/\(Cb s j).toNat<=122)\/122<(Cb s j).toNat) with h|h|h|h|h
  .rw[l (by rw[i,zJ (by omega:¬97<=(Cb s j).toNat),zJ (by omega:¬48<=(Cb s j).toNat)];rfl),yE]at g;subst g;exact gA
  .by_cases o:j=0
   .subst o;rw[l (by rw[i,zJ (by omega:¬97<=(Cb s 0).toNat)];simp),yE]at g;subst g;exact gA
   .refine T ?_;exact A6 [] t j_ (J (by rw[i];simp[h,o])) U
  .rw[l (by rw[i,zJ (by omega:¬97<=(Cb s j).toNat),zJ (by omega:¬(Cb s j).toNat<=57)];simp),yE]at g;subst g;exact gA
  .refine T ?_;exact A6 [] t j_ (J (by rw[i];simp[h])) U
  .rw[l (by rw[i,zJ (by omega:¬(Cb s j).toNat<=122),zJ (by omega:¬(Cb s j).toNat<=57)];simp),yE]at g;subst g;exact gA
 .have bu:j=s.size:=qB h;subst bu;rw[Ki t (yG _),yB]at g;clear h;subst g;by_cases o:0<s.size
  .refine T ?_;refine⟨λ_=>?_,λh=>zW (zQ h) j_⟩;refine T ?_;refine Av q_ As (zH Ab ?_) q_;rw[zL o,yB];exact decide_eq_decide.2 j_
  .rw[zJ o,yE];exact gA
def Ank(c:UInt8):Sp 270 [Ae c] (B1 (J1 c)):=cT F270 ntmps270 λF j=>by
 have g:=J1.eq_1 c;generalize J1 c=i at *;have l:=c.toNat_lt;rcases (by omega:c.toNat<48\/(48<=c.toNat/\c.toNat<=57)\/(57<c.toNat/\c.toNat<97)\/(97<=c.toNat/\c.toNat<=102)\/102<c.toNat) with h|h|h|h|h
 .rw[zD j_,zD j_]at g;subst g;exact gA
 .rw[zE j_]at g;subst g;refine T ?_;refine Av q_ As ?_ q_;refine zH (λz=>SV.val (.int .u64 z)) (?_:_=IntKind.u64.wrap (IntKind.u8.wrap ((c.toNat:Int)-48)));rw[IntKind.wrap_u8,IntKind.wrap_u64];omega
 .rw[zD j_,zD j_]at g;subst g;exact gA
 .rw[zD j_,zE j_]at g;subst g;refine T ?_;refine Av q_ As ?_ q_;refine zH (λz=>SV.val (.int .u64 z)) (?_:_=IntKind.u64.wrap (IntKind.u64.wrap (IntKind.u8.wrap ((c.toNat:Int)-97))+10));rw[IntKind.wrap_u8,IntKind.wrap_u64,IntKind.wrap_u64];omega
 .rw[zD j_,zD j_]at g;subst g;exact gA
def Aac{s:ByteArray}:∀{j:Nat},(∀i,i<j->Acl s i=true)->0<=lG s j/\lG s j<256^j
 |0,_=>by simp[lG]
 |j+1,h=>by
  have l:=Aac (s:=s) (j:=j) (λi hi=>h i j_);have g:=h j j_;simp only[Acl,zG,zK]at g;have o:=Xo (Cb s (3*j));have p:=Xo (Cb s (3*j+1));rw[lG,Int.pow_succ];omega
def Bbj(m a b:Nat)(hm:m<72057594037927936)(p:a<16)(r:b<16):bits .or .u64 (bits .or .u64 (IntKind.u64.wrap ((m:Int)*2^min (Int.toNat 8) IntKind.u64.bits)) (IntKind.u64.wrap ((a:Int)*2^min (Int.toNat 4) IntKind.u64.bits))) (b:Int)=((m*256+a*16+b:Nat):Int):=by
 have g:IntKind.u64.wrap ((m:Int)*2^min (Int.toNat 8) IntKind.u64.bits)=((m*256:Nat):Int):=by
  show IntKind.u64.wrap ((m:Int)*256)=_;rw[IntKind.wrap_u64];omega
 have j:IntKind.u64.wrap ((a:Int)*2^min (Int.toNat 4) IntKind.u64.bits)=((a*16:Nat):Int):=by
  show IntKind.u64.wrap ((a:Int)*16)=_;rw[IntKind.wrap_u64];omega
 have l:=xX (i:=8) (b:=a*16) j_ m;have o:=xX (i:=4) (b:=b) j_ (m*16+a);have f1:m*256|||a*16=m*256+a*16:=by rw[vJ m 256];exact l.symm
 have f2:(m*256+a*16)|||b=m*256+a*16+b:=by
  have e:m*256+a*16=2^4*(m*16+a):=by omega
  rw[e];exact o.symm
 rw[g,j,bits_or_u64_nat _ _ j_ j_,f1,bits_or_u64_nat _ _ j_ j_,f2]
def macR_no{s:ByteArray}{j:Nat}(i:j<6)(h:Acl s j=false):Sv s=(0,false):=by
 rw[Sv,zD];rintro ⟨_,g⟩;rw[yX]at g;rw[g j (xD.2 i)]at h;cases h
def Bbk(s:ByteArray)(hs:s.size<=1000000):Sp 213 [Ap s] (.tup [B1 (Sv s).1,Ab (Sv s).2]):=cT F213 ntmps213 λF hF=>by
 have o:=@macR_no s;have P:=Sv.eq_1 s;generalize Sv s=a0 at *;by_cases p:s.size=17;rotate_left
 .rw[zD (λe=>p e.1)]at P;subst P;exact gA
 refine T ?_;refine Bb 6 (λj=>∀i,i<j->Acl s i=true) (λj=>[(0,Ap s),(4,B1 (lG s j)),(11,Aa j)]) (λ_=>[]) [] (λi hi=>by omega) U ?_;intro j hj g;have R:=Aac g;refine gP ?_ ?_<;>intro h
 .have ab:j<6:=qA h;have o:=o ab;clear h;have i0:(3*((j:Nat):Int)).toNat=3*j:=by omega
  have i1:(3*((j:Nat):Int)+1).toNat=3*j+1:=by omega
  have i2:(3*((j:Nat):Int)+2).toNat=3*j+2:=by omega
  have l:Acl s j=(decide (J1 (Cb s (3*j))<=15)&&decide (J1 (Cb s (3*j+1))<=15)&&(decide (5<=j)||decide ((Cb s (3*j+2)).toNat=58))):=rfl;have hv:lG s (j+1)=lG s j*256+J1 (Cb s (3*j))*16+J1 (Cb s (3*j+1)):=rfl;rw[<-i1,<-i2,<-i0]at l;rw[<-i1,<-i0]at hv;have d1:=Xo (Cb s (3*((j:Nat):Int)).toNat);have d2:=Xo (Cb s (3*((j:Nat):Int)+1).toNat);have r:=Ank (Cb s (3*((j:Nat):Int)).toNat);have t:=Ank (Cb s (3*((j:Nat):Int)+1).toNat);by_cases c1:J1 (Cb s (3*((j:Nat):Int)).toNat)<=15
  .have f1:decide (J1 (Cb s (3*((j:Nat):Int)).toNat)>15)=false:=zJ j_;by_cases c2:J1 (Cb s (3*((j:Nat):Int)+1).toNat)<=15
   .have f2:decide (J1 (Cb s (3*((j:Nat):Int)+1).toNat)>15)=false:=zJ j_;have hp:(256:Int)^j<=256^5:=by
     have:=vC (n:=256) qq (show j<=5 by omega)
     exact_mod_cast this
    have ck:=Bbj (lG s j).toNat (J1 (Cb s (3*((j:Nat):Int)).toNat)).toNat (J1 (Cb s (3*((j:Nat):Int)+1).toNat)).toNat j_ j_ j_;have I:((((lG s j).toNat*256+(J1 (Cb s (3*((j:Nat):Int)).toNat)).toNat*16+(J1 (Cb s (3*((j:Nat):Int)+1).toNat)).toNat:Nat)):Int)=lG s (j+1):=by rw[hv];omega
    rw[I,yQ R.1,yQ d1.1,yQ d2.1]at ck;by_cases c3:j<5
    .by_cases c4:(Cb s (3*((j:Nat):Int)+2).toNat).toNat=58
     .have f4:(((Cb s (3*((j:Nat):Int)+2).toNat).toNat:Int) != 58)=false:=by rw[c4];rfl
      have J:Acl s j=true:=by rw[l,c4];simp[c1,c2]
      refine gB r F270 t F270 ?_;exact A6 [] g ab (λ i hi=>by
       by_cases e:i=j
       .rw[e];exact J
       .exact g i j_) ⟨⟨q_,q_,zH B1 ck.symm,q_,q_,q_,z_⟩,z_,q_,q_⟩
     .have f4:(((Cb s (3*((j:Nat):Int)+2).toNat).toNat:Int) != 58)=true:=by
       rw[xF];omega
      have J:Acl s j=false:=by rw[l,zJ c4,zJ (by omega:¬5<=j)];simp
      rw[o J];refine gB r F270 t F270 ?_;exact D
    .have J:Acl s j=true:=by rw[l];simp[c1,c2];omega
     refine gB r F270 t F270 ?_;exact A6 [] g ab (λ i hi=>by
      by_cases e:i=j
      .rw[e];exact J
      .exact g i j_) ⟨⟨q_,q_,zH B1 ck.symm,q_,q_,q_,z_⟩,z_,q_,q_⟩
   .have f2:decide (J1 (Cb s (3*((j:Nat):Int)+1).toNat)>15)=true:=zL j_;rw[o (by rw[l,zJ c2];simp)];refine gB r F270 t F270 ?_;exact D
  .have f1:decide (J1 (Cb s (3*((j:Nat):Int)).toNat)>15)=true:=zL j_;rw[o (by rw[l,zJ c1];rfl)];refine gB r F270 t F270 ?_;exact D
 .have bu:j=6:=qB h;subst bu;clear h;rw[zE ⟨p,by rw[yX];intro i hi;exact g i (xD.1 hi)⟩]at P;subst P;exact gA
def Ave(m:Nat)(h:m<18446744073709551616):(((bits .and .u64 (m:Int) 281474976710655).fdiv (2^min (Int.toNat 32) IntKind.u64.bits)) != 512)=!(Vi m):=by
 have e:=bits_and_u64_nat m 281474976710655 h qq;have g:m&&&281474976710655=m%281474976710656:=uN m 48;have i:bits .and .u64 (m:Int) 281474976710655=((m%281474976710656:Nat):Int):=by rw[<-g];exact e
 have j:((m%281474976710656:Nat):Int).fdiv (2^min (Int.toNat 32) IntKind.u64.bits)=((m%281474976710656/4294967296:Nat):Int):=by
  show ((m%281474976710656:Nat):Int).fdiv 4294967296=_;rw[wM _ qq,Int.natCast_ediv];rfl
 rw[i,j,Vi];by_cases l:m%281474976710656/4294967296=512
 .rw[l,zL j_];rfl
 .rw[zJ j_];simp;omega
def Bb6(m:Int):Int:=if Vi m=true then IntKind.u32.wrap (bits .and .u64 m 281474976710655) else 0
def Bfc(m:Nat)(h:m<18446744073709551616):Sp 271 [B1 m] (.tup [Bo (Bb6 m),Ab (Vi m)]):=cT F271 ntmps271 λF j=>by
 have g:=Ave m h;rw[Bb6];cases i:Vi m with
 |true=>
  have g:=g.trans (by rw[i];rfl:_=false);rw[zE rfl];exact gA
 |false=>
  have g:=g.trans (by rw[i];rfl:_=true);rw[zD qx];exact gA
def A6u(m:Nat)(h:m<18446744073709551616):Sp 234 [B1 m] (Ab (J5 m)):=cT F234 ntmps234 λF i=>by
 have g:=An5 m h;refine T ?_;exact Av q_ As (zH Ab g.symm) q_
def Ah3(m:Nat)(h:m<18446744073709551616):Sp 214 [B1 m] (Ab (On m)):=cT F214 ntmps214 λF p=>by
 have i:=Bfc m h;have o:=A6u m h;have g:=On.eq_1 (m:Int);rw[yA]at g;generalize On (m:Int)=r at *;generalize Bb6 (m:Int)=t at *;by_cases j:(m:Int)<=281474976710655
 .rw[zL j,yB]at g;have f1:decide ((m:Int)<=281474976710655)=true:=zL j;cases l:Vi m with
  |true=>
   rw[l]at i g;simp at g;subst g;refine gD i F271 ?_;exact D
  |false=>
   rw[l]at i g;simp at g;subst g;refine gB i F271 o F234 ?_;exact D
 .rw[zJ j]at g;have f1:decide ((m:Int)<=281474976710655)=false:=zJ j;simp at g;subst g;refine gD i F271 ?_;exact D
def Wh(one:ByteArray->Int×Bool)(out:List Int)(s:ByteArray)(b:Bool):List Int×Bool:=if b=true then M3 one out (Bd 44 s) else (out,true)
def Bb1{c:UInt8}:∀{l:List UInt8},0<=Lib.indexByte l c->c∈l
 |[],h=>by simp[Lib.indexByte]at h
 |b::l,h=>by
  unfold Lib.indexByte at h;by_cases g:(b==c)=true
  .simp at g;simp[g]
  .rw[zD g]at h;by_cases i:(Lib.indexByte l c == -1)=true
   .rw[zE i]at h;omega
   .rw[zD i]at h;have:=Sf l c;have j:Lib.indexByte l c≠-1:=kS i;exact List.mem_cons_of_mem _ (Bb1 j_)
def Ajp(one:ByteArray->Int×Bool)(out:List Int)(s:ByteArray):Wh one out s true=(if (one (Ib 44 s).1).2=false\/out.length=16\/(∃x,out.getLast? = some x/\(one (Ib 44 s).1).1<=x) then ([],false) else Wh one (out++[(one (Ib 44 s).1).1]) (Ib 44 s).2.1 (Ib 44 s).2.2):=by
 rw[Wh,zE rfl,Vn];have g:s.data.toList.length=s.size:=rfl;have j:∀i,s.extract 0 i=Hl (s.data.toList.take i):=λi=>by rw[<-Jw s,H8,Jy];simp
 by_cases h:0<=Lib.indexByte s.data.toList 44
 .have hm:=Bb1 h;have l:s.extract (Ua 44 s.data.toList+1) s.size=Hl (s.data.toList.drop (Ua 44 s.data.toList+1)):=by
   have:=H8 s.data.toList (Ua 44 s.data.toList+1) s.size;rw[Jw]at this;rw[this,<-g,yM]
  rw[Ib,zE h,Zk 44 _ _ hm,xO,M3,j,l];dsimp only;rw[Wh,zE rfl,Vn,Jy]
 .have hm:(44:UInt8)∉s.data.toList:=λo=>h (Mo o).1
  rw[Ib,zD h,U7 44 _ _ hm,xO,Jw,M3];simp only[Wh,zD (show ¬(false=true) by simp),M3]
def Aoo(s:ByteArray):(Ib 44 s).1.size<=s.size/\(Ib 44 s).2.1.size<=s.size/\((Ib 44 s).2.2=true->(Ib 44 s).2.1.size<s.size):=by
 have l:s.data.toList.length=s.size:=rfl;have o:=aB s.data.toList 44;have g:∀i j,(s.extract i j).size=((s.data.toList.take j).drop i).length:=λi j=>by
  have:=H8 s.data.toList i j;rw[Jw]at this;rw[this,Dp]
 rw[Ib];split
 .rename_i h;refine⟨?_,?_,λ_=>?_⟩
  .rw[g,yP,zY];omega
  .rw[g,yP,zY];omega
  .rw[g,yP,zY];have:Ua 44 s.data.toList+1<=s.data.toList.length:=by unfold Ua;omega
   omega
 .exact⟨yG _,xV _,λe=>by cases e⟩
theorem iC(v0:Int->SV){f0 m0:Nat}{t:Func}(F0:fT f0 t)(R:t.ntmps=m0)(h:let v0:Int->SV:=v0;fT f0 t->t.ntmps=m0->∀ (one:ByteArray->Int × Bool) (f:FuncId) (first cap:List SV) (j:(SV.clo (.func f) first cap).inn []=true) (I:∀ k:Nat->Nat,(SV.clo (.func f) first cap).ren k=.clo (.func f) first cap) (g:ByteArray) (hs:g.size<=10000) (hf:∀ p:ByteArray,p.size<=g.size->J3 prog f (first++[Ap p]++cap) (.tup [v0 (one p).1,Ab (one p).2])),Sp f0 [Ap g,.clo (.func f) first cap] (.tup [.sl 1 v0 (L5 one g).1,Ab (L5 one g).2]):=by
 intro v0 F0 R one f first cap j I g hs hf
 refine cT F0 R λF hF=>?_
 have aa:L5 one g=Wh one [] g true:=rfl;generalize L5 one g=a0 at *;have gz:(SV.clo (.func f) first cap).inn [1000]=true:=aA _ j;have br:∀y:SV,y.inn []=true->C7 [] (first++[y]++cap)=true:=λy hy=>by
  simp only[SV.inn,zG]at j;rw[Mn,Mn,j.1,j.2];simp[C7,hy]
 refine T ?_;refine Ct 6 1000 1 v0 q_ q_ (T ?_);refine Dc (λx:ByteArray×Bool×List Int=>a0=Wh one x.2.2 x.1 x.2.1/\x.1.size<=g.size/\x.2.2.length<=16) (λx=>[(0,Ap x.1),(1,.clo (.func f) first cap),(6,.osl 1000),(7,Ab x.2.1)]) (λx=>[(1000,.row 1 v0 x.2.2)]) (λx=>if x.2.1=true then x.1.size+1 else 0) (g,true,[]) [] ⟨aa,yG _,by simp⟩ ⟨⟨q_,q_,Br _,gz,q_,q_,q_,q_,z_⟩,⟨.inl q_,q_,z_⟩,q_,q_⟩ ?_;rintro ⟨s,b,out⟩ ⟨i,az,rq⟩;dsimp only at i az rq|-;cases b with
 |false=>
  rw[Wh,zD qx]at i;subst i;refine T ?_;exact Ao 1000 q_ gA
 |true=>
  have q1:=Abi s 44 j_;have gn:=Aoo s;rw[Ajp]at i;generalize Ib 44 s=ct at *;obtain ⟨p,r,m⟩:=ct;dsimp only at i gn q1;have q2:=hf p j_;generalize one p=op at *;obtain ⟨v,ok⟩:=op;dsimp only at i q2;refine gD q1 F16 ?_;refine Is q2 q_ q_ q_ (by simp only[br (Ap p) q_];rfl) q_ q_ ?_;cases ok with
  |false=>
   rw[zE (.inl rfl)]at i;subst i;refine T ?_;exact Ar 4 1 v0 q_ gA
  |true=>
   by_cases c1:out.length=16
   .rw[zE (.inr (.inl c1))]at i;subst i;refine T ?_;exact Ar 4 1 v0 q_ gA
   .by_cases c2:out.length=0
    .have hn:out=[]:=yF c2;rw[zD (by rw[hn];simp)]at i;refine T ?_;refine X (Ah Γ.toTy 49 q_ q_ q_ q_ q_ (.row q_) (.lit (e:=v0) (l:=[v]) q_ q_) qx kO kO) ?_;refine A8 (r,m,out++[v]) [(1000,49)] ⟨i,by dsimp only;omega,by simp;omega⟩ (by
      have h3:=gn.2.2;cases m
      .simp
      .have:=h3 rfl;simp;omega) ⟨⟨rfl,rfl,I _,gz,rfl,rfl,rfl,rfl,trivial⟩,⟨.inl rfl,rfl,trivial⟩,rfl,rfl⟩
    .have J:((out.length:Int)-1).toNat<out.length:=by omega
     have ju:out.getLast? = some (out[((out.length:Int)-1).toNat]'J):=by
      rw[List.getLast?_eq_getElem?,zT j_];congr 1;have:out.length-1=((out.length:Int)-1).toNat:=by omega
      simp only[this]
     have f2:decide ((out.length:Int)>0)=true:=zL j_;by_cases P:v<=out[((out.length:Int)-1).toNat]'J
     .have f3:decide (out[((out.length:Int)-1).toNat]'J>=v)=true:=zL P;rw[zE (.inr (.inr ⟨_,ju,P⟩))]at i;subst i;refine T ?_;exact Ar 4 1 v0 q_ gA
     .have f3:decide (out[((out.length:Int)-1).toNat]'J>=v)=false:=zJ P;rw[zD (by
       rintro (o|o|⟨x,hx,o⟩)
       .cases o
       .exact c1 o
       .rw[ju]at hx;simp only[Option.some.injEq]at hx;rw[<- hx]at o;exact P o)]at i
      refine T ?_;refine X (Ah Γ.toTy 49 q_ q_ q_ q_ q_ (.row q_) (.lit (e:=v0) (l:=[v]) q_ q_) qx kO kO) ?_;refine A8 (r,m,out++[v]) [(1000,49)] ⟨i,by dsimp only;omega,by simp;omega⟩ (by
      have h3:=gn.2.2;cases m
      .simp
      .have:=h3 rfl;simp;omega) ⟨⟨rfl,rfl,I _,gz,rfl,rfl,rfl,rfl,trivial⟩,⟨.inl rfl,rfl,trivial⟩,rfl,rfl⟩):∀ (one:ByteArray->Int × Bool) (f:FuncId) (first cap:List SV) (j:(SV.clo (.func f) first cap).inn []=true) (I:∀ k:Nat->Nat,(SV.clo (.func f) first cap).ren k=.clo (.func f) first cap) (g:ByteArray) (hs:g.size<=10000) (hf:∀ p:ByteArray,p.size<=g.size->J3 prog f (first++[Ap p]++cap) (.tup [v0 (one p).1,Ab (one p).2])),Sp f0 [Ap g,.clo (.func f) first cap] (.tup [.sl 1 v0 (L5 one g).1,Ab (L5 one g).2]):=h F0 R
def Auc:=iC Aa F273 ntmps273
def Aub:=iC Bo F218 ntmps218
def Aqi(p:ByteArray)(lo hi:Int):Sp 274 [Ap p,.ref 1 (Aa lo) 0,.ref 1 (Aa hi) 0] (.tup [Aa (Iq p lo hi).1,Ab (Iq p lo hi).2]):=cT F274 ntmps274 λF g=>by
 have q:=Acb p lo hi;generalize Iq p lo hi=r at *;refine gD q F129 ?_;exact D
def Aqh(s:ByteArray)(hi:Int)(g:s.size<=10000):Sp 219 [Ap s,Aa 1,Aa hi] (.tup [.sl 1 Aa (L5 (λp=>Iq p 1 hi) s).1,Ab (L5 (λp=>Iq p 1 hi) s).2]):=cT F219 ntmps219 λF i=>by
 have q:=Auc (λp=>Iq p 1 hi) 274 [] [.ref 1 (Aa 1) 0,.ref 1 (Aa hi) 0] rfl (λ_=>rfl) s g (λp _=>⟨⟨_,_,F274⟩,Aqi p 1 hi⟩);generalize L5 (λp=>Iq p 1 hi) s=r at *;refine T ?_;refine Bi 4 1 (Aa 1) q_ q_ q_ ?_;refine Bi 5 1 (Aa hi) q_ q_ q_ (gD q F273 ?_);exact D
def Alx(s:ByteArray)(g:s.size<=10000):Sp 147 [Ap s] (.tup [.sl 1 Bo (Io s).1,Ab (Io s).2]):=cT F147 ntmps147 λF i=>by
 have q:=Aub H7 144 [] [] rfl (λ_=>rfl) s g (λp hp=>⟨⟨_,_,F144⟩,Ae6 p j_⟩);unfold Io;generalize L5 H7 s=r at *;refine gD q F218 ?_;exact D
def Aw7(s:ByteArray)(P:s.size<=10000):Sp 149 [Ap s] (.tup [V6 (Dt s).1.1 (Dt s).1.2,Ab (Dt s).2]):=cT F149 ntmps149 λF R=>by
 have i:=Abi s 47 j_;have g:=Dt.eq_1 s;have o:(Ib 47 s).1.size<=s.size:=by
  rw[Ib];split
  .have:=H8 s.data.toList 0 (Ua 47 s.data.toList);rw[Jw]at this;rw[this,Dp,yP,zY];have:s.data.toList.length=s.size:=rfl;omega
  .exact yG _
 generalize Ib 47 s=ct at *;obtain ⟨p,r,m⟩:=ct;dsimp only at g o i;have j:=Ae6 p j_;have l:=Ak8 r 32;generalize Dt s=t at *;generalize H7 p=a at *;generalize Ul r 32=b at *;obtain ⟨av,I⟩:=a;obtain ⟨bv,J⟩:=b;dsimp only at g j l;cases m<;>cases I<;>cases J
 all_goals (simp at g;subst g)
 all_goals (refine T ?_;refine C i F16 ?_;refine C j F144 ?_;refine C l F217 ?_;exact D)
abbrev aR(w:List ByteArray)(i:Nat)(e:Int):It:=[(0,.box [.sl 1 Ap w,Aa i,Aa e])]
def E9{w:List ByteArray}{i:Nat}(h:i<w.length):A4 w i=w[i]:=by rw[A4,zT h];rfl
def Xb(w:List ByteArray)(i:Nat)(e:Int)(hi:i<w.length)(l:w.length<=1000000):Sq 145 [.ptr 0 0] (aR w i e) (Ap (A4 w i)) (aR w (i+1) e):=cT F145 ntmps145 λF o=>by
 have g:((i:Int)+1-1).toNat<w.length:=by omega
 have j:A4 w i=w[((i:Int)+1-1).toNat]'g:=by
  rw[E9 hi];have:((i:Int)+1-1).toNat=i:=by omega
  simp only[this]
 rw[j];refine T ?_;exact done q_ As [] (aR w (i+1) e) (λ_ h=>h) q_ q_ U
def O6(w:List ByteArray)(i:Nat)(e:Int)(b:Bool)(c:Int):Sq 142 [.ptr 0 0,Ab b,Aa c] (aR w i e) (.tup []) (aR w i (Ay e b c)):=cT F142 ntmps142 λF j=>by
 cases b with
 |false=>
  have g:Ay e false c=e:=by rw[Ay,zD qx]
  rw[g];refine T ?_;exact Bf q_ .nil [] (aR w i e) (λ_ h=>h) q_ q_ U
 |true=>
  by_cases h:e=0
  .have g:Ay e true c=c:=by rw[Ay,zE ⟨rfl,h⟩]
   rw[g];subst h;refine T ?_;exact Bf q_ .nil [] (aR w i c) (λ_ h=>h) q_ q_ U
  .have g:Ay e true c=e:=by rw[Ay,zD (λx=>h x.2)]
   rw[g];have l:(e==0)=false:=kS h;refine T ?_;exact Bf q_ .nil [] (aR w i e) (λ_ h=>h) q_ q_ U
def Kd(w:List ByteArray)(i:Nat)(e:Int)(hi:i<w.length)(g:w.length<=1000000)(j:∀s∈w,s.size<=40):Sq 138 [.ptr 0 0] (aR w i e) (Ap (A4 w i)) (aR w (i+1) (Ay e (!(A5 (A4 w i))) 20)):=cT F138 ntmps138 λF t=>by
 have I:(A4 w i).size<=40:=by rw[E9 hi];exact j _ (zI hi)
 have l:=Xb w i e hi g;have o:=Ju (A4 w i) j_;have p:=O6 w (i+1) e (!(A5 (A4 w i))) 20;generalize A5 (A4 w i)=r at *;generalize A4 w i=x at *;refine T ?_;refine X (Ad [] q_ F145 l q_ W q_ V) ?_;refine C o F64 ?_;refine X (Ad [] q_ F142 p q_ W q_ V) ?_;exact done q_ As [] (aR w (i+1) (Ay e (!r) 20)) (λ_ h=>h) q_ q_ U
def fE(w:List ByteArray)(i:Nat)(e lo g:Int)(hi:i<w.length)(j:w.length<=1000000):Sq 140 [.ptr 0 0,Aa lo,Aa g] (aR w i e) (Aa (Iq (A4 w i) lo g).1) (aR w (i+1) (Ay e (!(Iq (A4 w i) lo g).2) 21)):=cT F140 ntmps140 λF t=>by
 have l:=Xb w i e hi j;have o:=Acb (A4 w i) lo g;generalize Iq (A4 w i) lo g=r at *;have p:=O6 w (i+1) e (!r.2) 21;generalize A4 w i=x at *;refine T ?_;refine X (Ad [] q_ F145 l q_ W q_ V) ?_;refine C o F129 ?_;refine X (Ad [] q_ F142 p q_ W q_ V) ?_;exact done q_ As [] (aR w (i+1) (Ay e (!r.2) 21)) (λ_ h=>h) q_ q_ U
def Aby(w:List ByteArray)(i:Nat)(e:Int)(hi:i<w.length)(g:w.length<=1000000):Sq 139 [.ptr 0 0] (aR w i e) (Aa (Ee (A4 w i)).1) (aR w (i+1) (Ay e (!(Ee (A4 w i)).2) 21)):=cT F139 ntmps139 λF j=>by
 have q:=fE w i e 1 4094 hi g;unfold Ee;generalize Iq (A4 w i) 1 4094=r at *;refine T ?_;refine X (Ad [] q_ F140 q q_ W q_ V) ?_;exact done q_ As [] (aR w (i+1) (Ay e (!r.2) 21)) (λ_ h=>h) q_ q_ U
def A96(w:List ByteArray)(i:Nat)(e:Int)(hi:i<w.length)(g:w.length<=1000000):Sq 146 [.ptr 0 0] (aR w i e) (Aa (Ze (A4 w i)).1) (aR w (i+1) (Ay e (!(Ze (A4 w i)).2) 21)):=cT F146 ntmps146 λF j=>by
 have q:=fE w i e 1 16777215 hi g;unfold Ze;generalize Iq (A4 w i) 1 16777215=r at *;refine T ?_;refine X (Ad [] q_ F140 q q_ W q_ V) ?_;exact done q_ As [] (aR w (i+1) (Ay e (!r.2) 21)) (λ_ h=>h) q_ q_ U
def A7l(e c:Int):Ay e false c=e:=by rw[Ay,zD qx]
def Ahg(w:List ByteArray)(i:Nat)(e g:Int)(hi:i<w.length)(t:w.length<=1000000)(I:∀s∈w,s.size<=40):Sq 148 [.ptr 0 0,Aa g] (aR w i e) (.sl 1 Aa (Hh g (A4 w i)).1) (aR w (i+1) (Ay e (!(Hh g (A4 w i)).2) 21)):=cT F148 ntmps148 λF hF=>by
 have m8:(A4 w i).size<=40:=by rw[E9 hi];exact I _ (zI hi)
 have p:=Xb w i e hi t;have r:=Aqh (A4 w i) g j_;have j:=Hh.eq_1 g (A4 w i);generalize Hh g (A4 w i)=l at *;by_cases o:A4 w i=dash
 .rw[zE o]at j;subst j;have J:(A4 w i==(⟨#[45]⟩:ByteArray))=true:=(Tw _ _).2 o;rw[show (!(([]:List Int),true).2)=false from rfl,A7l];refine T ?_;refine X (Ad [] q_ F145 p q_ W q_ V) ?_;refine Ar 4 1 Aa q_ (T ?_);exact done q_ As [] (aR w (i+1) e) (λ_ h=>h) q_ q_ U
 .rw[zD o]at j;have J:(A4 w i==(⟨#[45]⟩:ByteArray))=false:=by
   cases P:(A4 w i==(⟨#[45]⟩:ByteArray))
   .rfl
   .exact zW ((Tw _ _).1 P) o
  rw[<-j]at r;have R:=O6 w (i+1) e (!l.2) 21;clear j;refine T ?_;refine X (Ad [] q_ F145 p q_ W q_ V) ?_;refine C r F219 ?_;refine X (Ad [] q_ F142 R q_ W q_ V) ?_;exact done q_ As [] (aR w (i+1) (Ay e (!l.2) 21)) (λ_ h=>h) q_ q_ U
def Az8(s:ByteArray):∃m:Nat,(Sv s).1=m/\m<281474976710656:=by
 rw[Sv];split
 .rename_i h;have:=Aac (s:=s) (j:=6) (λi hi=>by have:=h.2;rw[yX]at this;exact this i (xD.2 hi));refine⟨(lG s 6).toNat,?_,?_⟩
  .rw[yQ this.1]
  .have g:lG s 6<281474976710656:=this.2;omega
 .exact⟨0,q_,by decide⟩
def Aqp(s:ByteArray):Bool:=!((Sv s).2&&On (Sv s).1)
def A97(w:List ByteArray)(i:Nat)(e:Int)(hi:i<w.length)(t:w.length<=1000000)(I:∀s∈w,s.size<=40):Sq 141 [.ptr 0 0] (aR w i e) (B1 (Sv (A4 w i)).1) (aR w (i+1) (Ay e (Aqp (A4 w i)) 21)):=cT F141 ntmps141 λF hF=>by
 have m8:(A4 w i).size<=40:=by rw[E9 hi];exact I _ (zI hi)
 have l:=Xb w i e hi t;have o:=Bbk (A4 w i) j_;obtain ⟨m,j,bx⟩:=Az8 (A4 w i);have J:=Ah3 m j_;have g:=Aqp.eq_1 (A4 w i);rw[j]at g;generalize Aqp (A4 w i)=be at *;have p:=O6 w (i+1) e be 21;generalize Sv (A4 w i)=r at *;obtain ⟨rv,P⟩:=r;dsimp only at j;subst j;generalize On (m:Int)=R at *;cases P with
 |false=>
  simp at g;subst g;refine T ?_;refine X (Ad [] q_ F145 l q_ W q_ V) ?_;refine C o F213 ?_;refine X (Ad [] q_ F142 p q_ W q_ V) ?_;exact done q_ As [] (aR w (i+1) (Ay e true 21)) (λ_ h=>h) q_ q_ U
 |true=>
  simp at g;subst g;refine T ?_;refine X (Ad [] q_ F145 l q_ W q_ V) ?_;refine gN o F213 J F214 ?_;refine X (Ad [] q_ F142 p q_ W q_ V) ?_;exact done q_ As [] (aR w (i+1) (Ay e (!R) 21)) (λ_ h=>h) q_ q_ U
end
section
def Arm(d:Nat)(h:d<10):(UInt8.ofNat (48+d)).toNat=48+d:=UInt8.toNat_ofNat_of_lt' (by show _<256;omega)
def Bc1(d:Nat)(h:d<10):M6 (UInt8.ofNat (48+d))=true:=by
 rw[M6,Arm d h,zL j_,zL j_];rfl
def Bfu(n:Nat):(∀c∈(Da n).reverse,M6 c=true)/\bD (Da n).reverse=n:=by
 induction n using Nat.strongRecOn with
 |ind n j=>
  rw[Afo];have i:n%10<10:=tQ _ qq;by_cases h:n<10
  .rw[zE h,xO];refine⟨λc g=>?_,?_⟩
   .simp only[zX]at g;rw[g];exact Bc1 _ i
   .have:=fV [] (UInt8.ofNat (48+n%10));rw[xO]at this;rw[this,Arm _ i];have l:bD []=0:=rfl;rw[l];omega
  .rw[zD h];obtain ⟨o,p⟩:=j (n/10) j_;refine⟨λc g=>?_,?_⟩
   .rcases yJ.1 g with g|g
    .exact o c g
    .simp only[zX]at g;rw[g];exact Bc1 _ i
   .rw[fV,p,Arm _ i];omega
def Bfy{c:UInt8}(h:M6 c=true)(d:UInt8)(g:d.toNat<48\/57<d.toNat):c≠d:=by
 intro e;subst e;simp only[M6,zG,zK]at h;omega
def A27{s:ByteArray}{lo hi v:Int}(h:Iq s lo hi=(v,true)):lo<=v/\v<=hi:=by
 unfold Iq at h
 repeat' split at h
 all_goals first|(simp at h;done)|(simp only[Prod.mk.injEq,and_true]at h;omega)
def Mj{s:ByteArray}{lo hi:Int}(h:(Iq s lo hi).2=true):lo<=(Iq s lo hi).1/\(Iq s lo hi).1<=hi:=A27 (v:=(Iq s lo hi).1) (by rw[<-h])
def Abn(d:UInt8):∀(p g r:List UInt8),d∉p->Cc d g (p++d::r)=Hl (g++p)::Cc d [] r
 |[],g,r,_=>by rw[xO,Cc,zE rfl,yV]
 |c::p,g,r,h=>by
  simp only[yH,vY]at h;rw[wF,Cc,zD (Ne.symm h.1),Abn d p _ r h.2];simp
def Bfv(n:Nat)(d:UInt8)(g:d.toNat<48\/57<d.toNat):d∉(Da n).reverse:=λhm=>Bfy ((Bfu n).1 d hm) d g rfl
def Ah6(d:UInt8):∀(r:List (List UInt8)) (x:List UInt8),d∉x->(∀y∈r,d∉y)->Cc d [] (Lib.join (x::r) [d])=(x::r).map Hl
 |[],x,h,_=>by rw[Lib.join_one,U7 d _ _ h];rfl
 |y::r,x,h,g=>by
  have i:=Ah6 d r y (g y qx) (λz j=>g z (by simp[j]));have e:Lib.join (x::y::r) [d]=x++d::Lib.join (y::r) [d]:=by
   rw[Lib.join_cons,Lib.join_cons,Lib.joinTail,Lib.joinTail];simp
  rw[e,Abn d x [] _ h,i];rfl
def A19(l:List Int):Prop:=l.Pairwise (·<·)
def Yw(one:ByteArray->Int×Bool):∀(ps:List ByteArray) (out r:List Int),M3 one out ps=(r,true)->A19 out->out.length<=16 ->
  A19 r/\r.length<=16/\r.length=out.length+ps.length/\∀x∈r,x∈out\/∃p∈ps,one p=(x,true)
 |[],out,r,h,l,o=>by
  rw[M3]at h;simp only[Prod.mk.injEq,and_true]at h;subst h;exact⟨l,o,by simp,λx g=>.inl g⟩
 |p::ps,out,r,h,l,o=>by
  rw[M3]at h;split at h
  .simp at h
  .rename_i t;simp only[vY]at t;obtain ⟨P,n2,R⟩:=t;have hr:A19 (out++[(one p).1]):=by
    refine List.pairwise_append.2 ⟨l,List.pairwise_singleton _ _,λy i z I=>?_⟩;simp only[zX]at I;subst I;cases j:out.getLast? with
    |none=>rw[List.getLast?_eq_none_iff]at j;subst j;cases i
    |some w=>
     have ab:¬(one p).1<=w:=λhh=>R ⟨w,j,hh⟩
     obtain ⟨c,rfl⟩:∃c,out=c++[w]:=by
      have J:out≠[]:=λe=>by rw[e]at i;cases i
      refine⟨out.dropLast,?_⟩;have:=uS J;rw[List.getLast?_eq_some_getLast J]at j;simp only[Option.some.injEq]at j;rw[<-j];exact this.symm
     rcases yJ.1 i with i|i
     .have:=(List.pairwise_append.1 l).2.2 y i w qx;omega
     .simp only[zX]at i;omega
   obtain ⟨a,b,c,d⟩:=Yw one ps _ r h hr (by rw[zR];simp;omega);refine⟨a,b,by rw[c];simp;omega,λx g=>?_⟩;rcases d x g with g|⟨q,hq,e⟩
   .rcases yJ.1 g with g|g
    .exact .inl g
    .simp only[zX]at g;refine .inr ⟨p,by simp,?_⟩;rw[g];have:(one p).2=true:=kS P;rw[<-this]
   .exact .inr ⟨q,by simp[hq],e⟩
def Am9{l:List Int}(h:∀i (hi:i+1<l.length),l[i]<l[i+1]):A19 l:=by
 unfold A19;rw[vQ];intro i j hi g p
 induction j with
 |zero=>omega
 |succ j o=>
  by_cases e:i=j
  .subst e;exact h i g
  .have:=o j_ j_;have:=h j g;omega
def nN:∀(l:List (Bool×Int)),(∀x∈l,x.2≠0)->Ca l=0->∀x∈l,x.1=false
 |[],_,_,x,g=>by cases g
 |(b,e)::l,h,i,x,g=>by
  rw[Ca]at i;cases b with
  |true=>rw[zE rfl]at i;exact zW i (h (true,e) qx)
  |false=>
   rw[zD qx]at i;rcases yH.1 g with g|g
   .rw[g]
   .exact nN l (λy j=>h y (by simp[j])) i x g
def oS{l:List Int}{lo hi:Int}:O4 l lo hi=true↔A19 l/\(∀x∈l,lo<=x/\x<=hi)/\0<l.length/\l.length<=16:=by
 have p:∀i (h:i<l.length),Af l (i:Int)=l[i]:=λi h=>Aj (i:=(i:Int)) h
 rw[O4,zG,zG,zK,zK,Cm];constructor
 .rintro ⟨⟨g,j⟩,h⟩;refine⟨Am9 λi hi=>?_,λx o=>?_,g,j⟩
  .have:=h (i+1) hi;simp only[lT,zG,yR,zK,yL]at this;rw[show (((i+1:Nat):Int)-1)=(i:Int) by omega,p i j_]at this;omega
  .obtain ⟨i,hi,rfl⟩:=yY.1 o;have:=h i hi;simp only[lT,zG,zK]at this;exact this.1
 .rintro ⟨h,g,j⟩;refine⟨j,λi hi=>?_⟩;have o:=g _ (zI hi);simp only[lT,zG,yR,zK,yL];refine⟨o,?_⟩;by_cases r:i=0
  .exact .inl r
  .right;rw[show ((i:Int)-1)=((i-1:Nat):Int) by omega,p (i-1) j_];exact vQ.1 h (i-1) i j_ hi j_
def Aad{l:List Int}{hi:Int}:Jm l hi=true↔l=[]\/O4 l 1 hi=true:=by
 rw[Jm,cA,yR,zK,wU]
def A8c{l:List Int}(t:∀x∈l,0<=x):Sr l=true↔A19 l/\(∀x∈l,x≠0)/\0<l.length/\l.length<=16:=by
 have g:∀i (h:i<l.length),l.getD i 0=l[i]:=λi h=>by rw[wL,zT h];rfl
 rw[Sr,zG,zG,zK,zK,yX];constructor
 .rintro ⟨h,j,o⟩;refine⟨Am9 λi hi=>?_,λx p=>?_,j,o⟩
  .have:=h (i+1) (xD.2 hi);rw[Nat.add_sub_cancel,g _ hi,g i j_]at this;simp only[zG,yR,zK,yL]at this;omega
  .obtain ⟨i,hi,rfl⟩:=yY.1 p;have:=h i (xD.2 hi);rw[g i hi]at this;simp only[zG,zK]at this;exact this.1
 .rintro ⟨h,j,o⟩;refine⟨λi hi=>?_,o⟩;have hi:=xD.1 hi;have p:=j _ (zI hi);rw[g i hi];simp only[zG,yR,zK,yL];refine⟨p,?_⟩;by_cases r:i=0
  .exact .inl r
  .right;rw[g (i-1) j_];exact vQ.1 h (i-1) i j_ hi j_
def Bat(n:Int)(i:0<=n)(d:UInt8)(g:d.toNat<48\/57<d.toNat):d∉(I7 n).data.toList:=by
 obtain ⟨m,rfl⟩:∃m:Nat,n=m:=⟨n.toNat,by omega⟩
 rw[Aca,Jy];exact Bfv m d g
def Be7{s:ByteArray}{hi:Int}{l:List Int}(h:Hh hi s=(l,true)):Jm l hi=true:=by
 rw[Hh]at h;split at h
 .simp only[Prod.mk.injEq,and_true]at h;subst h;rfl
 .rw[L5]at h;obtain ⟨a,b,c,d⟩:=Yw _ _ _ _ h List.Pairwise.nil qq;refine Aad.2 (.inr (oS.2 ⟨a,λx g=>?_,?_,b⟩))
  .rcases d x g with g|⟨p,_,hp⟩
   .cases g
   .exact A27 hp
  .rw[c,Ly];simp
def Uh(s:ByteArray):0<=(H7 s).1:=by
 rw[H7];split
 .dsimp only;generalize Bd 46 s=l;cases g:l.reverse with
  |nil=>
   have:l=[]:=kS g;subst this;exact wB _
  |cons x r=>
   have:l=r.reverse++[x]:=by
    have:=zH List.reverse g;simpa using this
   rw[this,Aaz];show 0<=IntKind.u32.wrap _;rw[IntKind.wrap_u32];omega
 .exact wB _
def aP(s:ByteArray):(H7 s).1<4294967296:=by
 rw[H7];split
 .dsimp only;generalize Bd 46 s=l;cases g:l.reverse with
  |nil=>
   have:l=[]:=kS g;subst this;decide
  |cons x r=>
   have:l=r.reverse++[x]:=by
    have:=zH List.reverse g;simpa using this
   rw[this,Aaz];show IntKind.u32.wrap _<_;rw[IntKind.wrap_u32];omega
 .decide
def Bdl{s:ByteArray}{l:List Int}(h:Io s=(l,true))(j:l.head? ≠ some 0):Sr l=true:=by
 rw[Io,L5]at h;obtain ⟨a,b,c,d⟩:=Yw _ _ _ _ h List.Pairwise.nil qq;have i:∀x∈l,0<=x:=λx g=>by
  rcases d x g with g|⟨p,_,hp⟩
  .cases g
  .have:=Uh p;rw[hp]at this;exact this
 refine(A8c i).2 ⟨a,λx g e=>?_,by rw[c,Ly];simp,b⟩;subst e;cases l with
 |nil=>cases g
 |cons y l=>
  rcases yH.1 g with g|g
  .subst g;exact j rfl
  .have o:=(vZ.1 a).1 0 g;have r:=i y qx;omega
def K9(a:A2):As4 a a=true:=by simp[As4]
def I3(w:List ByteArray)(row:Int):∀x∈(C0 w row).2,x.2≠0:=by
 unfold C0 If;dsimp only
 repeat' split
 all_goals simp
def A4t{w:List ByteArray}{row:Int}(h:(Dh w row).2=0):(Dh w row).1=(C0 w row).1/\∀x∈(C0 w row).2,x.1=false:=by
 rw[Dh]at h|-;split at h
 .simp at h
 .rename_i i;rw[zD i];split at h
  .rename_i g;exact zW h g
  .rename_i g;rw[zD g];exact⟨q_,nN _ (I3 w row) j_⟩
def k1:Ea ⟨#[100,101,118,105,99,101]⟩=1:=by decide +kernel
def k2:Ea ⟨#[112,111,114,116]⟩=2:=by decide +kernel
def k3:Ea ⟨#[108,105,110,107]⟩=3:=by decide +kernel
def k4:Ea ⟨#[115,116,97,116,105,99]⟩=4:=by decide +kernel
def k5:Ea ⟨#[118,116,101,112]⟩=5:=by decide +kernel
def k6:Ea ⟨#[118,110,105]⟩=6:=by decide +kernel
def k7:Ea ⟨#[102,108,111,111,100]⟩=7:=by decide +kernel
def k8:Ea ⟨#[118,114,102]⟩=8:=by decide +kernel
def k9:Ea ⟨#[105,114,98]⟩=9:=by decide +kernel
def Ao9:Lg≠Kj:=by decide +kernel
def wd0(a:ByteArray)(l:List ByteArray):A4 (a::l) 0=a:=rfl
def st1(d n m:ByteArray)(r:Int):C0 [⟨#[100,101,118,105,99,101]⟩,d,n,m] r=({Ba with row:=r,kind:=1,q:=d,num:=(Iq n 0 65535).1,an:=(Sv m).1},[(!(A5 d),20),(!(Iq n 0 65535).2,21),(!((Sv m).2&&On (Sv m).1),21)]):=by
 unfold C0;simp only[wd0,k1];rfl
def st3(d p q f:ByteArray)(r:Int):C0 [⟨#[108,105,110,107]⟩,d,p,q,f] r=({Ba with row:=r,kind:=3,q:=d,ac:=p,peer:=q,bi:=f},[(!(A5 d),20),(!(A5 p),20),(!(A5 q),20),(!(A5 f),20)]):=by
 unfold C0;simp only[wd0,k3];rfl
def st4(d v m p:ByteArray)(r:Int):C0 [⟨#[115,116,97,116,105,99]⟩,d,v,m,p] r=({Ba with row:=r,kind:=4,q:=d,z:=(Ee v).1,an:=(Sv m).1,ac:=p},[(!(A5 d),20),(!(Ee v).2,21),(!((Sv m).2&&On (Sv m).1),21),(!(A5 p),20)]):=by
 unfold C0;simp only[wd0,k4];rfl
def within_iff{n lo hi:Int}:Ds n lo hi=true↔lo<=n/\n<=hi:=by simp[Ds]
def Ali{m:Int}(h:On m=true):m<281474976710656:=by
 simp only[On,zG,zK]at h;omega
def bR{a b:Int}(h:K4 a b=true):1<=b/\b<=30:=by
 simp only[K4,zG,zK]at h;omega
structure Bds(l:A2):Prop where
 an:0<=l.an/\l.an<18446744073709551616
 addr:0<=l.addr/\l.addr<4294967296
 aa:∀x∈l.aa,0<=x/\x<4294967296
def Apg{s:ByteArray}{v:Int}(h:(Ee s).2=true)(e:(Ee s).1=v):Ds v 1 4094=true:=by
 have:=Mj h;exact within_iff.2 (by rw[<-e];exact this)
def A8s{s:ByteArray}{v:Int}(h:(Ze s).2=true)(e:(Ze s).1=v):Ds v 1 16777215=true:=by
 have:=Mj h;exact within_iff.2 (by rw[<-e];exact this)
def Ahh{α:Type}{p:α×Bool}(h:p.2=true):p=(p.1,true):=by rw[<-h]
attribute [local irreducible]G DR
set_option maxRecDepth 100000
def Oh{a b:ByteArray}(h:a≠b):(a==b)=false:=by
 cases g:(a==b)
 .rfl
 .exact zW ((Tw _ _).1 g) h
def Le{a b:ByteArray}(h:a=b):(a==b)=true:=(Tw _ _).2 h
def Arw{a b:ByteArray}(h:a≠b):(!(a==b))=true:=by rw[Oh h];rfl
def Ahq{a b:ByteArray}(h:a=b):(!(a==b))=false:=by rw[Le h];rfl
def Lw(s:ByteArray):Sp 137 [Ap s] (Aa (Ea s)):=cT F137 ntmps137 λF hF=>by
 have g:=Ea.eq_1 s;generalize Ea s=k at *;by_cases i:s=(⟨#[100,101,118,105,99,101]⟩:ByteArray)
 .have P:=Le i;rw[zE i]at g;subst g;exact gA
 have P:=Oh i;rw[zD i]at g;by_cases j:s=(⟨#[112,111,114,116]⟩:ByteArray)
 .have R:=Le j;rw[zE j]at g;subst g;exact gA
 have R:=Oh j;rw[zD j]at g;by_cases l:s=(⟨#[108,105,110,107]⟩:ByteArray)
 .have b3:=Le l;rw[zE l]at g;subst g;exact gA
 have b3:=Oh l;rw[zD l]at g;by_cases o:s=(⟨#[115,116,97,116,105,99]⟩:ByteArray)
 .have b4:=Le o;rw[zE o]at g;subst g;exact gA
 have b4:=Oh o;rw[zD o]at g;by_cases p:s=(⟨#[118,116,101,112]⟩:ByteArray)
 .have b5:=Le p;rw[zE p]at g;subst g;exact gA
 have b5:=Oh p;rw[zD p]at g;by_cases r:s=(⟨#[118,110,105]⟩:ByteArray)
 .have b6:=Le r;rw[zE r]at g;subst g;exact gA
 have b6:=Oh r;rw[zD r]at g;by_cases t:s=(⟨#[102,108,111,111,100]⟩:ByteArray)
 .have b7:=Le t;rw[zE t]at g;subst g;exact gA
 have b7:=Oh t;rw[zD t]at g;by_cases I:s=(⟨#[118,114,102]⟩:ByteArray)
 .have b8:=Le I;rw[zE I]at g;subst g;exact gA
 have b8:=Oh I;rw[zD I]at g;by_cases J:s=(⟨#[105,114,98]⟩:ByteArray)
 .have b9:=Le J;rw[zE J]at g;subst g;exact gA
 have b9:=Oh J;rw[zD J]at g;subst g;exact gA
def Lv(k:Int)(hk:0<=k/\k<=9)(w:List ByteArray)(hw:w.length<=1000000):Sp 136 [Aa k,.sl 1 Ap w] (Ab (T8 k w)):=cT F136 ntmps136 λF hF=>by
 have i:=T8.eq_1 k w;generalize T8 k w=r at *;rcases (by omega:k=0\/k=1\/k=2\/k=3\/k=4\/k=5\/k=6\/k=7\/k=8\/k=9) with h|h|h|h|h|h|h|h|h|h
 .subst h;have j:r=false:=by rw[i];simp
  subst j;exact gA
 .subst h;have j:r=decide (w.length=4):=by rw[i];simp
  subst j;refine T ?_;refine Av q_ As (zH Ab ?_) q_;by_cases g:w.length=4
  .rw[g];rfl
  .rw[zJ g];symm;simp;omega
 .subst h;rw[zD qq,zE rfl]at i;by_cases t:w.length<6
  .rw[zE t]at i;subst i;exact gA
  .rw[zD t]at i;have f6:decide ((w.length:Int)<6)=false:=zJ j_;have l:(4:Int).toNat<w.length:=by show 4<w.length;omega
   have J:A4 w 4=w[(4:Int).toNat]'l:=E9 j_;rw[J]at i;by_cases o:w[(4:Int).toNat]'l=Lg
   .have P:(w[(4:Int).toNat]'l==(⟨#[97,99,99,101,115,115]⟩:ByteArray))=true:=Le o;have I:(w[(4:Int).toNat]'l==(⟨#[116,114,117,110,107]⟩:ByteArray))=false:=Oh (by rw[o];exact Ao9);have R:(!(w[(4:Int).toNat]'l==(⟨#[97,99,99,101,115,115]⟩:ByteArray)))=false:=Ahq o;rw[zE o]at i;by_cases g:w.length=6
    .rw[zL g]at i;subst i;exact gA
    .rw[zJ g]at i;have fb:((w.length:Int)==6)=false:=by rw[zU];omega
     subst i;exact gA
   .have P:(w[(4:Int).toNat]'l==(⟨#[97,99,99,101,115,115]⟩:ByteArray))=false:=Oh o;have R:(!(w[(4:Int).toNat]'l==(⟨#[97,99,99,101,115,115]⟩:ByteArray)))=true:=Arw o;rw[zD o]at i;by_cases p:w[(4:Int).toNat]'l=Kj
    .have I:(w[(4:Int).toNat]'l==(⟨#[116,114,117,110,107]⟩:ByteArray))=true:=Le p;have nt:(!(w[(4:Int).toNat]'l==(⟨#[116,114,117,110,107]⟩:ByteArray)))=false:=Ahq p;rw[zE p]at i;by_cases g:w.length=7
     .rw[zL g]at i;subst i;exact gA
     .rw[zJ g]at i;have fb:((w.length:Int)==7)=false:=by rw[zU];omega
      subst i;exact gA
    .have I:(w[(4:Int).toNat]'l==(⟨#[116,114,117,110,107]⟩:ByteArray))=false:=Oh p;have nt:(!(w[(4:Int).toNat]'l==(⟨#[116,114,117,110,107]⟩:ByteArray)))=true:=Arw p;rw[zD p]at i;subst i;refine T ?_;refine Av q_ As (zH Ab ?_) q_;exact decide_eq_decide.2 j_
 .subst h;have j:r=decide (w.length=5):=by rw[i];simp
  subst j;refine T ?_;refine Av q_ As (zH Ab ?_) q_;by_cases g:w.length=5
  .rw[g];rfl
  .rw[zJ g];symm;simp;omega
 .subst h;have j:r=decide (w.length=5):=by rw[i];simp
  subst j;refine T ?_;refine Av q_ As (zH Ab ?_) q_;by_cases g:w.length=5
  .rw[g];rfl
  .rw[zJ g];symm;simp;omega
 .subst h;have j:r=decide (w.length=3):=by rw[i];simp
  subst j;refine T ?_;refine Av q_ As (zH Ab ?_) q_;by_cases g:w.length=3
  .rw[g];rfl
  .rw[zJ g];symm;simp;omega
 .subst h;have j:r=decide (w.length=4):=by rw[i];simp
  subst j;refine T ?_;refine Av q_ As (zH Ab ?_) q_;by_cases g:w.length=4
  .rw[g];rfl
  .rw[zJ g];symm;simp;omega
 .subst h;have j:r=decide (w.length=4):=by rw[i];simp
  subst j;refine T ?_;refine Av q_ As (zH Ab ?_) q_;by_cases g:w.length=4
  .rw[g];rfl
  .rw[zJ g];symm;simp;omega
 .subst h;have j:r=decide (w.length=5):=by rw[i];simp
  subst j;refine T ?_;refine Av q_ As (zH Ab ?_) q_;by_cases g:w.length=5
  .rw[g];rfl
  .rw[zJ g];symm;simp;omega
 .subst h;have j:r=decide (w.length=5):=by rw[i];simp
  subst j;refine T ?_;refine Av q_ As (zH Ab ?_) q_;by_cases g:w.length=5
  .rw[g];rfl
  .rw[zJ g];symm;simp;omega
def Afd(a:Nat)(b:Int)(I:a<4294967296):Sp 150 [V6 a b] (Ab (K4 a b)):=cT F150 ntmps150 λF hF=>by
 have o:=Alb a b I;have J:=Ae7 a b I;have i:=K4.eq_1 (a:Int) b;generalize K4 (a:Int) b=r at *;generalize I0 (a:Int) b=p at *;generalize Lq (a:Int) b=t at *;by_cases P:1<=b
 .by_cases R:b<=30
  .by_cases j:(a:Int)=p
   .have f3:((a:Int) != p)=false:=by rw[bne_eq_false_iff_eq];exact j
    have g:r=false:=by rw[i];simp[j]
    subst g;refine gD o F220 ?_;exact D
   .have f3:((a:Int) != p)=true:=by rw[xF];exact j
    by_cases l:(a:Int)=t
    .have f4:((a:Int) != t)=false:=by rw[bne_eq_false_iff_eq];exact l
     have g:r=false:=by rw[i];simp[l]
     subst g;refine gB o F220 J F221 ?_;refine Av q_ As (zH Ab f4.symm) q_
    .have f4:((a:Int) != t)=true:=by rw[xF];exact l
     have g:r=true:=by rw[i];simp[P,R,j,l]
     subst g;refine gB o F220 J F221 ?_;refine Av q_ As (zH Ab f4.symm) q_
  .have g:r=false:=by rw[i];simp[R]
   subst g;exact gA
 .have g:r=false:=by rw[i];simp[P]
  subst g;exact gA
def Avj(l:List Int)(v:Int):l.contains v=Li l v:=by
 induction l with
 |nil=>rfl
 |cons x l g=>
  rw[List.contains_cons,g,Li,Li,tZ];congr 1;exact Bool.beq_comm
def Q4(l:A2)(j:At l.u):Sp 215 [Be l] (Ab (Cs l.z l.u)):=cT F215 ntmps215 λF I=>by
 have q:=Ij l.u l.z j;have i:=Cs.eq_1 l.z l.u;rw[Avj]at i;generalize Cs l.z l.u=r at *;generalize Li l.u l.z=o at *;unfold At at j;by_cases p:0<l.z
 .have g:r=!o:=by rw[i];simp[p]
  subst g;refine gD q F114 ?_;exact D
 .by_cases t:l.u.length=0
  .have g:r=false:=by
    rw[i,zJ p,yF t];rfl
   subst g;exact gA
  .have g:r=!o:=by
    rw[i];have:l.u.isEmpty=false:=by cases J:l.u<;>simp_all
    simp[this]
   have f2:decide ((l.u.length:Int)>0)=true:=zL j_;subst g;refine gD q F114 ?_;exact D
theorem iG(v0:Int->SV){f0 J:Nat}{p:Func}(F0:fT f0 p)(I:p.ntmps=J)(h:let v0:Int->SV:=v0;fT f0 p->p.ntmps=J->∀ (l m:List Int) (P:l.length<=1000000) (R:m.length<=1000000),Sp f0 [.sl 1 v0 l,.sl 1 v0 m] (Ab (l == m)):=by
 intro v0 F0 I l m P R
 refine cT F0 I λF hF=>?_
 by_cases g:l.length=m.length;rotate_left
 .have i:(l==m)=false:=by
   rw[zU];intro e;exact g (by rw[e])
  have f0:((l.length:Int) != (m.length:Int))=true:=by rw[xF];omega
  rw[i];exact gA
 have f0:((l.length:Int) != (m.length:Int))=false:=by rw[bne_eq_false_iff_eq];omega
 refine T ?_;refine Bb l.length (λj=>l.take j=m.take j) (λj=>[(0,.sl 1 v0 l),(1,.sl 1 v0 m),(12,Aa l.length),(13,Aa j)]) (λ_=>[]) [] q_ U ?_;intro j hj r;refine gP ?_ ?_<;>intro h
 .have ab:j<l.length:=qA h;have o:j<m.length:=by omega
  have ar:(j:Int).toNat<l.length:=ab;have zk:(j:Int).toNat<m.length:=o;clear h;by_cases t:l[j]=m[j]
  .have f1:(l[(j:Int).toNat]'ar != m[(j:Int).toNat]'zk)=false:=by rw[bne_eq_false_iff_eq];exact t
   refine T ?_;refine A6 [] r j_ ?_ U;rw[zZ ab,zZ o,r,t]
  .have f1:(l[(j:Int).toNat]'ar != m[(j:Int).toNat]'zk)=true:=by rw[xF];exact t
   have i:(l==m)=false:=by
    rw[zU];intro e;subst e;exact t rfl
   rw[i];exact gA
 .have bu:j=l.length:=qB h;subst bu;have i:(l==m)=true:=by
   rw[yL];rw[yM,g,yM]at r;exact r
  rw[i];clear h;exact gA):∀ (l m:List Int) (P:l.length<=1000000) (R:m.length<=1000000),Sp f0 [.sl 1 v0 l,.sl 1 v0 m] (Ab (l == m)):=h F0 I
def Um:=iG Aa F431 ntmps431
def Ag4:=iG Bo F432 ntmps432
def A4u(a b:A2)(o:Adw a)(p:Adw b):Sp 408 [Be a,Be b] (Ab (As4 a b)):=cT F408 ntmps408 λF hF=>by
 have ht:=o.t;have hi:=o.i;have he:=o.e;have a9:=o.a
 have oc:=p.t;have jg:=p.i;have d5:=p.e;have a8:=p.a
 have g:=Um a.u b.u j_ j_;have j:=Um a.ak b.ak j_ j_;have l:=Um a.am b.am j_ j_;have r:=Ag4 a.aa b.aa j_ j_;rw[As4];cases h_row:(a.row==b.row)
 .rw[yE];exact gA
 rw[yB];cases I:(a.kind==b.kind)
 .rw[yE];exact gA
 rw[yB];cases a4:(a.q==b.q)
 .rw[yE];exact gA
 rw[yB];cases J:(a.ac==b.ac)
 .rw[yE];exact gA
 rw[yB];cases P:(a.peer==b.peer)
 .rw[yE];exact gA
 rw[yB];cases a5:(a.bi==b.bi)
 .rw[yE];exact gA
 rw[yB];cases R:(a.name==b.name)
 .rw[yE];exact gA
 rw[yB];cases a6:(a.an==b.an)
 .rw[yE];exact gA
 rw[yB];cases a0:(a.addr==b.addr)
 .rw[yE];exact gA
 rw[yB];cases a1:(a.bits==b.bits)
 .rw[yE];exact gA
 rw[yB];cases a2:(a.z==b.z)
 .rw[yE];exact gA
 rw[yB];cases a7:(a.num==b.num)
 .rw[yE];exact gA
 rw[yB];cases a3:(a.aj==b.aj)
 .rw[yE];exact gA
 rw[yB];cases lr:(a.u==b.u)
 .rw[lr]at g;rw[yE];refine gD g F431 ?_;exact D
 rw[lr]at g;rw[yB];cases jv:(a.ak==b.ak)
 .rw[jv]at j;rw[yE];refine gB g F431 j F431 ?_;exact D
 rw[jv]at j;rw[yB];cases jw:(a.am==b.am)
 .rw[jw]at l;rw[yE];refine gB g F431 j F431 ?_;refine C l F431 ?_;exact D
 rw[jw]at l;rw[yB];cases oe:(a.aa==b.aa)
 .rw[oe]at r
  skip
  refine gB g F431 j F431 ?_;refine gN l F431 r F432 ?_;exact D
 rw[oe]at r;refine gB g F431 j F431 ?_;refine gN l F431 r F432 ?_;exact D
def Ky(n lo hi:Int):Sp 428 [Aa n,Aa lo,Aa hi] (Ab (Ds n lo hi)):=cT F428 ntmps428 λF i=>by
 rw[Ds];by_cases g:lo<=n
 .have f1:decide (n>=lo)=true:=zL g;rw[zL g,yB];exact gA
 .have f1:decide (n>=lo)=false:=zJ g;rw[zJ g,yE];exact gA
def Aeb(l:List Int)(g:Int)(j:l.length<=100000):Sp 429 [.sl 1 Aa l,Aa g] (Ab (Jm l g)):=cT F429 ntmps429 λF o=>by
 have q:=Ai3 l 1 g (by simp only[At];omega);rw[Jm,cA];by_cases i:l.length=0
 .rw[zL i,wT];have f0:((l.length:Int)==0)=true:=by rw[i];rfl
  exact gA
 .rw[zJ i,vI];have f0:((l.length:Int)==0)=false:=by rw[zU];omega
  refine gD q F186 ?_;exact D
def eR(l:List Int)(i:Nat)(x:Int):Bool:=decide (x≠0)&&(i==0||decide (l.getD (i-1) 0<x))
def A16(l:List Int):Sr l=(Lu (eR l) l&&(decide (0<l.length)&&decide (l.length<=16))):=by
 have e:(List.range l.length).all (λi=>decide (l.getD i 0≠0)&&(i==0||decide (l.getD (i-1) 0<l.getD i 0)))=Lu (eR l) l:=by
  rw[xY,yX,Cm];constructor
  .intro h i hi;have:=h i (xD.2 hi);rw[show l.getD i 0=l[i] by rw[wL,zT hi];rfl]at this;exact this
  .intro h i hi;have hi:=xD.1 hi;rw[show l.getD i 0=l[i] by rw[wL,zT hi];rfl];exact h i hi
 rw[Sr,e]
def Ayo(l:List Int)(hl:l.length<=100000):Sp 430 [.sl 1 Bo l] (Ab (Sr l)):=cT F430 ntmps430 λF hF=>by
 have g:=A16 l;generalize Sr l=r at *;refine T ?_;refine Bb l.length (λj=>Ic (eR l) l j) (λj=>[(0,.sl 1 Bo l),(5,.sl 1 Bo l),(6,Aa l.length),(7,Aa j)]) (λ_=>[]) [] (Bn _ _) U ?_;intro j hj o;refine gP ?_ ?_<;>intro h
 .have J:j<l.length:=qA h;have t:(j:Int).toNat<l.length:=J;have R:=λh=>Ew (p:=eR l) J h
  have du:=λh=>Bk (p:=eR l) o J h
  clear h;by_cases i:l[j]=0
  .have f1:(l[(j:Int).toNat]'t==0)=true:=yL.2 i;rw[R (by simp[eR,i]),yE]at g;subst g;exact gA
  .have f1:(l[(j:Int).toNat]'t==0)=false:=zU.2 i;by_cases h2:j=0
   .subst h2;refine T ?_;exact A6 [] o j_ (du (by simp[eR,i])) U
   .have f2:decide ((j:Int)>0)=true:=zL j_;have I:((j:Int)-1).toNat<l.length:=by omega
    have hg:l.getD (j-1) 0=l[((j:Int)-1).toNat]'I:=by
     rw[wL,zT (by omega:j-1<l.length)];have:((j:Int)-1).toNat=j-1:=by omega
     simp only[this];rfl
    have P:eR l j l[j]=(decide (l[j]≠0)&&(j==0||decide (l.getD (j-1) 0<l[j]))):=rfl;rw[hg]at P;by_cases h3:l[((j:Int)-1).toNat]'I<l[j]
    .have f3:decide (l[((j:Int)-1).toNat]'I>=l[(j:Int).toNat]'t)=false:=zJ (by show ¬_>=l[j];omega);refine T ?_;exact A6 [] o j_ (du (by rw[P,zL i,zL h3,tY];rfl)) U
    .have f3:decide (l[((j:Int)-1).toNat]'I>=l[(j:Int).toNat]'t)=true:=zL (by show _>=l[j];omega);rw[R (by rw[P,zJ h3,zU.2 h2];simp),yE]at g;subst g;exact gA
 .have bu:j=l.length:=qB h;subst bu;rw[Ki o (yG _),yB]at g;subst g;clear h;by_cases h0:0<l.length
  .rw[zL h0,yB];have f0:decide ((l.length:Int)>0)=true:=zL j_;refine T ?_;refine Av q_ As (zH Ab ?_) q_;exact decide_eq_decide.2 j_
  .rw[zJ h0,yE];have f0:decide ((l.length:Int)>0)=false:=zJ j_;exact gA
structure E7(l:A2):Prop where
 fin:Adw l
 ok:Bds l
 q:l.q.size<=100000
 ac:l.ac.size<=100000
 peer:l.peer.size<=100000
 bi:l.bi.size<=100000
 name:l.name.size<=100000
def Ayd(l:A2)(p:E7 l)(i:l.kind=1):Sp 407 [Be l] (.tup [Be (Cq l).1,Ab (Cq l).2]):=cT F407 ntmps407 λF hF=>by
 have r:Cq l=({Ba with row:=l.row,kind:=1,q:=l.q,num:=l.num,an:=l.an},(Ds l.num 0 65535&&On l.an)):=by
  simp only[Cq,i];rfl
 rw[r];have j:=Ky l.num 0 65535;have t:Sp 214 [B1 l.an] (Ab (On l.an)):=by
  have:=p.ok.an;obtain ⟨m,R⟩:∃m:Nat,l.an=m:=⟨l.an.toNat,by omega⟩
  rw[R];exact Ah3 m j_
 obtain ⟨row,kind,dev,port,I,far,name,mac,addr,bits,J,num,P,tagged,imports,g,o⟩:=l;dsimp only at i j t|-;subst i;clear r p;generalize Ds num 0 65535=b0 at *;generalize On mac=b1 at *;cases b0
 .rw[yE];refine gD j F428 ?_;exact An 2 (Dl {Ba with row:=row,kind:=1,q:=dev,num:=num,an:=mac}) rfl vL gA
 rw[yB];refine gB j F428 t F214 ?_;exact An 2 (Dl {Ba with row:=row,kind:=1,q:=dev,num:=num,an:=mac}) rfl vL gA
def Ayc(l:A2)(o:E7 l)(r:l.kind=2):Sp 407 [Be l] (.tup [Be (Cq l).1,Ab (Cq l).2]):=cT F407 ntmps407 λF hF=>by
 have P:Cq l=({Ba with row:=l.row,kind:=2,q:=l.q,ac:=l.ac,aj:=l.aj,z:=l.z,u:=l.u},(A5 l.ac&&(Ds l.aj 1 65535&&(Ds l.z 0 4094&&(Jm l.u 4094&&Cs l.z l.u))))):=by
  simp only[Cq,r];rfl
 rw[P];have g:=Ju l.ac (by have:=o.ac;omega);have i:=Ky l.aj 1 65535;have p:=Ky l.z 0 4094;have I:=Aeb l.u 4094 o.fin.t;have R:=Q4 l (by have:=o.fin.t;simp only[At];omega);obtain ⟨row,kind,dev,port,a0,far,name,a1,addr,bits,vlan,num,cost,tagged,imports,j,J⟩:=l;dsimp only at r g i p I R|-;subst r;clear P o;generalize A5 port=b0 at *;generalize Ds cost 1 65535=b1 at *;generalize Ds vlan 0 4094=b2 at *;generalize Jm tagged 4094=b3 at *;generalize Cs vlan tagged=b4 at *;cases b0
 .rw[yE];refine gD g F64 ?_;exact An 2 (Dl {Ba with row:=row,kind:=2,q:=dev,ac:=port,aj:=cost,z:=vlan,u:=tagged}) rfl vL gA
 rw[yB];cases b1
 .rw[yE];refine gB g F64 i F428 ?_;exact An 2 (Dl {Ba with row:=row,kind:=2,q:=dev,ac:=port,aj:=cost,z:=vlan,u:=tagged}) rfl vL gA
 rw[yB];cases b2
 .rw[yE];refine gB g F64 i F428 ?_;refine C p F428 ?_;exact An 2 (Dl {Ba with row:=row,kind:=2,q:=dev,ac:=port,aj:=cost,z:=vlan,u:=tagged}) rfl vL gA
 rw[yB];cases b3
 .rw[yE];refine gB g F64 i F428 ?_;refine gN p F428 I F429 ?_;exact An 2 (Dl {Ba with row:=row,kind:=2,q:=dev,ac:=port,aj:=cost,z:=vlan,u:=tagged}) rfl vL gA
 rw[yB];refine gB g F64 i F428 ?_;refine gN p F428 I F429 ?_;refine C R F215 ?_;exact An 2 (Dl {Ba with row:=row,kind:=2,q:=dev,ac:=port,aj:=cost,z:=vlan,u:=tagged}) rfl vL gA
def Ayb(l:A2)(i:E7 l)(o:l.kind=3):Sp 407 [Be l] (.tup [Be (Cq l).1,Ab (Cq l).2]):=cT F407 ntmps407 λF hF=>by
 have t:Cq l=({Ba with row:=l.row,kind:=3,q:=l.q,ac:=l.ac,peer:=l.peer,bi:=l.bi},(A5 l.ac&&(A5 l.peer&&A5 l.bi))):=by
  simp only[Cq,o];rfl
 rw[t];have j:=Ju l.ac (by have:=i.ac;omega);have p:=Ju l.peer (by have:=i.peer;omega);have I:=Ju l.bi (by have:=i.bi;omega);obtain ⟨row,kind,dev,port,peer,far,name,R,addr,bits,J,num,P,tagged,imports,g,r⟩:=l;dsimp only at o j p I|-;subst o;clear t i;generalize A5 port=b0 at *;generalize A5 peer=b1 at *;generalize A5 far=b2 at *;cases b0
 .rw[yE];refine gD j F64 ?_;exact An 2 (Dl {Ba with row:=row,kind:=3,q:=dev,ac:=port,peer:=peer,bi:=far}) rfl vL gA
 rw[yB];cases b1
 .rw[yE];refine gB j F64 p F64 ?_;exact An 2 (Dl {Ba with row:=row,kind:=3,q:=dev,ac:=port,peer:=peer,bi:=far}) rfl vL gA
 rw[yB];refine gB j F64 p F64 ?_;refine C I F64 ?_;exact An 2 (Dl {Ba with row:=row,kind:=3,q:=dev,ac:=port,peer:=peer,bi:=far}) rfl vL gA
def Aya(l:A2)(j:E7 l)(o:l.kind=4):Sp 407 [Be l] (.tup [Be (Cq l).1,Ab (Cq l).2]):=cT F407 ntmps407 λF hF=>by
 have t:Cq l=({Ba with row:=l.row,kind:=4,q:=l.q,z:=l.z,an:=l.an,ac:=l.ac},(Ds l.z 1 4094&&(On l.an&&A5 l.ac))):=by
  simp only[Cq,o];rfl
 rw[t];have i:=Ky l.z 1 4094;have p:Sp 214 [B1 l.an] (Ab (On l.an)):=by
  have:=j.ok.an;obtain ⟨m,R⟩:∃m:Nat,l.an=m:=⟨l.an.toNat,by omega⟩
  rw[R];exact Ah3 m j_
 have I:=Ju l.ac (by have:=j.ac;omega);obtain ⟨row,kind,dev,port,J,far,name,mac,addr,bits,vlan,num,P,tagged,imports,g,r⟩:=l;dsimp only at o i p I|-;subst o;clear t j;generalize Ds vlan 1 4094=b0 at *;generalize On mac=b1 at *;generalize A5 port=b2 at *;cases b0
 .rw[yE];refine gD i F428 ?_;exact An 2 (Dl {Ba with row:=row,kind:=4,q:=dev,z:=vlan,an:=mac,ac:=port}) rfl vL gA
 rw[yB];cases b1
 .rw[yE];refine gB i F428 p F214 ?_;exact An 2 (Dl {Ba with row:=row,kind:=4,q:=dev,z:=vlan,an:=mac,ac:=port}) rfl vL gA
 rw[yB];refine gB i F428 p F214 ?_;refine C I F64 ?_;exact An 2 (Dl {Ba with row:=row,kind:=4,q:=dev,z:=vlan,an:=mac,ac:=port}) rfl vL gA
def Ax8(l:A2)(J:E7 l)(i:l.kind=6):Sp 407 [Be l] (.tup [Be (Cq l).1,Ab (Cq l).2]):=cT F407 ntmps407 λF hF=>by
 have p:Cq l=({Ba with row:=l.row,kind:=6,q:=l.q,z:=l.z,num:=l.num},(Ds l.z 1 4094&&Ds l.num 1 16777215)):=by
  simp only[Cq,i];rfl
 rw[p];have j:=Ky l.z 1 4094;have r:=Ky l.num 1 16777215;obtain ⟨row,kind,dev,port,t,far,name,P,addr,bits,vlan,num,I,tagged,imports,g,o⟩:=l;dsimp only at i j r|-;subst i;clear p J;generalize Ds vlan 1 4094=R at *;generalize Ds num 1 16777215=b1 at *;cases R
 .rw[yE];refine gD j F428 ?_;exact An 2 (Dl {Ba with row:=row,kind:=6,q:=dev,z:=vlan,num:=num}) rfl vL gA
 rw[yB];refine gB j F428 r F428 ?_;exact An 2 (Dl {Ba with row:=row,kind:=6,q:=dev,z:=vlan,num:=num}) rfl vL gA
def Ax7(l:A2)(o:E7 l)(i:l.kind=7):Sp 407 [Be l] (.tup [Be (Cq l).1,Ab (Cq l).2]):=cT F407 ntmps407 λF hF=>by
 have p:Cq l=({Ba with row:=l.row,kind:=7,q:=l.q,num:=l.num,aa:=l.aa},(Ds l.num 1 16777215&&Sr l.aa)):=by
  simp only[Cq,i];rfl
 rw[p];have j:=Ky l.num 1 16777215;have r:=Ayo l.aa o.fin.a;obtain ⟨row,kind,dev,port,t,far,name,P,addr,bits,I,num,J,tagged,imports,g,addrs⟩:=l;dsimp only at i j r|-;subst i;clear p o;generalize Ds num 1 16777215=R at *;generalize Sr addrs=b1 at *;cases R
 .rw[yE];refine gD j F428 ?_;exact An 2 (Dl {Ba with row:=row,kind:=7,q:=dev,num:=num,aa:=addrs}) rfl vL gA
 rw[yB];refine gB j F428 r F430 ?_;exact An 2 (Dl {Ba with row:=row,kind:=7,q:=dev,num:=num,aa:=addrs}) rfl vL gA
def Ax6(l:A2)(g:E7 l)(o:l.kind=8):Sp 407 [Be l] (.tup [Be (Cq l).1,Ab (Cq l).2]):=cT F407 ntmps407 λF hF=>by
 have t:Cq l=({Ba with row:=l.row,kind:=8,q:=l.q,name:=l.name,ak:=l.ak,am:=l.am},(A5 l.name&&(Jm l.ak 65535&&Jm l.am 65535))):=by
  simp only[Cq,o];rfl
 rw[t];have j:=Ju l.name (by have:=g.name;omega);have p:=Aeb l.ak 65535 g.fin.i;have I:=Aeb l.am 65535 g.fin.e;obtain ⟨row,kind,dev,port,J,far,name,a0,addr,bits,P,num,R,tagged,imports,exports,r⟩:=l;dsimp only at o j p I|-;subst o;clear t g;generalize A5 name=b0 at *;generalize Jm imports 65535=b1 at *;generalize Jm exports 65535=b2 at *;cases b0
 .rw[yE];refine gD j F64 ?_;exact An 2 (Dl {Ba with row:=row,kind:=8,q:=dev,name:=name,ak:=imports,am:=exports}) rfl vL gA
 rw[yB];cases b1
 .rw[yE];refine gB j F64 p F429 ?_;exact An 2 (Dl {Ba with row:=row,kind:=8,q:=dev,name:=name,ak:=imports,am:=exports}) rfl vL gA
 rw[yB];refine gB j F64 p F429 ?_;refine C I F429 ?_;exact An 2 (Dl {Ba with row:=row,kind:=8,q:=dev,name:=name,ak:=imports,am:=exports}) rfl vL gA
def Ax5(l:A2)(j:E7 l)(o:l.kind=9):Sp 407 [Be l] (.tup [Be (Cq l).1,Ab (Cq l).2]):=cT F407 ntmps407 λF hF=>by
 have t:Cq l=({Ba with row:=l.row,kind:=9,q:=l.q,z:=l.z,name:=l.name,addr:=l.addr,bits:=l.bits},(Ds l.z 1 4094&&(A5 l.name&&K4 l.addr l.bits))):=by
  simp only[Cq,o];rfl
 rw[t];have i:=Ky l.z 1 4094;have p:=Ju l.name (by have:=j.name;omega);have I:Sp 150 [V6 l.addr l.bits] (Ab (K4 l.addr l.bits)):=by
  have:=j.ok.addr;obtain ⟨m,R⟩:∃m:Nat,l.addr=m:=⟨l.addr.toNat,by omega⟩
  rw[R];exact Afd m l.bits j_
 obtain ⟨row,kind,dev,port,J,far,name,a0,addr,bits,vlan,num,P,tagged,imports,g,r⟩:=l;dsimp only at o i p I|-;subst o;clear t j;generalize Ds vlan 1 4094=b0 at *;generalize A5 name=b1 at *;generalize K4 addr bits=b2 at *;cases b0
 .rw[yE];refine gD i F428 ?_;exact An 2 (Dl {Ba with row:=row,kind:=9,q:=dev,z:=vlan,name:=name,addr:=addr,bits:=bits}) rfl vL gA
 rw[yB];cases b1
 .rw[yE];refine gB i F428 p F64 ?_;exact An 2 (Dl {Ba with row:=row,kind:=9,q:=dev,z:=vlan,name:=name,addr:=addr,bits:=bits}) rfl vL gA
 rw[yB];refine gB i F428 p F64 ?_;refine C I F150 ?_;exact An 2 (Dl {Ba with row:=row,kind:=9,q:=dev,z:=vlan,name:=name,addr:=addr,bits:=bits}) rfl vL gA
def Ax9(l:A2)(I:E7 l)(i:l.kind=5):Sp 407 [Be l] (.tup [Be (Cq l).1,Ab (Cq l).2]):=cT F407 ntmps407 λF R=>by
 have o:Cq l=({Ba with row:=l.row,kind:=5,q:=l.q,addr:=l.addr},decide (l.addr≠0)):=by
  simp only[Cq,i];rfl
 rw[o];obtain ⟨row,kind,dev,port,p,far,name,J,addr,bits,r,num,t,tagged,imports,g,j⟩:=l;dsimp only at i|-;subst i;clear o I;have P:decide (addr≠0)=(addr != 0):=by
  by_cases h:addr=0
  .rw[h];rfl
  .rw[zL h,xF.2 h]
 rw[P];refine T ?_;exact An 2 (Dl {Ba with row:=row,kind:=5,q:=dev,addr:=addr}) rfl vL gA
def Aye(l:A2)(R:¬(1<=l.kind/\l.kind<=9)):Sp 407 [Be l] (.tup [Be (Cq l).1,Ab (Cq l).2]):=cT F407 ntmps407 λF hF=>by
 have g:¬l.kind=1:=by omega
 have f1:(l.kind==1)=false:=zU.2 g;have i:¬l.kind=2:=by omega
 have f2:(l.kind==2)=false:=zU.2 i;have j:¬l.kind=3:=by omega
 have f3:(l.kind==3)=false:=zU.2 j;have o:¬l.kind=4:=by omega
 have f4:(l.kind==4)=false:=zU.2 o;have p:¬l.kind=5:=by omega
 have f5:(l.kind==5)=false:=zU.2 p;have r:¬l.kind=6:=by omega
 have f6:(l.kind==6)=false:=zU.2 r;have t:¬l.kind=7:=by omega
 have f7:(l.kind==7)=false:=zU.2 t;have I:¬l.kind=8:=by omega
 have f8:(l.kind==8)=false:=zU.2 I;have J:¬l.kind=9:=by omega
 have f9:(l.kind==9)=false:=zU.2 J;have P:Cq l=({Ba with row:=l.row,kind:=l.kind,q:=l.q},false):=by
  simp only[Cq,zD g,zD i,zD j,zD o,zD p,zD r,zD t,zD I,zD J]
 rw[P];refine T ?_;exact An 2 (Dl {Ba with row:=l.row,kind:=l.kind,q:=l.q}) rfl vL gA
def A4s(l:A2)(g:E7 l):Sp 407 [Be l] (.tup [Be (Cq l).1,Ab (Cq l).2]):=by
 by_cases i:1<=l.kind/\l.kind<=9
 .rcases (by omega:l.kind=1\/l.kind=2\/l.kind=3\/l.kind=4\/l.kind=5\/l.kind=6\/l.kind=7\/l.kind=8\/l.kind=9) with h|h|h|h|h|h|h|h|h
  .exact Ayd l g h
  .exact Ayc l g h
  .exact Ayb l g h
  .exact Aya l g h
  .exact Ax9 l g h
  .exact Ax8 l g h
  .exact Ax7 l g h
  .exact Ax6 l g h
  .exact Ax5 l g h
 .exact Aye l i
def A4b{l:A2}(h:Adw l):Adw (Cq l).1:=by
 have j:=h.t;have hi:=h.i;have o:=h.e;have g:=h.a
 unfold Cq;dsimp only
 repeat' split
 all_goals exact⟨by first|exact j|(show 0<=100000;decide),by first|exact hi|(show 0<=100000;decide),by first|exact o|(show 0<=100000;decide),by first|exact g|(show 0<=100000;decide)⟩
def S3(l:A2)(g:E7 l):Sp 348 [Be l] (Ab (Hp l)):=cT F348 ntmps348 λF t=>by
 have i:=A4s l g;have j:=Ju l.q (by have:=g.q;omega);have o:=A4u (Cq l).1 l (A4b g.fin) g.fin;rw[Hp];generalize Cq l=u at *;obtain ⟨ul,r⟩:=u;dsimp only at i o|-;cases r
 .rw[yE];refine gD i F407 ?_;exact D
 rw[yB];cases p:A5 l.q
 .rw[p]at j;rw[yE];refine gB i F407 j F64 ?_;exact D
 rw[p]at j;rw[yB];refine gB i F407 j F64 ?_;refine C o F408 ?_;exact D
set_option maxRecDepth 20000
def bW(n:Ai)(i:Int):Sp 67 [Aq n,Aa i] (Ab (Am i n.g.length)):=cT F67 ntmps67 λF j=>by
 refine gR ?_ ?_<;>intro h
 .have g:0<=i:=zO h;refine fU ?_;refine Av q_ As (zH Ab ?_) q_;rw[Am,zL g,yB]
 .have g:¬0<=i:=zQ h;refine fU ?_;refine Av q_ As (zH Ab ?_) q_;rw[Am,zJ g,yE]
def Aeg(n:Ai)(t:Ac n=true)(o:Qw n)(i:Int)(hi:0<=i/\i<n.g.length):Sp 68 [Aq n,Aa i] (Ap (Cr n i)):=cT F68 ntmps68 λF R=>by
 have j:i.toNat<n.g.length:=by omega
 have g:=aG t j;have I:Af n.g i=n.g[i.toNat]:=Aj j;have l:=o.2 _ (zI j);rw[Cr,I];obtain ⟨p,hp⟩:=kE (n.g[i.toNat]);rw[hp]at g l|-;have J:Af n.j p.q=n.j[p.q.toNat]:=Aj g.2;rw[J];have P:=o.1 _ (zI g.2);obtain ⟨x,r⟩:=kE (n.j[p.q.toNat]'g.2);rw[r]at P|-;have wz:(⟨#[46]⟩:ByteArray).size=1:=rfl;have m6:=Ah8 x.name ⟨#[46]⟩;refine fW ?_;refine⟨q_,hi.1,j,?_⟩;rw[hp];refine fW ?_;refine⟨q_,g.1,g.2,?_⟩;rw[r];refine fW ?_;refine⟨by omega,?_⟩;refine fW ?_;refine⟨by omega,?_⟩;refine fW ?_;refine⟨y_,?_⟩;refine fW ?_;exact dN
def Arf(n:Ai)(i:Int):ByteArray:=if Am i n.g.length=true/\Ac n=true then Cr n i else ⟨#[45]⟩
def Vo{i:Int}{n:Nat}(h:Am i n=true):0<=i/\i<n:=by simpa [Am] using h
def Af0(n:Ai)(l:n.Fin)(o:Qw n)(i:Int):Sp 45 [Aq n,Aa i] (Ap (Arf n i)):=cT F45 ntmps45 λF J=>by
 have p:=bW n i;have t:=A7 n l;have I:=λj hi=>Aeg n j o i hi
 have g:=Arf.eq_1 n i;generalize Arf n i=r at *;refine gQ p F67 ?_;cases hp:Am i n.g.length
 .rw[zD (by simp[hp])]at g;subst g;exact gC
 refine gL t F49 ?_;cases j:Ac n
 .rw[zD (by simp[j])]at g;subst g;exact gC
 rw[zE ⟨hp,j⟩]at g;subst g;refine gL (I j (Vo hp)) F68 ?_;exact gC
def oV(w:Int):ByteArray:=if w=1 then ⟨#[99,111,110,102,105,103]⟩ else if w=2 then ⟨#[112,111,108,105,99,121]⟩ else ⟨#[45]⟩
def Al3(w:Int):Sp 46 [Aa w] (Ap (oV w)):=cT F46 ntmps46 λF i=>by
 have g:=oV.eq_1 w;generalize oV w=r at *;refine gR ?_ ?_<;>intro h
 .rw[zE (kS h)]at g;subst g;exact gC
 rw[zD (kS h)]at g;refine gH ?_ ?_<;>intro h
 .rw[zE (kS h)]at g;subst g;exact gC
 .rw[zD (kS h)]at g;subst g;exact gC
def Vq(l:List ByteArray)(g:l.length<=1000000)(i:bV l<=1000000000):Sp 48 [.sl 1 Ap l] (Ap (Hs l ⟨#[32]⟩)):=cT F48 ntmps48 λF j=>by
 have q:=Ass l ⟨#[32]⟩ j_ j_ (by show 1*l.length<=_;omega);generalize Hs l ⟨#[32]⟩=r at *;refine gQ q F88 ?_;exact gC
set_option maxRecDepth 100000
abbrev Hv:ByteArray:=⟨#[105,110,106,101,99,116]⟩
abbrev Vu:ByteArray:=⟨#[112,105,99,107]⟩
abbrev W4:ByteArray:=⟨#[100,114,111,112]⟩
abbrev Aba:ByteArray:=⟨#[116,105,99,107]⟩
abbrev Ui:ByteArray:=⟨#[108,105,110,107,115]⟩
abbrev A8y:List SV:=[Ap ⟨#[]⟩,Ap Hv,Ap Vu,Ap W4,Ap Aba,Ap Ui]
abbrev Bj(k:Nat):Nat×Ob:=(k,.glob 6 (.agg A8y) 1)
def A75(a:Int):Bool:=decide (0<=a)&&decide (a<=999999999)
def Kl(n:Ai)(x:B7):ByteArray×Bool :=
 if x.kind=1 then (if Am x.ac n.g.length=true then (Hs [Hv,Cr n x.ac,dJ x.bytes] ⟨#[32]⟩,true) else (⟨#[]⟩,false))
 else if x.kind=2 then (Hs [Vu,Uf n x.l,I7 x.az] ⟨#[32]⟩,!(Uf n x.l == ⟨#[]⟩)&&A75 x.az)
 else if x.kind=3 then (Hs [W4,Uf n x.l,I7 x.az] ⟨#[32]⟩,!(Uf n x.l == ⟨#[]⟩)&&A75 x.az)
 else if x.kind=4 then (Aba,true)
 else if x.kind=5 then (Hs [Ui,Qz x.up] ⟨#[32]⟩,decide (x.up.length=n.x.length))
 else (⟨#[]⟩,false)
def fM(l:List UInt8):(dJ l).size<=2*l.length+1:=by
 unfold dJ;split
 .show 1<=_;omega
 .rw[Dp,dK];omega
def Abb(l:List Bool):(Qz l).size<=l.length+1:=by
 unfold Qz;split
 .show 1<=_;omega
 .rw[Dp,Q0,yS];omega
def Oo{n:Ai}(g:Ac n=true)(j:Qw n){i:Int}(hi:0<=i/\i<n.g.length):(Cr n i).size<=700:=by
 have:=Azm j i;rwa [Bac,zE ⟨hi,g⟩]at this
def A9o(a b:ByteArray):bV [a,b]=a.size+(b.size+0):=rfl
def Aef(a b c:ByteArray):bV [a,b,c]=a.size+(b.size+(c.size+0)):=rfl
def A9p(n:Ai)(hn:n.Fin)(hb:Ac n=true)(t:Qw n)(x:B7)(R:L6 x.az)(jt:x.bytes.length<1000000)(lp:x.up.length<1000000):Sq 71 [Aq n,Dm x] [Bj 900] (.tup [Ap (Kl n x).1,Ab (Kl n x).2]) [Bj 900]:=cT F71 ntmps71 λF hF=>by
 obtain ⟨l,port,dom,at_,bytes,up⟩:=x;dsimp only at R jt lp;have g:=Kl.eq_1 n ⟨l,port,dom,at_,bytes,up⟩;dsimp only at g;generalize Kl n ⟨l,port,dom,at_,bytes,up⟩=a0 at *;have q0:=Akj n hn t dom;have z0:=Aoj t dom;have q1:=bW n port;have q2:=λhi=>Aeg n hb t port hi
 have z2:=λhi=>Oo hb t (i:=port) hi
 have q3:=Akw bytes jt;have z3:=fM bytes;have q4:=Yo at_ R;have z4:=Qk R;have q5:=Bd9 up lp;have z5:=Abb up;generalize Uf n dom=I at *;generalize dJ bytes=tb at *;generalize I7 at_=J at *;generalize Qz up=tu at *;refine fW ?_;refine Bi 2 8 (Aq n) q_ q_ q_ (fU ?_);refine Bi 3 6 (Dm ⟨l,port,dom,at_,bytes,up⟩) q_ q_ q_ (gL q0 F128 ?_);refine gH ?_ ?_<;>intro h
 .obtain rfl:l=1:=by simpa using h
  rw[zE rfl]at g;refine gL q1 F67 ?_;cases hp:Am port n.g.length
  .rw[zD (by simp[hp])]at g;subst g;refine fU ?_;exact done q_ (.cons .tmp As) [] [Bj 900] (λ_ h=>h) q_ q_ kU
  rw[zE hp]at g;subst g;have hi:=Vo hp;have q2:=q2 hi;have z2:=z2 hi;generalize Cr n port=tp at *;have o:=Vq [Hv,tp,tb] qx (by rw[Aef];show 6+_<=_;omega);generalize Hs [Hv,tp,tb] ⟨#[32]⟩=P at *;refine fU ?_;refine Zj (O2.glob Γ.toTy 900 q_ q_ q_ q_ q_ (by show (0:Int)<=1;decide) (by show (1:Int).toNat<6;decide)) q_ y_ (gK q2 F68 ?_);refine cD q3 F69 (fU ?_);refine eH [32] o F48 q_ (.cons (.lit q_ q_ q_) .nil) q_ y_ q_ ?_;refine fU ?_;refine⟨y_,?_⟩;refine fW ?_;exact done q_ (.cons .tmp As) [] [Bj 900] (λ_ h=>h) q_ q_ kU
 rw[zD (kS h)]at g;refine fU ?_;constructor<;>intro j
 .obtain rfl:l=2:=by simpa using j
  rw[zE rfl]at g;have o:=Vq [Vu,I,J] qx (by rw[Aef];show 4+_<=_;omega);generalize Hs [Vu,I,J] ⟨#[32]⟩=P at *;refine fU ?_;refine Zj (O2.glob Γ.toTy 900 q_ q_ q_ q_ q_ (by show (0:Int)<=2;decide) (by show (2:Int).toNat<6;decide)) q_ y_ (gK q4 F47 ?_);refine eH [45] o F48 q_ (.cons (.lit q_ q_ q_) .nil) q_ y_ q_ ?_;refine fU ?_;constructor<;>intro p
  .rw[p,yB,A75]at g;refine fU ?_;constructor<;>intro r
   .rw[r,yB]at g;subst g;refine fU ?_;refine⟨y_,?_⟩;refine fW ?_;exact done q_ (.cons .tmp As) [] [Bj 900] (λ_ h=>h) q_ q_ kU
   .rw[r,yE]at g;subst g;refine fU ?_;refine⟨y_,?_⟩;refine fW ?_;exact done q_ (.cons .tmp As) [] [Bj 900] (λ_ h=>h) q_ q_ kU
  .rw[p,yE]at g;subst g;refine fU ?_;refine⟨y_,?_⟩;refine fW ?_;exact done q_ (.cons .tmp As) [] [Bj 900] (λ_ h=>h) q_ q_ kU
 rw[zD (kS j)]at g;clear j;refine fU ?_;constructor<;>intro j
 .obtain rfl:l=3:=by simpa using j
  rw[zE rfl]at g;have o:=Vq [W4,I,J] qx (by rw[Aef];show 4+_<=_;omega);generalize Hs [W4,I,J] ⟨#[32]⟩=P at *;refine fU ?_;refine Zj (O2.glob Γ.toTy 900 q_ q_ q_ q_ q_ (by show (0:Int)<=3;decide) (by show (3:Int).toNat<6;decide)) q_ y_ (gK q4 F47 ?_);refine eH [45] o F48 q_ (.cons (.lit q_ q_ q_) .nil) q_ y_ q_ ?_;refine fU ?_;constructor<;>intro p
  .rw[p,yB,A75]at g;refine fU ?_;constructor<;>intro r
   .rw[r,yB]at g;subst g;refine fU ?_;refine⟨y_,?_⟩;refine fW ?_;exact done q_ (.cons .tmp As) [] [Bj 900] (λ_ h=>h) q_ q_ kU
   .rw[r,yE]at g;subst g;refine fU ?_;refine⟨y_,?_⟩;refine fW ?_;exact done q_ (.cons .tmp As) [] [Bj 900] (λ_ h=>h) q_ q_ kU
  .rw[p,yE]at g;subst g;refine fU ?_;refine⟨y_,?_⟩;refine fW ?_;exact done q_ (.cons .tmp As) [] [Bj 900] (λ_ h=>h) q_ q_ kU
 rw[zD (kS j)]at g;clear j;refine fU ?_;constructor<;>intro j
 .obtain rfl:l=4:=by simpa using j
  rw[zE rfl]at g;subst g;refine fU ?_;refine Al (Uu Γ.toTy 900 q_ q_ q_ q_ q_ (by show (0:Int)<=4;decide) (by show (4:Int).toNat<6;decide)) q_ q_ (fU ?_);exact done q_ (.cons .tmp As) [] [Bj 900] (λ_ h=>h) q_ q_ kU
 rw[zD (kS j)]at g;clear j;refine fU ?_;constructor<;>intro j
 .obtain rfl:l=5:=by simpa using j
  rw[zE rfl]at g;have o:=Vq [Ui,tu] qx (by rw[A9o];show 5+_<=_;omega);generalize Hs [Ui,tu] ⟨#[32]⟩=P at *;subst g;refine fU ?_;refine Zj (O2.glob Γ.toTy 900 q_ q_ q_ q_ q_ (by show (0:Int)<=5;decide) (by show (5:Int).toNat<6;decide)) q_ y_ (gK q5 F131 ?_);refine eH [74] o F48 q_ (.cons (.lit q_ q_ q_) .nil) q_ y_ q_ ?_;refine fU ?_;refine⟨y_,?_⟩;refine fW ?_;refine done q_ (.cons .tmp As) [] [Bj 900] (λ_ h=>h) ?_ q_ kU;refine zH (λb=>SV.tup [Ap P,Ab b]) ?_;rw[xY];simp;omega
 rw[zD (kS j)]at g;subst g;refine fU ?_;exact done q_ (.cons .tmp As) [] [Bj 900] (λ_ h=>h) q_ q_ kU
def Aay(a b:ByteArray):(a==b)=true↔a=b:=by
 constructor
 .intro h;have:a.data=b.data:=kS ((show (a.data==b.data)=true from h));cases a;cases b;simp_all
 .rintro rfl;show (a.data==a.data)=true;simp
end
end Go.Sy.Zaa
