/- Parts of a proof. -/
import Derived.Test.YtedbfemmehbeoaaGreatDoorXC3
set_option maxHeartbeats 4000000
set_option linter.all false
namespace Go.Sy.Zaa
open Go.Proofs Go.Proofs.Tryz
section
def Ass(l:List ByteArray)(sep:ByteArray)(h0:l.length<=70368744177664)(i:bV l<=70368744177664)(j:sep.size*l.length<=70368744177664):Sp 88 [.sl 1 Ap l,Ap sep] (Ap (Hs l sep)) :=
 Spec.of_calls λk w vs hi g _=>by
  simp only[B8]at g;obtain ⟨v,r,rfl,p,u,r',rfl,t,rfl⟩:=g;have I:u=.string sep:=by simpa only [Ap,Rd] using t
  subst I;rcases Ax0 p with ⟨rfl,a,c,rfl⟩|⟨b,o,c,rfl,J,P,R⟩
  .exact(Tryz.strings_Join_none a c sep w).mono λe w' ⟨he,hw⟩=>⟨he,hw▸RowKit.Below.refl _ _⟩
  .exact Tryz.strings_Join b o c l sep w R P j_ J (Bbv i j)
def A4q(s:ByteArray)(c:UInt8)(m:Int)(hm:Lib.indexByte s.data.toList c=m):Sp 37 [Ap s,Ap ⟨#[c]⟩] (Aa m) :=
 Spec.of_calls λk w vs hi g _=>by
  subst hm;simp only[B8]at g;obtain ⟨v,r,rfl,i,u,t,rfl,j,rfl⟩:=g;have l:v=.string s:=by simpa only [Ap,Rd] using i
  have o:u=.string ⟨#[c]⟩:=by simpa only [Ap,Rd] using j
  subst l o;exact(Tryz.strings_Index_one s c w).mono λe w' ⟨p,hw⟩=>⟨p,hw▸RowKit.Below.refl _ _⟩
def A4r(s:ByteArray)(c:UInt8)(n:Nat)(i:s.data.toList.count c=n):Sp 44 [Ap s,Ap ⟨#[c]⟩] (Aa n) :=
 Spec.of_calls λk w vs hi g _=>by
  subst i;simp only[B8]at g;obtain ⟨v,r,rfl,j,u,I,rfl,l,rfl⟩:=g;have o:v=.string s:=by simpa only [Ap,Rd] using j
  have p:u=.string ⟨#[c]⟩:=by simpa only [Ap,Rd] using l
  subst o p;exact(Tryz.strings_Count_one s c w).mono λe w' ⟨t,hw⟩=>⟨t,hw▸RowKit.Below.refl _ _⟩
def Ua(c:UInt8)(l:List UInt8):Nat:=(Lib.indexByte l c).toNat
def D9(c:UInt8)(l:List UInt8):Nat->List UInt8
 |0=>l
 |j+1=>(D9 c l j).drop (Ua c (D9 c l j)+1)
def Qd(c:UInt8)(l:List UInt8)(j:Nat):List UInt8:=(D9 c l j).take (Ua c (D9 c l j))
def Hl(l:List UInt8):ByteArray:=⟨l.toArray⟩
def Bd(c:UInt8)(s:ByteArray):List ByteArray :=
 (List.range (s.data.toList.count c)).map (λj=>Hl (Qd c s.data.toList j))++[Hl (D9 c s.data.toList (s.data.toList.count c))]
def Mo:∀{l:List UInt8} {c:UInt8},c∈l->0<=Lib.indexByte l c/\(Lib.indexByte l c).toNat<l.length
 |b::l,c,h=>by
  unfold Lib.indexByte;by_cases g:b==c
  .rw[zE g];simp
  .rw[zD g];have i:c∈l:=by
    rcases yH.1 h with h|h
    .exact zW (by simp[h]) g
    .exact h
   have:=Mo i;rw[zD kO];simp only[yI];omega
def aH:∀{l:List UInt8} {c:UInt8},c∈l->(l.drop (Ua c l+1)).count c+1=l.count c
 |b::l,c,h=>by
  unfold Ua Lib.indexByte;by_cases g:b==c
  .rw[zE g,List.count_cons,zE g];simp
  .rw[zD g];have i:c∈l:=by
    rcases yH.1 h with h|h
    .exact zW (by simp[h]) g
    .exact h
   have j:=Mo i;rw[zD kO,List.count_cons,zD g,uO,<-aH i];have e:(Lib.indexByte l c+1).toNat=Ua c l+1:=by unfold Ua;omega
   rw[e,List.drop_succ_cons]
def Aat(c:UInt8)(l:List UInt8):∀j,j<=l.count c->(D9 c l j).count c+j=l.count c
 |0,_=>rfl
 |j+1,h=>by
  have i:=Aat c l j j_;have g:c∈D9 c l j:=List.count_pos_iff.1 j_;have:=aH g;rw[D9];omega
def Aij{c:UInt8}{l:List UInt8}{j:Nat}(h:j<l.count c):c∈D9 c l j :=
 List.count_pos_iff.1 (by have:=Aat c l j j_;omega)
def Uw(c:UInt8)(s:ByteArray):Nat:=s.data.toList.count c
def Vy(c:UInt8)(s:ByteArray)(j:Nat):List ByteArray :=
 (List.range j).map (λj=>Hl (Qd c s.data.toList j))++List.replicate (Uw c s+1-j) ⟨#[]⟩
def Alj(c:UInt8)(s:ByteArray)(j:Nat)(h:j<=Uw c s):(Vy c s j).length=Uw c s+1:=by
 simp only[Vy,zR,yS,vT,wS];omega
def Asv(c:UInt8)(s:ByteArray):Vy c s 0=List.replicate (Uw c s+1) ⟨#[]⟩:=by
 simp[Vy]
def Asw(c:UInt8)(s:ByteArray)(j:Nat)(h:j<Uw c s):Vy c s (j+1)=(Vy c s j).set j (Hl (Qd c s.data.toList j)):=by
 have e:Uw c s+1-j=(Uw c s+1-(j+1))+1:=by omega
 have g:((List.range j).map (λj=>Hl (Qd c s.data.toList j))).length=j:=by simp
 rw[Vy,Vy,uK _ _ j_,g,uU,wW,wP,e,uH,uA];simp
def Ayr(c:UInt8)(s:ByteArray):(Vy c s (Uw c s)).set (Uw c s) (Hl (D9 c s.data.toList (Uw c s)))=Bd c s:=by
 have e:Uw c s+1-Uw c s=0+1:=by omega
 have g:((List.range (Uw c s)).map (λj=>Hl (Qd c s.data.toList j))).length=Uw c s:=by simp
 rw[Vy,uK _ _ j_,g,uU,e,uH,uA];rfl
def Ly(c:UInt8)(s:ByteArray):(Bd c s).length=Uw c s+1:=by simp only[Bd,zR,yS,vT,yD];rfl
def cH(c:UInt8)(l:List UInt8):∀j,(D9 c l j).length<=l.length
 |0=>yG _
 |j+1=>by rw[D9,yP];have:=cH c l j;omega
def Sm{a b:ByteArray}(h:a.data.toList=b.data.toList):a=b:=by
 cases a;cases b;simp only[ByteArray.mk.injEq];exact Array.toList_inj.1 h
def Dp(l:List UInt8):(Hl l).size=l.length:=by simp[Hl,ByteArray.size]
def Jy(l:List UInt8):(Hl l).data.toList=l:=by simp[Hl]
def H8(l:List UInt8)(i j:Nat):(Hl l).extract i j=Hl ((l.take j).drop i):=by
 apply Sm;simp[Hl,ByteArray.data_extract,List.extract_eq_take_drop,List.drop_take]
def Jw(s:ByteArray):Hl s.data.toList=s:=Sm (by simp[Hl])
def Atw{c:UInt8}{s:ByteArray}{j m:Nat}(h:Lib.indexByte (D9 c s.data.toList j) c=m):Qd c s.data.toList j=(D9 c s.data.toList j).take m:=by
 rw[Qd,Ua,h,yA]
def A2x{c:UInt8}{s:ByteArray}{j m:Nat}(h:Lib.indexByte (D9 c s.data.toList j) c=m):D9 c s.data.toList (j+1)=(D9 c s.data.toList j).drop (m+1):=by
 rw[D9,Ua,h,yA]
set_option maxRecDepth 20000 in
def A7c(s:ByteArray)(c:UInt8)(hs:s.size<1000000000):Sp 21 [Ap s,Ap ⟨#[c]⟩,Aa 0,Aa (-1)] (.sl 1 Ap (Bd c s)):=cT F21 ntmps21 λF hF=>by
 have gu:Uw c s<=s.size:=List.count_le_length;have o:=Asv c s;have gv:=Ayr c s;have i:=Alj c s;have af:=Asw c s;have ss:∀j,j<Uw c s->c∈D9 c s.data.toList j:=λj p=>Aij p
 have t:=cH c s.data.toList;have az:s.data.toList.length=s.size:=rfl;have hp:=λj m=>Atw (c:=c) (s:=s) (j:=j) (m:=m)
 have hq:=λj m=>A2x (c:=c) (s:=s) (j:=j) (m:=m)
 obtain ⟨n,hn⟩:=kE (Uw c s);rw[hn]at gu o gv i af ss;refine gQ (A4r s c n hn) F44 ?_;refine gE ?_;refine iL ?_;refine fW ?_;refine Al (Avs q_ q_ q_ j_) q_ q_ (fU ?_);refine Al (Cw Γ.toTy (d:=31) (n:=n+1) Ap ⟨#[]⟩ q_ q_ q_ q_ q_ q_ (zH (λz=>SV.val (.int .i64 z)) (Int.natCast_succ n).symm) (zH (λz=>SV.val (.int .i64 z)) (Int.natCast_succ n).symm) j_ j_ q_ q_ q_) q_ q_ ?_;rw[<-o];clear o;refine gE ?_;generalize hR:D9 c s.data.toList=g at *;generalize hU:Vy c s=u at *;generalize hP:Qd c s.data.toList=I at *;refine Bl n (λj=>[(0,Ap (Hl (g j))),(1,Ap ⟨#[c]⟩),(2,Aa 0),(3,Aa n),(9,.osl 31),(10,Aa j)]) (λj=>[(31,.row 1 Ap (u j))]) []
  ⟨⟨zH Ap (by rw[<-hR];exact(Jw s).symm),rfl,rfl,rfl,rfl,rfl,zH (λz=>SV.val (.int .i64 z)) j_,rfl,rfl,rfl,rfl,rfl,trivial⟩,⟨.inl rfl,rfl,trivial⟩,rfl,rfl⟩ ?_
 intro j p;have a0:=i j p;have yj:=t j;have s7:((⟨#[c]⟩:ByteArray).size:Int)=1:=rfl;refine gH ?_ ?_<;>intro h
 .have ab:j<n:=by simpa using h
  have hi:=Mo (ss j ab);have J:=hp j;have P:=hq j;have rp:=af j ab;generalize a1:g j=r at *;generalize u j=uj at *;obtain ⟨m,l⟩:∃m:Nat,Lib.indexByte r c=m:=⟨(Lib.indexByte r c).toNat,by omega⟩
  have yl:=J m l;have R:=P m l;rw[l,yA]at hi;have gn:=Dp r;refine gL (A4q (Hl r) c m (by rw[Jy];exact l)) F37 ?_;refine gE ?_;refine⟨⟨by omega,by omega,by omega⟩,?_⟩;refine fW ?_;refine⟨by omega,by omega,?_⟩;refine fW ?_;have hx:(Hl r).extract (Int.toNat 0) ((m:Int)+0).toNat=Hl (r.take m):=by
   rw[H8];simp
  have hy:(Hl r).extract ((m:Int)+((⟨#[c]⟩:ByteArray).size:Nat)).toNat (((Hl r).size:Nat):Int).toNat=Hl (r.drop (m+1)):=by
   rw[H8,s7,Dp,yA,yM];rfl
  refine⟨q_,by omega,Hl (r.take m),zH (λz=>[Ap z]) hx.symm,q_,?_⟩;refine gJ ?_;refine⟨⟨by omega,by omega,by omega⟩,?_⟩;refine gJ ?_;refine A9 [] j_ ⟨⟨zH Ap (by rw[R];exact hy.symm),q_,q_,q_,q_,q_,q_,q_,q_,q_,q_,q_,z_⟩,⟨.inl (zH (Ob.row 1 Ap) (by rw[rp,yl];rfl)),q_,z_⟩,q_,q_⟩
 .have:j=n:=qB h;subst this;refine fU ?_;refine⟨by omega,by omega,?_⟩;refine fW ?_;refine⟨q_,by omega,Hl (g j),q_,q_,?_⟩;refine gJ ?_;refine Al (dR Γ.toTy (d:=65) (hi:=j+1) q_ q_ q_ q_ q_ qq q_ (.inl ⟨q_,q_⟩) (.inr ⟨_,_,q_,zH (λz=>SV.val (.int .i64 z)) (Int.natCast_succ j).symm⟩) (by rw[yO];omega)) q_ q_ ?_;have hE:((u j).set ((j:Int).toNat) (Hl (g j))).take (j+1)=Bd c s:=by
   rw[<-gv,xI (by rw[yO];omega)];rfl
  rw[hE];exact Ao 65 q_ gC
def Ah7(s:ByteArray)(c:UInt8)(g:s.size<1000000000):Sp 6 [Ap s,Ap ⟨#[c]⟩] (.sl 1 Ap (Bd c s)):=cT F6 ntmps6 λF i=>by
 have q:=A7c s c g;generalize Bd c s=l at *;refine gQ q F21 ?_;exact gC
attribute [local irreducible]G DR
set_option maxRecDepth 20000
def M6(c:UInt8):Bool:=decide (48<=c.toNat)&&decide (c.toNat<=57)
def oE(s:ByteArray):Nat->Int
 |0=>0
 |j+1=>10*oE s j+((Cb s j).toNat-48)
def Awc(s:ByteArray):Bool:=(List.range s.size).all λi=>M6 (Cb s i)
def Ul(s:ByteArray)(g:Int):Int×Bool :=
 if s.size=0\/3<s.size\/(1<s.size/\(Cb s 0).toNat=48)\/Awc s=false then (0,false) else (oE s s.size,decide (oE s s.size<=g))
def Adc{s:ByteArray}{i:Nat}(hi:i<s.size)(h:M6 (Cb s i)=false):Awc s=false:=by
 rw[Awc,List.all_eq_false];exact⟨i,kS hi,by simp[h]⟩
def Aok{s:ByteArray}(h:∀i,i<s.size->M6 (Cb s i)=true):Awc s=true:=by
 rw[Awc,yX];intro i hi;exact h i (kS hi)
def Akl{c:UInt8}:M6 c=true↔48<=c.toNat/\c.toNat<=57:=by simp[M6]
def Apj{s:ByteArray}:∀{j:Nat},(∀i,i<j->M6 (Cb s i)=true)->0<=oE s j/\oE s j<10^j
 |0,_=>by simp[oE]
 |j+1,h=>by
  have g:=Apj (s:=s) (j:=j) (λi hi=>h i j_);have l:=Akl.1 (h j j_);rw[oE];have e:(10:Int)^(j+1)=10*10^j:=by rw[Int.pow_succ];omega
  rw[e];omega
def A84{n:Nat}(h:48<=n)(g:n<256):IntKind.u8.wrap ((n:Int)-48)=(n:Int)-48:=by
 rw[IntKind.wrap_u8];omega
def Bb4{n:Int}(h:0<=n)(g:n<256):IntKind.i64.wrap n=n:=by
 rw[IntKind.wrap_i64];omega
def Ak8(s:ByteArray)(r:Int):Sp 217 [Ap s,Aa r] (.tup [Aa (Ul s r).1,Ab (Ul s r).2]):=cT F217 ntmps217 λF hF=>by
 have g:=Ul.eq_1 s r;generalize Ul s r=a0 at *;refine gR ?_ ?_<;>intro h
 .have h1:s.size=0:=by simpa using h
  rw[zE (.inl h1)]at g;subst g;exact gC
 have h1:¬s.size=0:=kS h;refine gH ?_ ?_<;>intro h
 .have h2:3<s.size:=qA h;rw[zE (.inr (.inl h2))]at g;subst g;exact gC
 have h2:¬3<s.size:=qB h;refine gH ?_ ?_<;>intro h
 .have h3:1<s.size:=qA h;refine fU ?_;refine⟨by decide,by simp;omega,?_⟩;refine gR ?_ ?_<;>intro h
  .have h4:(Cb s 0).toNat=48:=by have:=h;simp at this;omega
   rw[zE (.inr (.inr (.inl ⟨h3,h4⟩)))]at g;subst g;exact gC
  have t:¬(1<s.size/\(Cb s 0).toNat=48):=by
   intro e;have:=h;simp at this;omega
  refine fU ?_;refine Bb s.size (λj=>∀i,i<j->M6 (Cb s i)=true) (λj=>[(0,Ap s),(1,Aa r),(6,Aa (oE s j)),(27,Aa s.size),(28,Aa j)]) (λ_=>[]) [] (λi hi=>zW hi j_) kU ?_;intro j hj o;have hv:=Apj o;have hp:(10:Int)^j<=1000:=by
   have:j=0\/j=1\/j=2\/j=3:=by omega
   rcases this with rfl|rfl|rfl|rfl<;>decide
  have I:oE s (j+1)=10*oE s j+((Cb s j).toNat-48):=rfl;have J:(j:Int).toNat=j:=yA j;have hb:=(Cb s j).toNat_lt;generalize P:oE s j=v at *;refine gH ?_ ?_<;>intro h
  .have l:j<s.size:=by simpa using h
   refine fU ?_;refine⟨by omega,kS l,?_⟩;rw[J];refine gR ?_ ?_<;>intro h
   .have p:¬48<=(Cb s j).toNat:=qA h;rw[zE (.inr (.inr (.inr (Adc l (by simp only[M6,xC,yC];exact .inl p)))))]at g;subst g;exact gC
   have p:48<=(Cb s j).toNat:=qB h;refine fU ?_;refine⟨by omega,kS l,?_⟩;rw[J];refine gR ?_ ?_<;>intro h
   .have R:¬(Cb s j).toNat<=57:=qA h;rw[zE (.inr (.inr (.inr (Adc l (by simp only[M6,xC,yC];exact .inr R)))))]at g;subst g;exact gC
   have R:(Cb s j).toNat<=57:=qB h;refine gE ?_;refine⟨by omega,kS l,?_⟩;rw[J];refine fW ?_;rw[A84 p hb,Bb4 j_ j_];refine iL ?_;refine gJ ?_;refine A6 [] o j_ (λi hi=>?_) ⟨⟨q_,q_,q_,q_,zH Aa I,q_,q_,q_,q_,q_,z_⟩,z_,q_,q_⟩;by_cases df:i=j
   .subst df;exact Akl.2 ⟨p,R⟩
   .exact o i j_
  .have:j=s.size:=qB h;subst this;rw[zD (by rw[Aok o];simp only[h1,h2,false_or,Bool.true_eq_false,vH];exact t),P]at g;subst g;exact gC
 .have t:¬(1<s.size/\(Cb s 0).toNat=48):=qB h;refine fU ?_;refine Bb s.size (λj=>∀i,i<j->M6 (Cb s i)=true) (λj=>[(0,Ap s),(1,Aa r),(6,Aa (oE s j)),(27,Aa s.size),(28,Aa j)]) (λ_=>[]) [] (λi hi=>zW hi j_) kU ?_;intro j hj o;have hv:=Apj o;have hp:(10:Int)^j<=1000:=by
   have:j=0\/j=1\/j=2\/j=3:=by omega
   rcases this with rfl|rfl|rfl|rfl<;>decide
  have I:oE s (j+1)=10*oE s j+((Cb s j).toNat-48):=rfl;have J:(j:Int).toNat=j:=yA j;have hb:=(Cb s j).toNat_lt;generalize P:oE s j=v at *;refine gH ?_ ?_<;>intro h
  .have l:j<s.size:=by simpa using h
   refine fU ?_;refine⟨by omega,kS l,?_⟩;rw[J];refine gR ?_ ?_<;>intro h
   .have p:¬48<=(Cb s j).toNat:=qA h;rw[zE (.inr (.inr (.inr (Adc l (by simp only[M6,xC,yC];exact .inl p)))))]at g;subst g;exact gC
   have p:48<=(Cb s j).toNat:=qB h;refine fU ?_;refine⟨by omega,kS l,?_⟩;rw[J];refine gR ?_ ?_<;>intro h
   .have R:¬(Cb s j).toNat<=57:=qA h;rw[zE (.inr (.inr (.inr (Adc l (by simp only[M6,xC,yC];exact .inr R)))))]at g;subst g;exact gC
   have R:(Cb s j).toNat<=57:=qB h;refine gE ?_;refine⟨by omega,kS l,?_⟩;rw[J];refine fW ?_;rw[A84 p hb,Bb4 j_ j_];refine iL ?_;refine gJ ?_;refine A6 [] o j_ (λi hi=>?_) ⟨⟨q_,q_,q_,q_,zH Aa I,q_,q_,q_,q_,q_,z_⟩,z_,q_,q_⟩;by_cases df:i=j
   .subst df;exact Akl.2 ⟨p,R⟩
   .exact o i j_
  .have:j=s.size:=qB h;subst this;rw[zD (by rw[Aok o];simp only[h1,h2,false_or,Bool.true_eq_false,vH];exact t),P]at g;subst g;exact gC
end
section
def bB{k:Type}(l:List k)(j:Nat):List k:=List.ofFn λi:Fin l.length=>if i.1<j\/l.length-j<=i.1 then l[l.length-1-i.1] else l[i.1]
def H6{k:Type}(l:List k)(j:Nat):(bB l j).length=l.length:=by simp[bB]
def Yj{k:Type}(l:List k)(j i:Nat)(h:i<l.length):(bB l j)[i]'(by rw[H6];exact h)=if i<j\/l.length-j<=i then l[l.length-1-i] else l[i]:=by simp[bB]
def Aej{k:Type}(l:List k):bB l 0=l:=by
 apply tL (H6 l 0);intro i j g;rw[Yj l 0 i g,zD j_]
def Aii{k:Type}(l:List k)(j:Nat)(h:l.length<=2*j+1):bB l j=l.reverse:=by
 apply tL (by rw[H6,tJ]);intro i g o;have hi:i<l.length:=by rw[H6]at g;exact g
 rw[Yj l j i hi,List.getElem_reverse];split
 .rfl
 .congr 1;omega
def A5i{k:Type}(l:List k)(j:Nat)(h:2*j+1<l.length):((bB l j).set j ((bB l j)[l.length-1-j]'(by rw[H6];omega))).set (l.length-1-j) ((bB l j)[j]'(by rw[H6];omega))=bB l (j+1):=by
 apply tL (by simp only[yO,H6]);intro i t g;have hi:i<l.length:=by rw[H6]at g;exact g
 rw[uC,uC,Yj l (j+1) i hi,Yj l j i hi,Yj l j _ j_,Yj l j _ j_];by_cases o:l.length-1-j=i
 .rw[zE o,zD j_,zE j_];congr 1;omega
 .rw[zD o];by_cases p:j=i
  .rw[zE p,zD j_,zE j_];congr 1;omega
  .rw[zD p];by_cases r:i<j\/l.length-j<=i
   .rw[zE r,zE j_]
   .rw[zD r,zD j_]
def Aek{a:Type}{l u:List a}{j k:Nat}(g:bB l j=u)(h:2*j+1<l.length)(i:l.length-1-j=k)(o:k<u.length)(p:j<u.length):(u.set j u[k]).set k u[j]=bB l (j+1):=by
 subst g i;exact A5i l j h
def Da(u:Nat):List UInt8:=if u<10 then [UInt8.ofNat (48+u)] else UInt8.ofNat (48+u%10)::Da (u/10)
def cB(u:Nat):0<(Da u).length:=by
 rw[Da];split<;>simp
def cC:∀(j u:Nat),j+1<(Da u).length↔0<u/10^(j+1)
 |0,u=>by
  rw[Da];split
  .simp;omega
  .have:=cB (u/10);simp only[yI];omega
 |j+1,u=>by
  rw[Da];have e:u/10^(j+1+1)=u/10/10^(j+1):=by rw[tU,tV 10 (j+1),vJ (10^(j+1))]
  rw[e];split
  .have:u/10=0:=by omega
   rw[this];simp
  .rw[yI,<-cC j (u/10)];omega
def cE:∀(j u:Nat) (h:j<(Da u).length),(Da u)[j]=UInt8.ofNat (48+u/10^j%10)
 |0,u,h=>by
  have e:(Da u)[0]=UInt8.ofNat (48+u%10):=by
   simp only[Da.eq_1 u];split
   .show UInt8.ofNat (48+u)=UInt8.ofNat (48+u%10);rw[xN (by assumption)]
   .rfl
  rw[e];simp
 |j+1,u,h=>by
  have g:¬u<10:=λg=>by rw[Da,zE g]at h;simp at h
  have i:Da u=UInt8.ofNat (48+u%10)::Da (u/10):=by rw[Da.eq_1 u,zD g]
  have e:u/10^(j+1)=u/10/10^j:=by rw[tU,tV,vJ]
  have l:j<(Da (u/10)).length:=by rw[i]at h;simpa using h
  have:=cE j (u/10) l;rw[e,<-this];simp only[i,tW]
def L0:∀(k u:Nat),u<10^k->(Da u).length<=k+1
 |0,u,h=>by rw[Da,zE (by simp at h;omega)];simp
 |k+1,u,h=>by
  rw[Da];split
  .simp
  .have:=L0 k (u/10) (by rw[tV]at h;omega);simp only[yI];omega
def Azz(n:Int):List UInt8:=(Da n.natAbs++(if n<0 then [45] else [])).reverse
def I7(n:Int):ByteArray:=Hl (Azz n)
def Ai5(m:Nat):Azz m=(Da m).reverse:=by
 rw[Azz,Int.natAbs_natCast,zD j_,yV]
set_option maxRecDepth 20000 in
def At9(m:Nat)(hb:m<9223372036854775808):Sp 47 [Aa m] (Ap (I7 m)):=cT F47 ntmps47 λF hF=>by
 have P:=cB m;have g:=λj=>cC j m
 have R:=λj=>cE j m
 have kr:(Da m).length<=20:=L0 19 m j_;rw[I7,Ai5];generalize Da m=D at *;refine fW ?_;refine Ct 3 1000 1 Ae q_ q_ ?_;refine Bl D.length (λj=>[(0,Aa m),(3,.osl 1000),(4,B1 (m/10^j:Nat)),(5,Ab (decide (j<D.length)))]) (λj=>[(1000,.row 1 Ae (D.take j))]) []
  ⟨⟨rfl,rfl,rfl,rfl,zH (λz=>SV.val (.int .u64 z)) (by rw[IntKind.wrap_u64];omega),rfl,zH Ab (zL P),rfl,trivial⟩,⟨.inl rfl,rfl,trivial⟩,rfl,rfl⟩ ?_
 intro j hj;refine gH ?_ ?_<;>intro h
 .have o:j<D.length:=zO h;have p:=R j o;have r:=g j;have e:m/10^(j+1)=m/10^j/10:=by rw[tU,tV]
  have hq:m/10^j<=m:=Nat.div_le_self _ _;rw[e]at r;refine fU ?_;refine⟨by decide,?_⟩;refine fW ?_;refine Al (Ah Γ.toTy 23 q_ q_ q_ q_ q_ (.row q_) (.lit (l:=[D[j]]) q_ ?_) qx ?_ ?_) q_ q_ ?_
  .rw[p];simp only[xR,vW,Ae];congr 3;generalize m/10^j=q at *;rw[uE (uB _),IntKind.wrap_u64,IntKind.wrap_u8];simp
  .simp;omega
  .simp;omega
  refine fU ?_;refine⟨by decide,?_⟩;refine fW ?_;refine A9 [(1000,23)] o ⟨⟨q_,q_,q_,q_,zH (λz=>SV.val (.int .u64 z)) ?_,q_,zH Ab ?_,q_,z_⟩,⟨.inl (zH (Ob.row 1 Ae) (zZ o)),q_,z_⟩,q_,q_⟩
  .rw[e,vN (uB _),IntKind.wrap_u64];generalize m/10^j=q at *;omega
  .rw[vN (uB _),IntKind.wrap_u64];generalize m/10^j=q at *;refine decide_eq_decide.2 ?_;omega
 .have:j=D.length:=qB h;subst this;rw[yM];refine gE ?_;refine Bl (D.length/2) (λj=>[(3,.osl 1000),(6,Aa j),(7,Aa (D.length-1-j:Nat))]) (λj=>[(1000,.row 1 Ae (bB D j))]) []
   ⟨⟨rfl,rfl,rfl,rfl,zH (λz=>SV.val (.int .i64 z)) j_,rfl,trivial⟩,⟨.inl (zH (Ob.row 1 Ae) (Aej D)),rfl,trivial⟩,rfl,rfl⟩ ?_
  intro i hi;have lp:=H6 D i;refine fU ?_;constructor<;>intro I
  .have o:2*i+1<D.length:=by have:=zO I;omega
   obtain ⟨u,t⟩:=kE (bB D i);obtain ⟨k,J⟩:=kE (D.length-1-i);rw[t]at lp;have hs:=Aek t o J j_ j_;rw[t,J];refine fU ?_;refine⟨by omega,by omega,?_⟩;refine fW ?_;refine⟨q_,by omega,?_⟩;refine fW ?_;refine⟨by omega,by omega,?_⟩;refine fW ?_;refine⟨q_,by omega,?_⟩;refine fW ?_;refine⟨by omega,by omega,?_⟩;refine fW ?_;refine⟨q_,by omega,u[k],q_,q_,?_⟩;refine fW ?_;refine⟨by omega,by simp;omega,?_⟩;refine fW ?_;refine⟨q_,by simp;omega,u[i],q_,q_,?_⟩;refine fW ?_;refine⟨y_,?_⟩;refine gJ ?_;refine iL ?_;refine fW ?_;refine A9 [] j_ ⟨⟨q_,q_,q_,q_,zH (λz=>SV.val (.int .i64 z)) j_,q_,z_⟩,⟨.inl (zH (Ob.row 1 Ae) hs.symm),q_,z_⟩,q_,q_⟩
  .have h3:D.length<=2*i+1:=by have:=zQ I;omega
   rw[Aii D i h3];refine fU ?_;exact Al (Cz Γ.toTy (bs:=D.reverse) q_ q_ q_ q_ q_ q_ q_ (.row q_)) q_ q_ gC
attribute [local irreducible]G DR
set_option maxRecDepth 20000
def Qw(n:Ai):Prop:=(∀d∈n.j,d.name.size<=300)/\∀p∈n.g,p.name.size<=300
def A1h{n:Ai}(h:Ac n=true){i:Nat}(hi:i<n.g.length):Qj n i n.g[i]=true:=by
 simp only[Ac,zG]at h;exact Cm.1 h.1.1.1.1.1.2 i hi
def Bgx{n:Ai}(h:Ac n=true){i:Nat}(hi:i<n.c.length):Wq n i n.c[i]=true:=by
 simp only[Ac,zG]at h;exact Cm.1 h.1.1.1.1.1.1.1.2 i hi
def Ac8{n:Ai}(h:Ac n=true):n.j.length<=8/\n.g.length<=40/\n.x.length<=20/\n.c.length<=48/\n.r.length<=48:=by
 simp only[Ac,Amh,zG,zK]at h;omega
def aG{n:Ai}(h:Ac n=true){i:Nat}(hi:i<n.g.length):0<=n.g[i].q/\n.g[i].q.toNat<n.j.length:=by
 have:=A1h h hi;simp only[Qj,Am,zG,zK]at this;omega
def K1{n:Ai}(h:Ac n=true){i:Nat}(hi:i<n.c.length):(0<=n.c[i].q/\n.c[i].q.toNat<n.j.length)/\(1<=n.c[i].z/\n.c[i].z<=4094)/\(0<=n.c[i].ao/\n.c[i].ao<=16777215)/\(n.c[i].ar=-1\/0<=n.c[i].ar/\n.c[i].ar.toNat<n.r.length):=by
 have:=Bgx h hi;simp only[Wq,Am,zG,yR,zK,yL]at this;omega
def Bfa(l:List ByteArray)(g:l.length<=1000000)(i:bV l<=1000000000):Sp 209 [.sl 1 Ap l] (Ap (Hs l ⟨#[]⟩)):=cT F209 ntmps209 λF j=>by
 have q:=Ass l ⟨#[]⟩ j_ j_ (by show 0*l.length<=_;omega);generalize Hs l ⟨#[]⟩=r at *;refine gQ q F88 ?_;exact gC
def Adb(n:Ai)(i:Int):ByteArray:=Hs [(Af n.j (Af n.c i).q).name,⟨#[47]⟩,I7 (Af n.c i).z] ⟨#[]⟩
def Uf(n:Ai)(i:Int):ByteArray:=if (0<=i/\i<n.c.length)/\Ac n=true then Adb n i else ⟨#[]⟩
def Ai4(m:Nat)(h:m<10^18):(Azz m).length<=19:=by
 rw[Ai5,tJ];exact L0 18 m h
def Akj(n:Ai)(P:n.Fin)(R:Qw n)(i:Int):Sp 128 [Aq n,Aa i] (Ap (Uf n i)):=cT F128 ntmps128 λF hF=>by
 have hr:=A7 n P;refine gR ?_ ?_<;>intro h
 .have j:i<0:=zO h;rw[Uf,zD j_];exact gC
 have j:0<=i:=qB h;refine Bi 2 8 (Aq n) q_ q_ q_ ?_;refine gH ?_ ?_<;>intro h
 .have p:n.c.length<=i:=zO h;rw[Uf,zD j_];exact gC
 have p:i<n.c.length:=qB h;refine gL hr F49 ?_;cases l:Ac n
 .rw[Uf,zD (by simp[l])];exact gC
 rw[Uf,zE ⟨⟨j,p⟩,l⟩];have o:i.toNat<n.c.length:=by omega
 have g:=K1 l o;have e1:Af n.c i=n.c[i.toNat]:=Aj o;rw[Adb,e1];obtain ⟨d,t⟩:=kE (n.c[i.toNat]);rw[t]at g|-;have e2:Af n.j d.q=n.j[d.q.toNat]:=Aj g.1.2;rw[e2];have np:=R.1 _ (zI g.1.2);obtain ⟨x,I⟩:=kE (n.j[d.q.toNat]'g.1.2);rw[I]at np|-;obtain ⟨v,hv⟩:∃v:Nat,d.z=v:=⟨d.z.toNat,by omega⟩
 have q:=At9 v j_;have hs:=Ai4 v j_;have az:(I7 v).size=(Azz v).length:=Dp _;have J:=Bfa [x.name,⟨#[47]⟩,I7 v] qx (by
  show x.name.size+(1+((I7 v).size+0))<=_;omega)
 rw[<-hv]at q J;generalize I7 d.z=nv at *;generalize Hs [x.name,⟨#[47]⟩,nv] ⟨#[]⟩=r at *;refine fU ?_;refine⟨q_,j,o,?_⟩;rw[t];refine fW ?_;refine⟨q_,g.1.1,g.1.2,?_⟩;rw[I];refine fW ?_;refine cD q F47 (fU ?_);refine eH [35] J F209 q_ (.cons (.lit q_ q_ q_) .nil) q_ y_ q_ ?_;refine fU ?_;refine⟨y_,?_⟩;refine fW ?_;exact dN
def Cr(n:Ai)(i:Int):ByteArray:=(Af n.j (Af n.g i).q).name++⟨#[46]⟩++(Af n.g i).name
def Bac(n:Ai)(i:Int):ByteArray:=if (0<=i/\i<n.g.length)/\Ac n=true then Cr n i else ⟨#[]⟩
def Ah8(a b:ByteArray):(a++b).size=a.size+b.size:=by simp
end
end Go.Sy.Zaa
