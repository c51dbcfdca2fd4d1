/- Parts of a proof. -/
import Derived.Test.YtodbnbfjhjcanaaGreatDoorXA6
set_option maxHeartbeats 4000000
set_option linter.all false
namespace Go.Sy.Zaa
open Go.Proofs Go.Proofs.Tryz
section
attribute [local irreducible]G DR
set_option maxRecDepth 100000
def M8(a bits:Int):SV:=.agg [A9 a,Aa bits]
def Ab0(a bits:Int):Sp 268 [M8 a bits] (Ab (decide (0<=bits/\bits<=32))):=cT F268 ntmps268 λF hF=>by
 conv=>whnf
 (repeat' (first|(refine⟨λh=>?_,λh=>?_⟩<;>(repeat (first|simp only[zJ]at h|simp only[zY]at h))<;>((refine oO ?_)))|(refine Aq rfl Ap ?_ rfl)))
 all_goals (refine zH Ab ?_;clear hF;grind)
def Afg(a bits:Int)(h:0<=bits/\bits<=32):Sp 269 [M8 a bits] (A9 (2^(32-bits).toNat-1)):=cT F269 ntmps269 λF hF=>by
 conv=>whnf
 refine iW ?_;refine⟨by omega,?_⟩
 conv=>whnf
 refine Aq E Ap ?_ E;refine zH (λz=>SV.val (.int .u32 z)) ?_;obtain ⟨k,hk,dw⟩:∃k:Nat,(32-bits).toNat=k/\k<=32:=⟨_,rfl,by omega⟩
 have h1:min (32-bits).toNat IntKind.u32.bits=k:=by show min (32-bits).toNat 32=k;omega
 rw[h1,hk,IntKind.wrap_u32,IntKind.wrap_u32];have h2:(2:Int)^k<=4294967296:=by
  have:=wY (n:=2) y_ dw;rw[show (2:Int)^k=((2^k:Nat):Int) by rw[uU];rfl];have e:(2:Nat)^32=4294967296:=rfl;rw[e]at this;omega
 have h0:(1:Int)<=2^k:=by
  have:=vA (n:=k);rw[show (2:Int)^k=((2^k:Nat):Int) by rw[uU];rfl];omega
 generalize (2:Int)^k=q at *;omega
def Abu(a k:Nat)(ha:a<4294967296)(hk:k<=32):bits .andNot .u32 (a:Int) ((2^k-1:Nat):Int)=((a-a%2^k:Nat):Int):=by
 have hp:=wY (n:=2) y_ hk;have ww:(2:Nat)^32=4294967296:=rfl;rw[ww]at hp;have h1:=vA (n:=k);have x1:(BitVec.ofInt 32 (a:Int)).toNat=a:=by rw[BitVec.ofInt_natCast,BitVec.toNat_ofNat];exact xH z_
 have x2:(BitVec.ofInt 32 ((2^k-1:Nat):Int)).toNat=2^k-1:=by rw[BitVec.ofInt_natCast,BitVec.toNat_ofNat];exact xH z_
 have key:(BitVec.ofInt 32 (a:Int) &&& ~~~ BitVec.ofInt 32 ((2^k-1:Nat):Int)).toNat=a-a%2^k:=by
  have hd:a-a%2^k=2^k*(a/2^k):=by have:=uD a (2^k);omega
  rw[hd];refine Nat.eq_of_testBit_eq λi=>?_
  rw[BitVec.testBit_toNat,BitVec.getLsbD_and,BitVec.getLsbD_not,<-BitVec.testBit_toNat,<-BitVec.testBit_toNat,x1,x2,Nat.testBit_two_pow_sub_one,Nat.testBit_two_pow_mul,Nat.testBit_div_two_pow];by_cases hi:i<k
  .have:¬i>=k:=by omega
   simp[hi,this]
  .have h2:i>=k:=by omega
   have h3:i-k+k=i:=by omega
   by_cases h4:i<32
   .simp[hi,h2,h4,h3]
   .have h5:a.testBit i=false:=Nat.testBit_lt_two_pow (yV (by rw[<-ww]at ha;exact ha) (wY y_ z_));rw[h3,h5];simp
 show IntKind.u32.wrap (((BitVec.ofInt 32 (a:Int) &&& ~~~ BitVec.ofInt 32 ((2^k-1:Nat):Int)).toNat:Nat):Int)=_;rw[key,IntKind.wrap_u32];omega
def Lg(a k:Nat)(bits:Int)(h:0<=bits/\bits<=32)(hk:(32-bits).toNat=k):D9 a bits=((a-a%2^k:Nat):Int):=by
 rw[D9,zE h,hk];have h1:=Nat.mod_le a (2^k);rw[show (2:Int)^k=((2^k:Nat):Int) by rw[uU];rfl];omega
def Ab2(a:Nat)(bits:Int)(ha:a<4294967296):Sp 214 [M8 a bits] (A9 (D9 a bits)):=cT F214 ntmps214 λF hF=>by
 have hr:=Ab0 a bits;by_cases hb:0<=bits/\bits<=32
 .have df:=Afg a bits hb;rw[zK hb]at hr;obtain ⟨k,hk,dw⟩:∃k:Nat,(32-bits).toNat=k/\k<=32:=⟨_,rfl,by omega⟩
  have hn:=Abu a k ha dw;have hf:=Lg a k bits hb hk;have h1:=vA (n:=k);have e2:(2:Int)^k-1=((2^k-1:Nat):Int):=by
   rw[show (2:Int)^k=((2^k:Nat):Int) by rw[uU];rfl];omega
  rw[hk,e2]at df;rw[hf,<-hn];refine gP hr F268 ?_;refine fU ?_
  first|refine cD df F269 ?_|refine c0 df F269 ?_
  refine fU ?_
  first|(refine⟨j_,?_⟩;(refine fW ?_))|skip
  exact dN
 .rw[zL hb]at hr;have hf:D9 a bits=0:=by rw[D9,zD hb]
  rw[hf];refine gP hr F268 ?_;exact gD
def H4(a bits:Int):Int:=if 0<=bits/\bits<=32 then D9 a bits+2^(32-bits).toNat-1 else 0
def or_low(a k:Nat)(ha:a<4294967296)(hk:k<=32):bits .or .u32 (a:Int) ((2^k-1:Nat):Int)=((a-a%2^k+(2^k-1):Nat):Int):=by
 have hp:=wY (n:=2) y_ hk;have ww:(2:Nat)^32=4294967296:=rfl;rw[ww]at hp;have h1:=vA (n:=k);have x1:(BitVec.ofInt 32 (a:Int)).toNat=a:=by rw[BitVec.ofInt_natCast,BitVec.toNat_ofNat];exact xH z_
 have x2:(BitVec.ofInt 32 ((2^k-1:Nat):Int)).toNat=2^k-1:=by rw[BitVec.ofInt_natCast,BitVec.toNat_ofNat];exact xH z_
 have hd:a-a%2^k=2^k*(a/2^k):=by have:=uD a (2^k);omega
 have ma:=xS (i:=k) (b:=2^k-1) z_ (a/2^k);have key:(BitVec.ofInt 32 (a:Int)|||BitVec.ofInt 32 ((2^k-1:Nat):Int)).toNat=a-a%2^k+(2^k-1):=by
  rw[hd,ma];refine Nat.eq_of_testBit_eq λi=>?_
  rw[BitVec.testBit_toNat,BitVec.getLsbD_or,<-BitVec.testBit_toNat,<-BitVec.testBit_toNat,x1,x2,Nat.testBit_or,Nat.testBit_two_pow_sub_one,Nat.testBit_two_pow_mul,Nat.testBit_div_two_pow];by_cases hi:i<k
  .simp[hi]
  .have h2:i>=k:=by omega
   have h3:i-k+k=i:=by omega
   simp[hi,h2,h3]
 show IntKind.u32.wrap (((BitVec.ofInt 32 (a:Int)|||BitVec.ofInt 32 ((2^k-1:Nat):Int)).toNat:Nat):Int)=_;have ab:(BitVec.ofInt 32 (a:Int)|||BitVec.ofInt 32 ((2^k-1:Nat):Int)).toNat<4294967296:=BitVec.isLt _;rw[key]at ab;rw[key,IntKind.wrap_u32];omega
def dD(a k:Nat)(bits:Int)(h:0<=bits/\bits<=32)(hk:(32-bits).toNat=k):H4 a bits=((a-a%2^k+(2^k-1):Nat):Int):=by
 rw[H4,zE h,hk,Lg a k bits h hk];have h1:=vA (n:=k);rw[show (2:Int)^k=((2^k:Nat):Int) by rw[uU];rfl];omega
def dO(a:Nat)(bits:Int)(ha:a<4294967296):Sp 215 [M8 a bits] (A9 (H4 a bits)):=cT F215 ntmps215 λF hF=>by
 have hr:=Ab0 a bits;by_cases hb:0<=bits/\bits<=32
 .have df:=Afg a bits hb;rw[zK hb]at hr;obtain ⟨k,hk,dw⟩:∃k:Nat,(32-bits).toNat=k/\k<=32:=⟨_,rfl,by omega⟩
  have hn:=or_low a k ha dw;have hf:=dD a k bits hb hk;have h1:=vA (n:=k);have e2:(2:Int)^k-1=((2^k-1:Nat):Int):=by
   rw[show (2:Int)^k=((2^k:Nat):Int) by rw[uU];rfl];omega
  rw[hk,e2]at df;rw[hf,<-hn];refine gP hr F268 ?_;refine fU ?_
  first|refine cD df F269 ?_|refine c0 df F269 ?_
  refine fU ?_
  first|(refine⟨j_,?_⟩;(refine fW ?_))|skip
  exact dN
 .rw[zL hb]at hr;have hf:H4 a bits=0:=by rw[H4,zD hb]
  rw[hf];refine gP hr F268 ?_;exact gD
def A0u(a b:Nat)(ha:a<4294967296)(hb:b<4294967296):bits .xor .u32 (a:Int) (b:Int)=((a^^^b:Nat):Int):=by
 have x1:(BitVec.ofInt 32 (a:Int)).toNat=a:=by rw[BitVec.ofInt_natCast,BitVec.toNat_ofNat];exact xH z_
 have x2:(BitVec.ofInt 32 (b:Int)).toNat=b:=by rw[BitVec.ofInt_natCast,BitVec.toNat_ofNat];exact xH z_
 show IntKind.u32.wrap (((BitVec.ofInt 32 (a:Int)^^^BitVec.ofInt 32 (b:Int)).toNat:Nat):Int)=_;have ab:(BitVec.ofInt 32 (a:Int)^^^BitVec.ofInt 32 (b:Int)).toNat<4294967296:=BitVec.isLt _;rw[BitVec.toNat_xor,x1,x2]at ab|-;rw[IntKind.wrap_u32];omega
def Aye(a x k:Nat)(ha:a<4294967296)(hx:x<4294967296)(hk:k<=32):(bits .andNot .u32 (bits .xor .u32 (a:Int) (x:Int)) ((2^k-1:Nat):Int)==0)=decide (a/2^k=x/2^k):=by
 have hxl:a^^^x<4294967296:=Nat.xor_lt_two_pow (n:=32) ha hx;rw[A0u a x ha hx,Abu _ k hxl hk];have hd:(a^^^x)-(a^^^x)%2^k=2^k*((a^^^x)/2^k):=by have:=uD (a^^^x) (2^k);omega
 rw[hd,Nat.xor_div_two_pow];have h1:=vA (n:=k);by_cases h:a/2^k=x/2^k
 .rw[h,Nat.xor_self];simp
 .rw[zL h];have:a / 2 ^ k ^^^ x / 2 ^ k≠0:=λ e=>h (by
   have:=zH (λ z=>z ^^^ x / 2 ^ k) e;simpa [Nat.xor_assoc] using this)
  rw[zT];intro e;have e:=Int.natCast_eq_zero.1 e;rcases Nat.mul_eq_zero.1 e with e|e
  .omega
  .exact this e
def Ast(a x q:Nat)(hq:0<q):(a/q=x/q)↔(a-a%q<=x/\x<=a-a%q+(q-1)):=by
 have h1:=uD a q;have hd:a-a%q=q*(a/q):=by omega
 rw[hd];constructor
 .intro e;have h2:=uD x q;have h3:=tU x hq;rw[<-e]at h2;omega
 .rintro ⟨h2,h3⟩;symm;rw[Nat.div_eq_iff hq];generalize a/q=m at *;have:q*m=m*q:=vE ..;constructor<;>omega
def C7(n:Net):Prop:=∀x∈n.irbs,0<=x.addr/\x.addr<4294967296
end
section
def Ly(c:UInt8)(l:List UInt8):Nat:=(Lib.indexByte l c).toNat
def C9(c:UInt8)(l:List UInt8):Nat->List UInt8
 |0=>l
 |j+1=>(C9 c l j).drop (Ly c (C9 c l j)+1)
def Vh(c:UInt8)(l:List UInt8)(j:Nat):List UInt8:=(C9 c l j).take (Ly c (C9 c l j))
def mkT(l:List UInt8):ByteArray:=⟨l.toArray⟩
def Cy(c:UInt8)(s:ByteArray):List ByteArray :=
 (List.range (s.data.toList.count c)).map (λj=>mkT (Vh c s.data.toList j))++[mkT (C9 c s.data.toList (s.data.toList.count c))]
def Ke:∀{l:List UInt8} {c:UInt8},c∈l->0<=Lib.indexByte l c/\(Lib.indexByte l c).toNat<l.length
 |b::l,c,h=>by
  unfold Lib.indexByte;by_cases hb:b==c
  .rw[zE hb];simp
  .rw[zD hb];have ni:c∈l:=by
    rcases yH.1 h with h|h
    .exact zX (by simp[h]) hb
    .exact h
   have:=Ke ni;rw[zD kO];simp only[yL];omega
def T7:∀{l:List UInt8} {c:UInt8},c∈l->(l.drop (Ly c l+1)).count c+1=l.count c
 |b::l,c,h=>by
  unfold Ly Lib.indexByte;by_cases hb:b==c
  .rw[zE hb,List.count_cons,zE hb];simp
  .rw[zD hb];have ni:c∈l:=by
    rcases yH.1 h with h|h
    .exact zX (by simp[h]) hb
    .exact h
   have h1:=Ke ni;rw[zD kO,List.count_cons,zD hb,Nat.add_zero,<-T7 ni];have e:(Lib.indexByte l c+1).toNat=Ly c l+1:=by unfold Ly;omega
   rw[e,List.drop_succ_cons]
def Y5(c:UInt8)(l:List UInt8):∀j,j<=l.count c->(C9 c l j).count c+j=l.count c
 |0,_=>rfl
 |j+1,h=>by
  have ih:=Y5 c l j z_;have ni:c∈C9 c l j:=List.count_pos_iff.1 z_;have:=T7 ni;rw[C9];omega
def Anj{c:UInt8}{l:List UInt8}{j:Nat}(h:j<l.count c):c∈C9 c l j :=
 List.count_pos_iff.1 (by have:=Y5 c l j z_;omega)
def Apv(c:UInt8)(s:ByteArray):Nat:=s.data.toList.count c
def Lm(c:UInt8)(s:ByteArray):(Cy c s).length=Apv c s+1:=by simp only[Cy,zU,yZ,tT,yF];rfl
def Ait(c:UInt8)(l:List UInt8):∀j,(C9 c l j).length<=l.length
 |0=>yG _
 |j+1=>by rw[C9,yP];have:=Ait c l j;omega
def Aa5{a b:ByteArray}(h:a.data.toList=b.data.toList):a=b:=by
 cases a;cases b;simp only[ByteArray.mk.injEq];exact Array.toList_inj.1 h
def It(l:List UInt8):(mkT l).size=l.length:=by simp[mkT,ByteArray.size]
def Kv(l:List UInt8):(mkT l).data.toList=l:=by simp[mkT]
def Ex(l:List UInt8)(i j:Nat):(mkT l).extract i j=mkT ((l.take j).drop i):=by
 apply Aa5;simp[mkT,ByteArray.data_extract,List.extract_eq_take_drop,List.drop_take]
def Ku(s:ByteArray):mkT s.data.toList=s:=Aa5 (by simp[mkT])
def Axc{c:UInt8}{s:ByteArray}{j m:Nat}(h:Lib.indexByte (C9 c s.data.toList j) c=m):Vh c s.data.toList j=(C9 c s.data.toList j).take m:=by
 rw[Vh,Ly,h,yE]
def A1d{c:UInt8}{s:ByteArray}{j m:Nat}(h:Lib.indexByte (C9 c s.data.toList j) c=m):C9 c s.data.toList (j+1)=(C9 c s.data.toList j).drop (m+1):=by
 rw[C9,Ly,h,yE]
def Ur{k:Type}(l:List k)(j:Nat):List k:=List.ofFn λi:Fin l.length=>if i.1<j\/l.length-j<=i.1 then l[l.length-1-i.1] else l[i.1]
def Dx{k:Type}(l:List k)(j:Nat):(Ur l j).length=l.length:=by simp[Ur]
def Q7{k:Type}(l:List k)(j i:Nat)(h:i<l.length):(Ur l j)[i]'(by rw[Dx];exact h)=if i<j\/l.length-j<=i then l[l.length-1-i] else l[i]:=by simp[Ur]
def cQ{k:Type}(l:List k):Ur l 0=l:=by
 apply tE (Dx l 0);intro i h1 h2;rw[Q7 l 0 i h2,zD z_]
def oA{k:Type}(l:List k)(j:Nat)(h:l.length<=2*j+1):Ur l j=l.reverse:=by
 apply tE (by rw[Dx,List.length_reverse]);intro i h1 h2;have hi:i<l.length:=by rw[Dx]at h1;exact h1
 rw[Q7 l j i hi,List.getElem_reverse];split
 .rfl
 .congr 1;omega
def Asy{k:Type}(l:List k)(j:Nat)(h:2*j+1<l.length):((Ur l j).set j ((Ur l j)[l.length-1-j]'(by rw[Dx];omega))).set (l.length-1-j) ((Ur l j)[j]'(by rw[Dx];omega))=Ur l (j+1):=by
 apply tE (by simp only[yN,Dx]);intro i h1 h2;have hi:i<l.length:=by rw[Dx]at h2;exact h2
 rw[vV,vV,Q7 l (j+1) i hi,Q7 l j i hi,Q7 l j _ z_,Q7 l j _ z_];by_cases e1:l.length-1-j=i
 .rw[zE e1,zD z_,zE z_];congr 1;omega
 .rw[zD e1];by_cases e2:j=i
  .rw[zE e2,zD z_,zE z_];congr 1;omega
  .rw[zD e2];by_cases e3:i<j\/l.length-j<=i
   .rw[zE e3,zE z_]
   .rw[zD e3,zD z_]
def cR{a:Type}{l u:List a}{j k:Nat}(hu:Ur l j=u)(h:2*j+1<l.length)(hk:l.length-1-j=k)(h1:k<u.length)(h2:j<u.length):(u.set j u[k]).set k u[j]=Ur l (j+1):=by
 subst hu hk;exact Asy l j h
def revDigs(u:Nat):List UInt8:=if u<10 then [UInt8.ofNat (48+u)] else UInt8.ofNat (48+u%10)::revDigs (u/10)
def U4(u:Nat):0<(revDigs u).length:=by
 rw[revDigs];split<;>simp
def U5:∀(j u:Nat),j+1<(revDigs u).length↔0<u/10^(j+1)
 |0,u=>by
  rw[revDigs];split
  .simp;omega
  .have:=U4 (u/10);simp only[yL];omega
 |j+1,u=>by
  rw[revDigs];have e:u/10^(j+1+1)=u/10/10^(j+1):=by rw[tL,tM 10 (j+1),vE (10^(j+1))]
  rw[e];split
  .have:u/10=0:=by omega
   rw[this];simp
  .rw[yL,<-U5 j (u/10)];omega
def U6:∀(j u:Nat) (h:j<(revDigs u).length),(revDigs u)[j]=UInt8.ofNat (48+u/10^j%10)
 |0,u,h=>by
  have e:(revDigs u)[0]=UInt8.ofNat (48+u%10):=by
   simp only[revDigs.eq_1 u];split
   .show UInt8.ofNat (48+u)=UInt8.ofNat (48+u%10);rw[xH (by assumption)]
   .rfl
  rw[e];simp
 |j+1,u,h=>by
  have hu:¬u<10:=λhu=>by rw[revDigs,zE hu]at h;simp at h
  have e0:revDigs u=UInt8.ofNat (48+u%10)::revDigs (u/10):=by rw[revDigs.eq_1 u,zD hu]
  have e:u/10^(j+1)=u/10/10^j:=by rw[tL,tM,vE]
  have hl:j<(revDigs (u/10)).length:=by rw[e0]at h;simpa using h
  have:=U6 j (u/10) hl;rw[e,<-this];simp only[e0,tN]
def Qp:∀(k u:Nat),u<10^k->(revDigs u).length<=k+1
 |0,u,h=>by rw[revDigs,zE (by simp at h;omega)];simp
 |k+1,u,h=>by
  rw[revDigs];split
  .simp
  .have:=Qp k (u/10) (by rw[tM]at h;omega);simp only[yL];omega
def Axx(n:Int):List UInt8:=(revDigs n.natAbs++(if n<0 then [45] else [])).reverse
def Ajh(n:Int):ByteArray:=mkT (Axx n)
def Axw(m:Nat):Axx m=(revDigs m).reverse:=by
 rw[Axx,Int.natAbs_natCast,zD z_,xG]
set_option maxRecDepth 20000 in
def Axu(m:Nat)(hb:m<9223372036854775808):Sp 262 [Aa m] (Ar (Ajh m)):=cT F262 ntmps262 λF hF=>by
 have ic:=U4 m;have hlen:=λj=>U5 j m
 have a8:=λj=>U6 j m
 have ky:(revDigs m).length<=20:=Qp 19 m z_;rw[Ajh,Axw];generalize revDigs m=D at *;refine fW ?_;refine B6 3 1000 1 Al E E ?_;refine A8 D.length (λj=>[(0,Aa m),(3,.osl 1000),(4,Bi (m/10^j:Nat)),(5,Ab (decide (j<D.length)))]) (λj=>[(1000,.row 1 Al (D.take j))]) []
  ⟨⟨rfl,rfl,rfl,rfl,zH (λz=>SV.val (.int .u64 z)) (by rw[IntKind.wrap_u64];omega),rfl,zH Ab (zK ic),rfl,trivial⟩,⟨.inl rfl,rfl,trivial⟩,rfl,rfl⟩ ?_
 intro j hj;refine gK ?_ ?_<;>intro h
 .have ab:j<D.length:=zO h;have hgj:=a8 j ab;have hlj:=hlen j;have e:m/10^(j+1)=m/10^j/10:=by rw[tL,tM]
  have hq:m/10^j<=m:=Nat.div_le_self _ _;rw[e]at hlj;refine fU ?_;refine⟨by decide,?_⟩;refine fW ?_;refine Ai (Ah Γ.toTy 23 E E E E E (.row E) (.lit (l:=[D[j]]) E ?_) qq ?_ ?_) E E ?_
  .rw[hgj];simp only[xZ,vS,Al];congr 3;generalize m/10^j=q at *;rw[tW (vI _),IntKind.wrap_u64,IntKind.wrap_u8];simp
  .simp;omega
  .simp;omega
  refine fU ?_;refine⟨by decide,?_⟩;refine fW ?_;refine Ax [(1000,23)] ab ⟨⟨E,E,E,E,zH (λz=>SV.val (.int .u64 z)) ?_,E,zH Ab ?_,E,q_⟩,⟨.inl (zH (Ob.row 1 Al) (yA ab)),E,q_⟩,E,E⟩
  .rw[e,uA (vI _),IntKind.wrap_u64];generalize m/10^j=q at *;omega
  .rw[uA (vI _),IntKind.wrap_u64];generalize m/10^j=q at *;refine decide_eq_decide.2 ?_;omega
 .have:j=D.length:=qB h;subst this;rw[yM];refine gG ?_;refine A8 (D.length/2) (λj=>[(3,.osl 1000),(6,Aa j),(7,Aa (D.length-1-j:Nat))]) (λj=>[(1000,.row 1 Al (Ur D j))]) []
   ⟨⟨rfl,rfl,rfl,rfl,zH (λz=>SV.val (.int .i64 z)) z_,rfl,trivial⟩,⟨.inl (zH (Ob.row 1 Al) (cQ D)),rfl,trivial⟩,rfl,rfl⟩ ?_
  intro i hi;have nf:=Dx D i;refine fU ?_;constructor<;>intro h2
  .have ab:2*i+1<D.length:=by have:=zO h2;omega
   obtain ⟨u,hu⟩:=kE (Ur D i);obtain ⟨k,hk⟩:=kE (D.length-1-i);rw[hu]at nf;have hs:=cR hu ab hk z_ z_;rw[hu,hk];refine fU ?_;refine⟨by omega,by omega,?_⟩;refine fW ?_;refine⟨E,by omega,?_⟩;refine fW ?_;refine⟨by omega,by omega,?_⟩;refine fW ?_;refine⟨E,by omega,?_⟩;refine fW ?_;refine⟨by omega,by omega,?_⟩;refine fW ?_;refine⟨E,by omega,u[k],E,E,?_⟩;refine fW ?_;refine⟨by omega,by simp;omega,?_⟩;refine fW ?_;refine⟨E,by simp;omega,u[i],E,E,?_⟩;refine fW ?_;refine⟨j_,?_⟩;refine gO ?_;refine iL ?_;refine fW ?_;refine Ax [] z_ ⟨⟨E,E,E,E,zH (λz=>SV.val (.int .i64 z)) z_,E,q_⟩,⟨.inl (zH (Ob.row 1 Al) hs.symm),E,q_⟩,E,E⟩
  .have h3:D.length<=2*i+1:=by have:=zQ h2;omega
   rw[oA D i h3];refine fU ?_;exact Ai (Hv Γ.toTy (bs:=D.reverse) E E E E E E E (.row E)) E E gD
attribute [local irreducible]G DR
set_option maxRecDepth 20000
def Apk{n:Net}(h:Ac n=true){i:Nat}(hi:i<n.ports.length):J7 n i n.ports[i]=true:=by
 simp only[Ac,zG]at h;exact allB_iff.1 h.1.1.1.1.1.2 i hi
def Azt{n:Net}(h:Ac n=true){i:Nat}(hi:i<n.domains.length):Ov n i n.domains[i]=true:=by
 simp only[Ac,zG]at h;exact allB_iff.1 h.1.1.1.1.1.1.1.2 i hi
def Ak6{n:Net}(h:Ac n=true):n.devices.length<=8/\n.ports.length<=40/\n.links.length<=20/\n.domains.length<=48/\n.irbs.length<=48:=by
 simp only[Ac,Ac4,zG,zJ]at h;omega
def I3{n:Net}(h:Ac n=true){i:Nat}(hi:i<n.domains.length):(0<=n.domains[i].dev/\n.domains[i].dev.toNat<n.devices.length)/\(1<=n.domains[i].vlan/\n.domains[i].vlan<=4094)/\(0<=n.domains[i].vni/\n.domains[i].vni<=16777215)/\(n.domains[i].irb=-1\/0<=n.domains[i].irb/\n.domains[i].irb.toNat<n.irbs.length):=by
 have:=Azt h hi;simp only[Ov,Af,zG,yQ,zJ,yJ]at this;omega
def Im(p:Nat->Bool)(j:Nat):List Int:=((List.range j).filter p).map Int.ofNat
def Y1(p:Nat->Bool)(j:Nat):Im p (j+1)=if p j=true then Im p j++[(j:Int)] else Im p j:=by
 rw[Im,vB,List.filter_append,xY];split
 .rename_i h;rw[tF (by exact h),List.filter_nil];rfl
 .rename_i h;rw[tG (by exact h),List.filter_nil,vS,xG];rfl
def I7(p:Nat->Bool)(j:Nat):(Im p j).length<=j:=by
 have:=tR p (List.range j);simpa [Im] using this
def filtI_mem{p:Nat->Bool}{j:Nat}{x:Int}:x∈Im p j↔0<=x/\x<j/\p x.toNat=true:=by
 simp only[Im,yS,List.mem_filter,xA];constructor
 .rintro ⟨i,h1,rfl⟩;exact⟨vI i,by simp;omega,h1.2⟩
 .rintro ⟨h1,h2,h3⟩;exact⟨x.toNat,⟨by omega,h3⟩,yR h1⟩
def Uk(n:Net)(d:Domain)(i:Nat):Bool:=(nth n.ports i).dev==d.dev&&Cz (nth n.ports i) d.vlan
def Bl(n:Net)(i:Int):List Int:=Im (Uk n (nth n.domains i)) n.ports.length
def Bj(n:Net)(i:Int):List Int:=if (0<=i/\i<n.domains.length)/\Ac n=true then Bl n i else []
def Kw(n:Net)(hn:n.Fin)(i:Int):An (Bj n i):=by
 have:=hn.ports;unfold An at this|-;unfold Bj;split
 .have:=I7 (Uk n (nth n.domains i)) n.ports.length;unfold Bl;omega
 .simp
def Qu(n:Net)(hn:n.Fin)(i:Int):Sp 116 [Am n,Aa i] (.sl 1 Aa (Bj n i)):=cT F116 ntmps116 λF hF=>by
 have hr:=A0 n hn;have bd:=Lo 6 At n.domains i;have zc:=hn.ports;unfold An at zc
 conv=>whnf
 refine c0 hr F39 ?_;cases hb:Ac n
 .rw[Bj,zD (by simp[hb])]
  (refine oT ?_;refine bT ?_)
  exact Ao 4 1 Aa E gJ
 refine oF ?_;refine c0 bd F149 ?_;by_cases hi:0<=i/\i<n.domains.length;rotate_left
 .have h0:Af i n.domains.length=false:=by simp only[Af,yW,zY];omega
  rw[Bj,zD (by simp[hb,hi]),h0];refine oT ?_;exact Ao 4 1 Aa E gJ
 have h0:Af i n.domains.length=true:=by simp only[Af,zG,zJ];exact hi
 rw[Bj,zE ⟨hi,hb⟩,h0];have hk:i.toNat<n.domains.length:=by omega
 have hf:=I3 hb hk;have e1:nth n.domains i=n.domains[i.toNat]:=Ag hk;rw[Bl,e1];obtain ⟨d,hd⟩:=kE (n.domains[i.toNat]);rw[hd]at hf|-;refine Ba 2 8 (Am n) E E E (oF ?_);refine B6 5 1000 1 Aa E E ?_;refine A8 n.ports.length (λj=>[(1,Aa i),(2,.ref 8 (Am n) 0),(5,.osl 1000),(19,.sl 7 Bd n.ports),(20,Aa n.ports.length),(21,Aa j)]) (λj=>[(1000,.row 1 Aa (Im (Uk n d) j))]) []
  kU ?_
 intro j hj;refine gH ?_ ?_<;>intro h
 .have ab:j<n.ports.length:=by simpa using h
  have ai:=Y1 (Uk n d) j;have im:=I7 (Uk n d) j;have az:Uk n d j=((n.ports[j]).dev==d.dev&&Cz n.ports[j] d.vlan):=by
   rw[Uk,Ag (l:=n.ports) (i:=(j:Int)) (kS ab)];rfl
  rw[az]at ai;have e1:n.ports[(j:Int).toNat]'z_=n.ports[j]:=rfl;have wx:=aD n.ports[j] d.vlan (hn.tagged _ (zI _));obtain ⟨p,hp⟩:=kE (n.ports[j]);rw[hp]at e1 ai wx;obtain ⟨u,hu⟩:=kE (Im (Uk n d) j);rw[hu]at ai im|-;refine oO ?_;refine⟨E,by omega,by omega,?_⟩;rw[e1]
  conv=>whnf
  refine⟨E,hi.1,hk,?_⟩;rw[hd]
  conv=>whnf
  constructor<;>intro h2
  .have h3:∃k:Nat,(k:Int)=i:=⟨i.toNat,by omega⟩
   rw[h2,yD]at ai;refine oD ?_;refine⟨E,hi.1,hk,?_⟩;rw[hd]
   conv=>whnf
   refine cD wx F150 (gM ?_);constructor<;>intro h4
   .rw[zE h4]at ai;refine oO ?_;refine Ai (Ah Γ.toTy 48 E E E E E (.row E) (.lit (e:=Aa) (l:=[(j:Int)]) E E) qq kO kO) E E (gF ?_);exact Ax [(1000,48)] ab ⟨kA,⟨.inl (zH (Ob.row 1 Aa) ai),E,q_⟩,E,E⟩
   .rw[zD (by simp[h4])]at ai;refine gF ?_;exact Ax [] ab ⟨kA,⟨.inl (zH (Ob.row 1 Aa) ai),E,q_⟩,E,E⟩
  .rw[zD (by simp[h2])]at ai;refine oD ?_;refine⟨j_,?_⟩
   ((conv=>whnf);refine aF ?_;refine rg ?_;conv=>whnf)
   refine iW ?_;exact Ax [] ab ⟨kA,⟨.inl (zH (Ob.row 1 Aa) ai),E,q_⟩,E,E⟩
 .have:j=n.ports.length:=qB h;subst this;exact Aj 1000 E gJ
def Ag0(n:Net)(hn:n.Fin)(l:List Domain)(p:Domain->Bool)(f:FuncId)(first cap:List SV)(hc:(SV.clo (.func f) first cap).inn []=true)(hf:∀x∈l,E4 prog f (first++[At x]++cap) (Ab (p x)))(hl:An l):Sp 236 [Am n,.sl 6 At l,.clo (.func f) first cap] (Aa (if Ac n=true then Bs p l else -1)):=cT F236 ntmps236 λF hF=>by
 have hr:=A0 n hn;have q:=Ey l p f first cap hc hf hl
 conv=>whnf
 refine c0 hr F39 ?_;cases hb:Ac n
 .rw[zD qq];refine oT ?_;exact dN
 rw[zE rfl];refine oF ?_;exact Mh q F222 E E (by simp only[B7,hc,uJ];rfl) E E gJ
def Agm(dev vlan:Int)(d:Domain):Sp 237 [At d,.ref 1 (Aa dev) 0,.ref 1 (Aa vlan) 0] (Ab (d.dev==dev&&d.vlan==vlan)):=cT F237 ntmps237 λF hF=>by
 conv=>whnf
 (repeat' (first|(refine⟨λh=>?_,λh=>?_⟩<;>(repeat (first|simp only[yJ]at h|simp only[zT]at h))<;>((refine oO ?_)))|(refine Aq rfl Ap ?_ rfl)))
 all_goals (refine zH Ab ?_)
 all_goals simp_all
def Ce(n:Net)(dev vlan:Int):Int:=if Ac n=true then Da n dev vlan else -1
def Kt(n:Net)(hn:n.Fin)(dev vlan:Int):Sp 181 [Am n,Aa dev,Aa vlan] (Aa (Ce n dev vlan)):=cT F181 ntmps181 λF hF=>by
 have q:=Ag0 n hn n.domains (λd=>d.dev==dev&&d.vlan==vlan) 237 [] [.ref 1 (Aa dev) 0,.ref 1 (Aa vlan) 0] rfl (λd _=>⟨⟨_,_,F237⟩,Agm dev vlan d⟩) hn.domains
 conv=>whnf
 refine Ba 4 1 (Aa dev) E E E ?_;refine Ba 5 1 (Aa vlan) E E E (gE q F236 ?_);exact dN
def Bv(n:Net)(i:Int):Int :=
 if (0<=i/\i<n.ports.length)/\0<=(nth n.ports i).link/\Ac n=true then
  (if (nth n.links (nth n.ports i).link).a=i then (nth n.links (nth n.ports i).link).b else (nth n.links (nth n.ports i).link).a) else -1
def I2{n:Net}(h:Ac n=true){i:Nat}(hi:i<n.ports.length)(hl:0<=n.ports[i].link):n.ports[i].link.toNat<n.links.length/\((nth n.links n.ports[i].link).a=i\/(nth n.links n.ports[i].link).b=i):=by
 have:=Apk h hi;simp only[J7,Af,zG,yQ,zJ,yJ]at this;rcases this.2 with h1|h1
 .omega
 .exact⟨by omega,h1.2⟩
def aH(n:Net)(hn:n.Fin)(i:Int):Sp 252 [Am n,Aa i] (Aa (Bv n i)):=cT F252 ntmps252 λF hF=>by
 have hr:=A0 n hn
 conv=>whnf
 constructor<;>intro h
 .have h1:i<0:=zO h;rw[Bv,zD z_]
  (refine oT ?_;refine bT ?_;refine bT ?_)
  exact dN
 have h1:0<=i:=qB h;refine gH ?_ ?_<;>intro h
 .have h2:n.ports.length<=i:=zO h;rw[Bv,zD z_]
  (refine oT ?_;refine bT ?_)
  exact dN
 have h2:i<n.ports.length:=qB h;have hk:i.toNat<n.ports.length:=by omega
 have e1:nth n.ports i=n.ports[i.toNat]:=Ag hk;have ak:=λ(hb:Ac n=true)=>I2 hb hk
 rw[Bv,e1];obtain ⟨p,hp⟩:=kE (n.ports[i.toNat]);rw[hp]at ak|-;refine oO ?_;refine⟨E,h1,hk,?_⟩;rw[hp]
 conv=>whnf
 constructor<;>intro h
 .have h3:p.link<0:=zO h;rw[zD z_];refine oT ?_;exact dN
 have h3:0<=p.link:=qB h;refine oO ?_;refine c0 hr F39 ?_;cases hb:Ac n
 .rw[zD qq];refine oT ?_;exact dN
 rw[zE ⟨⟨h1,h2⟩,h3,rfl⟩];have hq:=ak hb h3;have e2:nth n.links p.link=n.links[p.link.toNat]:=Ag hq.1;rw[e2];obtain ⟨l,hl⟩:=kE (n.links[p.link.toNat]'hq.1);rw[hl];refine oF ?_;refine⟨E,h1,hk,?_⟩;rw[hp]
 conv=>whnf
 refine⟨E,h3,hq.1,?_⟩;rw[hl]
 conv=>whnf
 refine kW ?_;constructor<;>intro h
 .have h4:l.a=i:=by simpa using h
  rw[zE h4];exact gJ
 .have h4:¬l.a=i:=by simpa using h
  rw[zD h4];exact gJ
def e_link{n:Net}(h:Ac n=true){i:Nat}(hi:i<n.links.length):(0<=n.links[i].a/\n.links[i].a.toNat<n.ports.length)/\(0<=n.links[i].b/\n.links[i].b.toNat<n.ports.length):=by
 simp only[Ac,zG]at h;have:=allB_iff.1 h.1.1.1.1.2 i hi;simp only[Qb,Af,zG,zJ]at this;omega
def Eu{n:Net}{i:Int}(h:0<=Bv n i):(0<=i/\i.toNat<n.ports.length)/\Ac n=true/\(Bv n i).toNat<n.ports.length:=by
 unfold Bv at h|-;split at h
 .rename_i hc;rw[zE hc];have hk:i.toNat<n.ports.length:=by omega
  have e1:nth n.ports i=n.ports[i.toNat]:=Ag hk;rw[e1]at hc h|-;have hq:=I2 hc.2.2 hk hc.2.1;have e2:nth n.links n.ports[i.toNat].link=n.links[n.ports[i.toNat].link.toNat]:=Ag hq.1;have hl:=e_link hc.2.2 hq.1;rw[e2]at h|-;refine⟨by omega,hc.2.2,?_⟩;split
  .exact hl.2.2
  .exact hl.1.2
 .omega
def Dp(n:Net)(i v:Int):Int:=if v=(nth n.ports i).native then (nth n.ports (Bv n i)).native else if inB (nth n.ports (Bv n i)).tagged v=true then v else 0
def crossT(n:Net)(i v:Int):Int×Int×Bool :=
 if 0<=Bv n i/\Cz (nth n.ports i) v=true/\Dp n i v≠0 then (Bv n i,Dp n i v,true) else (0,0,false)
def Aj4(n:Net)(hn:n.Fin)(i v:Int):Sp 331 [Am n,Aa i,Aa v] (.tup [Aa (crossT n i v).1,Aa (crossT n i v).2.1,Ab (crossT n i v).2.2]):=cT F331 ntmps331 λF hF=>by
 have q:=aH n hn i;have lq:=Eu (n:=n) (i:=i);have hc:=crossT.eq_1 n i v;unfold Dp at hc;generalize crossT n i v=r at *;obtain ⟨far,cj⟩:=kE (Bv n i);rw[cj]at q lq hc;refine gP q F252 ?_;refine gK ?_ ?_<;>intro h
 .have h1:far<0:=zO h;rw[zD z_]at hc;subst hc;exact gD
 have h1:0<=far:=qB h;obtain ⟨⟨dq,hk⟩,hb,vd⟩:=lq h1;have e1:nth n.ports i=n.ports[i.toNat]:=Ag hk;have e2:nth n.ports far=n.ports[far.toNat]:=Ag vd;rw[e1,e2]at hc;have ht1:=hn.tagged _ (zI hk);have ht2:=hn.tagged _ (zI vd);obtain ⟨p,hp⟩:=kE (n.ports[i.toNat]);obtain ⟨o,ho⟩:=kE (n.ports[far.toNat]);rw[hp]at hc ht1;rw[ho]at hc ht2;have wx:=aD p v ht1;have kc:=D3 o.tagged v ht2;refine Ba 3 8 (Am n) E E E (fU ?_);refine⟨E,dq,hk,?_⟩;rw[hp];refine gP wx F150 ?_;cases bw:Cz p v
 .rw[zD (by simp[bw])]at hc;subst hc;exact gD
 refine fU ?_;refine⟨E,h1,vd,?_⟩;rw[ho];refine fW ?_;refine⟨E,dq,hk,?_⟩;rw[hp];refine fW ?_;constructor<;>intro h
 .have h2:v=p.native:=by simpa using h
  rw[zE h2]at hc;refine gK ?_ ?_<;>intro h
  .have h3:o.native=0:=by simpa using h
   rw[zD (λhh=>hh.2.2 h3)]at hc;subst hc;exact gD
  .have h3:o.native≠0:=by simpa using h
   rw[zE ⟨h1,bw,h3⟩]at hc;subst hc;exact gD
 have h2:¬v=p.native:=kS h;rw[zD h2]at hc;refine gN kc F115 ?_;cases az:inB o.tagged v
 .rw[az,zD qq]at hc;subst hc;exact gD
 rw[az,zE rfl]at hc;refine gK ?_ ?_<;>intro h
 .have h3:v=0:=by simpa using h
  rw[zD (λhh=>hh.2.2 h3)]at hc;subst hc;exact gD
 .have h3:v≠0:=by simpa using h
  rw[zE ⟨h1,bw,h3⟩]at hc;subst hc;exact gD
def linkDomT(n:Net)(i v:Int):Int×Bool:=if (crossT n i v).2.2=true then (Ce n (nth n.ports (crossT n i v).1).dev (crossT n i v).2.1,true) else (0,false)
def bH{n:Net}{i v:Int}(h:(crossT n i v).2.2=true):0<=(crossT n i v).1/\(crossT n i v).1.toNat<n.ports.length:=by
 unfold crossT at h|-;split at h
 .rename_i hc;rw[zE hc];exact⟨hc.1,(Eu hc.1).2.2⟩
 .cases h
def aI(n:Net)(hn:n.Fin)(i v:Int):Sp 256 [Am n,Aa i,Aa v] (.tup [Aa (linkDomT n i v).1,Ab (linkDomT n i v).2]):=cT F256 ntmps256 λF hF=>by
 have q:=Aj4 n hn i v;have lq:=bH (n:=n) (i:=i) (v:=v);have hc:=linkDomT.eq_1 n i v;generalize linkDomT n i v=r at *;generalize crossT n i v=x at *;obtain ⟨far,to,ok⟩:=x;refine gP q F331 ?_;cases ok
 .rw[zD qq]at hc;subst hc;exact gD
 rw[zE rfl]at hc;have hf:=lq rfl;dsimp only at hf hc;have e2:nth n.ports far=n.ports[far.toNat]:=Ag hf.2;rw[e2]at hc;obtain ⟨o,ho⟩:=kE (n.ports[far.toNat]'hf.2);rw[ho]at hc;have q2:=Kt n hn o.dev to;subst hc;refine Ba 3 8 (Am n) E E E (fU ?_);refine⟨E,hf.1,hf.2,?_⟩;rw[ho];refine fW ?_;refine cD q2 F181 (fU ?_);refine⟨j_,?_⟩;refine fW ?_;exact dN
def Oj:=iD Aa 1 F329 ntmps329
def bJ(l:List Int)(p:Int->Bool)(f:FuncId)(first cap:List SV)(hc:(SV.clo (.func f) first cap).inn []=true)(hf:∀x∈l,E4 prog f (first++[Aa x]++cap) (Ab (p x)))(hl:An l):Sp 400 [.sl 1 Aa l,.clo (.func f) first cap] (Ab (decide (0<=Bs p l))):=cT F400 ntmps400 λF hF=>by
 have h0:B7 [] [.sl 1 Aa l,.clo (.func f) first cap]=true:=by simp only[B7,hc];rfl
 conv=>whnf
 exact Mh (Oj l p f first cap hc hf hl) F329 E E (by simp only[h0];rfl) E E gJ
theorem iA{A0:Type}(v0:A0->SV)(z0:Nat){f0 m0:Nat}{g0:Func}(F0:fT f0 g0)(n0:g0.ntmps=m0)(h:let A0:Type:=A0;let v0:A0->SV:=v0;let z0:=z0;fT f0 g0->g0.ntmps=m0->∀ (l:List A0) (p:A0->Bool) (f:FuncId) (first cap:List SV) (hc:(SV.clo (.func f) first cap).inn []=true) (hf:∀ x∈l,E4 prog f (first++[v0 x]++cap) (Ab (p x))) (hl:An l),Sp f0 [.sl z0 v0 l,.clo (.func f) first cap] (Aa (Bs p l)):=by
 intro A0 v0 z0 F0 n0 l p f first cap hc hf hl
 refine cT F0 n0 λF hF=>?_
 unfold An at hl;have az:∀x:A0,B7 [] (first++[v0 x]++cap)=true:=λx=>C6 hc rfl
 refine fW ?_;refine A7 l.length (λj=>Ek (λ_ x=>!(p x)) l j) (λj=>[(0,.sl z0 v0 l),(1,.clo (.func f) first cap),(7,Aa l.length),(8,Aa j)]) (λ_=>[]) [] (Bh _ _) ⟨⟨E,E,Be _,hc,E,E,E,E,q_⟩,q_,E,E⟩ ?_;intro j hj hI;refine gK ?_ ?_<;>intro h
 .have h:=zO h;have cn:j<l.length:=by omega
  refine fU ?_;refine⟨E,by omega,by omega,?_⟩;refine fW ?_;refine D4 (hf l[j] (zI cn)) E E E (by simp only[az];rfl) E E ?_;refine fU ?_;constructor<;>intro h2
  .refine fU ?_;refine Aq E Ap (zH Aa ?_) E;exact Ct cn (λi hi cy=>kS (hI i hi cy)) h2
  .refine gG ?_;exact A6 [] hI cn (Bc hI cn (by simp[h2])) ⟨⟨E,E,Be _,hc,E,E,E,E,q_⟩,q_,E,E⟩
 .have h:=zQ h;refine fU ?_;refine Aq E Ap (zH Aa ?_) E;exact Df (λ i hi=>kS (hI i hi z_))):∀ (l:List A0) (p:A0->Bool) (f:FuncId) (first cap:List SV) (hc:(SV.clo (.func f) first cap).inn []=true) (hf:∀ x∈l,E4 prog f (first++[v0 x]++cap) (Ab (p x))) (hl:An l),Sp f0 [.sl z0 v0 l,.clo (.func f) first cap] (Aa (Bs p l)):=h F0 n0
def Aat:=iA Cr 5 F375 ntmps375
def K5(l:List Irb)(p:Irb->Bool)(f:FuncId)(first cap:List SV)(hc:(SV.clo (.func f) first cap).inn []=true)(hf:∀x∈l,E4 prog f (first++[Cr x]++cap) (Ab (p x)))(hl:An l):Sp 333 [.sl 5 Cr l,.clo (.func f) first cap] (Ab (decide (0<=Bs p l))):=cT F333 ntmps333 λF hF=>by
 have h0:B7 [] [.sl 5 Cr l,.clo (.func f) first cap]=true:=by simp only[B7,hc];rfl
 refine fW ?_;exact Mh (Aat l p f first cap hc hf hl) F375 E E (by simp only[h0];rfl) E E gD
def A0w(v:Vrf)(hv:An v.imports)(t:Int):Sp 399 [Aa t,.ref 5 (Cu v) 0] (Ab (inB v.imports t)):=cT F399 ntmps399 λF hF=>by
 have q:=D3 v.imports t hv
 conv=>whnf
 refine gE q F115 ?_;exact dN
def Aow(n:Net)(i k:Int):Bool:=i==k||(nth n.vrfs i).dev==(nth n.vrfs k).dev&&decide (0<=Bs (inB (nth n.vrfs k).imports) (nth n.vrfs i).exports)
def Al8(n:Net)(hn:n.Fin)(hb:Ac n=true)(i k:Int)(hi:0<=i/\i.toNat<n.vrfs.length)(hk:0<=k/\k.toNat<n.vrfs.length):Sp 371 [Am n,Aa i,Aa k] (Ab (Aow n i k)):=cT F371 ntmps371 λF hF=>by
 have hr:=A0 n hn;rw[hb]at hr;have him:=hn.imports _ (zI hk.2);have hex:=hn.exports _ (zI hi.2);rw[Aow,Ag hi.2,Ag hk.2];obtain ⟨a,ha⟩:=kE (n.vrfs[i.toNat]'hi.2);obtain ⟨b,hbb⟩:=kE (n.vrfs[k.toNat]'hk.2);rw[ha]at hex|-;rw[hbb]at him|-;have q:=bJ a.exports (inB b.imports) 399 [] [.ref 5 (Cu b) 0] rfl (λt _=>⟨⟨_,_,F399⟩,A0w b him t⟩) hex
 conv=>whnf
 refine⟨λh=>zX (zO h) z_,λ_=>?_⟩;refine oO ?_;refine⟨λh=>zX (zO h) z_,λ_=>?_⟩;refine oO ?_;refine⟨λh=>zX (zO h) z_,λ_=>?_⟩;refine oO ?_;refine⟨λh=>zX (zO h) z_,λ_=>?_⟩;refine oO ?_;refine c0 hr F39 (oF ?_);refine⟨E,hi.1,hi.2,?_⟩;rw[ha]
 conv=>whnf
 refine⟨E,hk.1,hk.2,?_⟩;rw[hbb]
 conv=>whnf
 refine kW ?_;constructor<;>intro h
 .rw[h,vG];exact gJ
 rw[h,vY];refine gH ?_ ?_<;>intro h
 .rw[h,yD];refine Ba 8 5 (Cu b) E E E (oO ?_);refine gE q F400 ?_;exact dN
 .rw[h,yC];exact gJ
def Kx(n:Net)(i:Int):Int:=(nth n.domains (nth n.irbs i).domain).dev
def Azs{n:Net}(h:Ac n=true){i:Nat}(hi:i<n.irbs.length):Aao n i n.irbs[i]=true:=by
 simp only[Ac,zG]at h;exact allB_iff.1 h.2 i hi
def Dg{n:Net}(h:Ac n=true){i:Nat}(hi:i<n.irbs.length):(0<=n.irbs[i].domain/\n.irbs[i].domain.toNat<n.domains.length)/\(0<=n.irbs[i].vrf/\n.irbs[i].vrf.toNat<n.vrfs.length)/\(0<=n.irbs[i].bits/\n.irbs[i].bits<=32):=by
 have:=Azs h hi;simp only[Aao,Af,zG,zJ]at this;omega
def Ml(n:Net)(hb:Ac n=true)(i:Int)(hi:0<=i/\i.toNat<n.irbs.length):Sp 314 [Am n,Aa i] (Aa (Kx n i)):=cT F314 ntmps314 λF hF=>by
 have hf:=(Dg hb hi.2).1;rw[Kx,Ag hi.2];obtain ⟨x,hx⟩:=kE (n.irbs[i.toNat]'hi.2);rw[hx]at hf|-;rw[Ag hf.2];obtain ⟨d,hd⟩:=kE (n.domains[x.domain.toNat]'hf.2);rw[hd]
 conv=>whnf
 refine⟨E,hi.1,hi.2,?_⟩;rw[hx]
 conv=>whnf
 refine⟨E,hf.1,hf.2,?_⟩;rw[hd]
 conv=>whnf
 refine kW ?_;exact dN
def Adt(n:Net)(i k:Int):Bool:=Kx n i==Kx n k&&Aow n (nth n.irbs k).vrf (nth n.irbs i).vrf
def Anc(n:Net)(hn:n.Fin)(hb:Ac n=true)(i k:Int)(hi:0<=i/\i.toNat<n.irbs.length)(hk:0<=k/\k.toNat<n.irbs.length):Sp 316 [Am n,Aa i,Aa k] (Ab (Adt n i k)):=cT F316 ntmps316 λF hF=>by
 have q1:=Ml n hb i hi;have q2:=Ml n hb k hk;have f1:=(Dg hb hi.2).2.1;have f2:=(Dg hb hk.2).2.1;have q3:=Al8 n hn hb _ _ f2 f1;rw[Adt,Ag hi.2,Ag hk.2];obtain ⟨x,hx⟩:=kE (n.irbs[i.toNat]'hi.2);obtain ⟨y,hy⟩:=kE (n.irbs[k.toNat]'hk.2);rw[hx,hy]at q3;rw[hx,hy];generalize Kx n i=di at *;generalize Kx n k=dk at *
 conv=>whnf
 refine cD q1 F314 (oD ?_);refine cD q2 F314 (oD ?_);constructor<;>intro h
 .rw[h,yD];refine oD ?_;refine⟨E,hk.1,hk.2,?_⟩;rw[hy]
  conv=>whnf
  refine⟨E,hi.1,hi.2,?_⟩;rw[hx]
  conv=>whnf
  refine cD q3 F371 (gM ?_);exact dN
 .rw[h,yC];refine gM ?_;exact dN
abbrev Aqt(a b:Int):SV:=.agg [A9 a,Aa b]
def Ata(a b:Int)(h:0<=b/\b<=32):Sp 268 [Aqt a b] (Ab true):=cT F268 ntmps268 λF hF=>by
 conv=>whnf
 refine⟨λ_=>?_,λh2=>zX (zQ h2) z_⟩;refine oO ?_;refine Aq E Ap (zH Ab ?_) E;simp;omega
def Aiu(b:Int):Int:=IntKind.u32.wrap (IntKind.u32.wrap (1*2^(min (32-b).toNat IntKind.u32.bits))-1)
def Axe(a b:Int)(h:0<=b/\b<=32):Sp 269 [Aqt a b] (A9 (Aiu b)):=cT F269 ntmps269 λF hF=>by
 conv=>whnf
 refine iW ?_;refine⟨by omega,?_⟩
 conv=>whnf
 exact dN
def Acu(a b x:Int):Bool:=bits .andNot .u32 (bits .xor .u32 a x) (Aiu b)==0
def Ab1(a b x:Int)(h:0<=b/\b<=32):Sp 315 [Aqt a b,A9 x] (Ab (Acu a b x)):=cT F315 ntmps315 λF hF=>by
 have q1:=Ata a b h;have q2:=Axe a b h;rw[Acu];generalize Aiu b=r at *
 conv=>whnf
 refine cD q1 F268 ?_
 (refine oD ?_;refine aT ?_;refine oD ?_)
 refine cD q2 F269 (gM ?_);exact dN
def Xg(c:Int->Int->Int)(l:List Int)(j:Nat):Int:=((l.drop 1).take j).foldl (λm x=>if 0<c x m then x else m) (nth l 0)
def dA(c:Int->Int->Int)(l:List Int)(j:Nat)(h:j+1<l.length):Xg c l (j+1)=if 0<c l[j+1] (Xg c l j) then l[j+1] else Xg c l j:=by
 have hl:j<(l.drop 1).length:=by rw[yP];omega
 rw[Xg,yA hl,xO];have e:(l.drop 1)[j]=l[j+1]:=by rw[vN];congr 1;omega
 simp only[vJ,tH,e];rfl
def Vl(c:Int->Int->Int)(l:List Int)(h:0<l.length):∀j,j+1<=l.length->Xg c l j∈l
 |0,_=>by
  rw[Xg,List.take_zero,tH,Ag (l:=l) (i:=0) (kS h)];exact zI _
 |j+1,hj=>by
  rw[dA c l j z_];split
  .exact zI _
  .exact Vl c l h j z_
def Ayd(l:List Int)(c:Int->Int->Int)(f:FuncId)(first cap:List SV)(hc:(SV.clo (.func f) first cap).inn []=true)(h0:0<l.length)(hl:An l)(hf:∀x∈l,∀y∈l,E4 prog f (first++[Aa x,Aa y]++cap) (Aa (c x y))):Sp 318 [.sl 1 Aa l,.clo (.func f) first cap] (Aa (Xg c l (l.length-1))):=cT F318 ntmps318 λF hF=>by
 unfold An at hl;have az:∀x y:Int,B7 [] (first++[Aa x,Aa y]++cap)=true:=λx y=>C6 hc rfl
 have jt:=Vl c l h0;have ai:=dA c l;have hz:Xg c l 0=l[0]:=by rw[Xg,List.take_zero,tH,Ag (l:=l) (i:=0) (kS h0)];rfl
 generalize Xg c l=m at *
 conv=>whnf
 refine⟨λh=>zX (zO h) z_,λ_=>?_⟩;refine oO ?_;refine⟨E,by omega,kS h0,?_⟩
 conv=>whnf
 refine A8 (l.length-1) (λj=>[(0,.sl 1 Aa l),(1,.clo (.func f) first cap),(5,Aa (m j)),(6,Aa ((j:Int)+1))]) (λ_=>[]) []
  ⟨⟨rfl,rfl,Be _,hc,zH Aa hz,rfl,rfl,rfl,trivial⟩,trivial,rfl,rfl⟩ ?_
 intro j hj;have rp:=jt j z_;have s5:=ai j;refine gH ?_ ?_<;>intro h
 .have ab:j+1<l.length:=qA h;have s5:=s5 ab;have hk:((j:Int)+1).toNat<l.length:=by omega
  have e1:l[((j:Int)+1).toNat]'hk=l[j+1]:=by congr 1
  obtain ⟨x,hx⟩:=kE (l[j+1]);have hxm:x∈l:=hx▸zI ab;rw[hx]at e1 s5;refine oO ?_;refine⟨E,by omega,hk,?_⟩;rw[e1]
  conv=>whnf
  refine D4 (hf x hxm (m j) rp) E E E (by simp only[az];rfl) E E ?_;refine oO ?_;constructor<;>intro h2
  .rw[zE (zO h2)]at s5;refine oO ?_;refine⟨E,by omega,hk,?_⟩;rw[e1]
   conv=>whnf
   refine iW ?_;exact Ax [] z_ ⟨⟨E,E,Be _,hc,zH Aa s5,E,zH Aa z_,E,q_⟩,q_,E,E⟩
  .rw[zD (zQ h2)]at s5;refine gF ?_;exact Ax [] z_ ⟨⟨E,E,Be _,hc,zH Aa s5,E,zH Aa z_,E,q_⟩,q_,E,E⟩
 .have:j=l.length-1:=qB h;subst this;exact gJ
def Acm(n:Net)(irb i:Int):Int:=if (nth n.irbs i).vrf=(nth n.irbs irb).vrf then 1 else 0
abbrev InIrbs(n:Net)(i:Int):Prop:=0<=i/\i.toNat<n.irbs.length
def Aj0(n:Net)(irb i:Int)(hi:InIrbs n i)(hk:InIrbs n irb):Sp 317 [Aa i,.ref 8 (Am n) 0,.ref 1 (Aa irb) 0] (Aa (Acm n irb i)):=cT F317 ntmps317 λF hF=>by
 rw[Acm,Ag hi.2,Ag hk.2];obtain ⟨x,hx⟩:=kE (n.irbs[i.toNat]'hi.2);obtain ⟨y,hy⟩:=kE (n.irbs[irb.toNat]'hk.2);rw[hx,hy]
 conv=>whnf
 refine⟨E,hi.1,hi.2,?_⟩;rw[hx]
 conv=>whnf
 refine⟨E,hk.1,hk.2,?_⟩;rw[hy]
 conv=>whnf
 refine kW ?_;constructor<;>intro h
 .rw[zE (kS h)];exact gJ
 .rw[zD (kS h)];exact gJ
def Y7(n:Net)(irb a b:Int):Int:=if (nth n.irbs a).bits≠(nth n.irbs b).bits then (nth n.irbs a).bits-(nth n.irbs b).bits else Acm n irb a-Acm n irb b
def lN(n:Net)(irb i:Int):0<=Acm n irb i/\Acm n irb i<=1:=by
 unfold Acm;split<;>omega
def Ayn(n:Net)(hb:Ac n=true)(irb a b:Int)(hk:InIrbs n irb)(ha:InIrbs n a)(dx:InIrbs n b):Sp 319 [Aa a,Aa b,.ref 8 (Am n) 0,.ref 1 (.clo (.func 317) [] [.ref 8 (Am n) 0,.ref 1 (Aa irb) 0]) 0] (Aa (Y7 n irb a b)):=cT F319 ntmps319 λF hF=>by
 have fa:=(Dg hb ha.2).2.2;have fb:=(Dg hb dx.2).2.2;have q1:=Aj0 n irb a ha hk;have q2:=Aj0 n irb b dx hk;have l1:=lN n irb a;have l2:=lN n irb b;rw[Y7,Ag ha.2,Ag dx.2];obtain ⟨x,hx⟩:=kE (n.irbs[a.toNat]'ha.2);obtain ⟨y,hy⟩:=kE (n.irbs[b.toNat]'dx.2);rw[hx]at fa|-;rw[hy]at fb|-;generalize Acm n irb a=oa at *;generalize Acm n irb b=ob at *
 conv=>whnf
 refine⟨E,ha.1,ha.2,?_⟩;rw[hx]
 conv=>whnf
 refine⟨E,dx.1,dx.2,?_⟩;rw[hy]
 conv=>whnf
 refine kW ?_;constructor<;>intro h
 .rw[zE (kS h)];refine gF ?_;exact dN
 .rw[zD (kS h)];refine oO ?_;refine Apy ⟨⟨_,_,F317⟩,q1⟩ E E E E j_ E ?_;refine oD ?_;refine Apy ⟨⟨_,_,F317⟩,q2⟩ E E E E j_ E ?_;refine oD ?_;refine iW ?_;refine kW ?_;exact dN
def Mv(n:Net)(irb dst:Int)(i:Nat):Bool:=Kx n i==Kx n irb&&(nth n.irbs i).addr==dst
def Yg(n:Net)(irb dst:Int)(i:Nat):Bool:=Acu (nth n.irbs i).addr (nth n.irbs i).bits dst&&Adt n irb i
def Jj(n:Net)(irb dst:Int):List Int:=Im (Yg n irb dst) n.irbs.length
def lookT(n:Net)(irb dst:Int):Int×Bool :=
 if (List.range n.irbs.length).any (Mv n irb dst)=true then (0,false)
 else if Jj n irb dst=[] then (0,false) else (Xg (Y7 n irb) (Jj n irb dst) ((Jj n irb dst).length-1),true)
def Aq0(n:Net)(hn:n.Fin)(hb:Ac n=true)(irb dst:Int)(hk:InIrbs n irb):Sp 244 [Am n,Aa irb,A9 dst] (.tup [Aa (lookT n irb dst).1,Ab (lookT n irb dst).2]):=cT F244 ntmps244 λF hF=>by
 have ak:=lookT.eq_1 n irb dst;generalize lookT n irb dst=r at *;have x7:=hn.irbs;unfold An at x7;have qk:=Ml n hb irb hk
 conv=>whnf
 refine Ba 3 8 (Am n) E E E ?_;refine Ba 4 1 (Aa irb) E E E (B6 8 1000 1 Aa E E ?_);refine A7 n.irbs.length (λj=>∀i,i<j->Mv n irb dst i=false) (λj=>[(2,A9 dst),(3,.ref 8 (Am n) 0),(4,.ref 1 (Aa irb) 0),(8,.osl 1000),(13,.sl 5 Cr n.irbs),(14,Aa n.irbs.length),(15,Aa j)]) (λj=>[(1000,.row 1 Aa (Im (Yg n irb dst) j))]) [] (λi hi=>zX hi z_)
  kU ?_
 intro j hj hI;refine gH ?_ ?_<;>intro h
 .have ab:j<n.irbs.length:=by simpa using h
  have cy:InIrbs n (j:Int):=⟨by omega,kS ab⟩
  have qj:=Ml n hb j cy;have ai:=Y1 (Yg n irb dst) j;have im:=I7 (Yg n irb dst) j;have py:Mv n irb dst j=(Kx n j==Kx n irb&&(nth n.irbs j).addr==dst):=rfl;have hwa:Yg n irb dst j=(Acu (nth n.irbs j).addr (nth n.irbs j).bits dst&&Adt n irb j):=rfl;have enj:nth n.irbs (j:Int)=n.irbs[j]:=Ag (l:=n.irbs) (i:=(j:Int)) (kS ab);have hf:=(Dg hb ab).2.2;have e1:n.irbs[(j:Int).toNat]'z_=n.irbs[j]:=rfl;rw[enj]at py hwa;obtain ⟨x,hx⟩:=kE (n.irbs[j]);rw[hx]at e1 py hwa hf;have q1:=Ab1 x.addr x.bits dst hf;have q2:=Anc n hn hb irb j hk cy;rw[hwa]at ai;obtain ⟨u,hu⟩:=kE (Im (Yg n irb dst) j);rw[hu]at ai im|-;refine oO ?_;refine⟨E,by omega,by omega,?_⟩;rw[e1]
  conv=>whnf
  refine cD qj F314 (oD ?_);refine cD qk F314 (oD ?_);constructor<;>intro h2
  .rw[h2,yD]at py;refine gM ?_;constructor<;>intro h3
   .have:(List.range n.irbs.length).any (Mv n irb dst)=true:=wJ.2 ⟨j,kS ab,py.trans h3⟩;rw[zE this]at ak;subst ak;exact gJ
   .have me:=py.trans h3;refine oO ?_;refine gE q1 F315 ?_;constructor<;>intro h4
    .rw[h4,yD]at ai;refine oO ?_;refine gE q2 F316 ?_;constructor<;>intro h5
     .rw[zE h5]at ai;refine oO ?_;refine Ai (Ah Γ.toTy 47 E E E E E (.row E) (.lit (e:=Aa) (l:=[(j:Int)]) E E) qq kO kO) E E (gF ?_);exact A6 [(1000,47)] hI ab (λi hi=>if e:i=j then (by rw[e];exact me) else hI i z_) ⟨kA,⟨.inl (zH (Ob.row 1 Aa) ai),E,q_⟩,E,E⟩
     .rw[zD (by simp[h5])]at ai;refine gF ?_;exact A6 [] hI ab (λi hi=>if e:i=j then (by rw[e];exact me) else hI i z_) ⟨kA,⟨.inl (zH (Ob.row 1 Aa) ai),E,q_⟩,E,E⟩
    .rw[zD (by simp[h4])]at ai;refine oF ?_;refine iW ?_;exact A6 [] hI ab (λi hi=>if e:i=j then (by rw[e];exact me) else hI i z_) ⟨kA,⟨.inl (zH (Ob.row 1 Aa) ai),E,q_⟩,E,E⟩
  .have me:Mv n irb dst j=false:=by rw[py,h2,yC]
   refine oD ?_;refine⟨j_,?_⟩
   ((conv=>whnf);refine aF ?_;refine rg ?_;conv=>whnf)
   refine gE q1 F315 ?_;constructor<;>intro h4
   .rw[h4,yD]at ai;refine oO ?_;refine gE q2 F316 ?_;constructor<;>intro h5
    .rw[zE h5]at ai;refine oO ?_;refine Ai (Ah Γ.toTy 47 E E E E E (.row E) (.lit (e:=Aa) (l:=[(j:Int)]) E E) qq kO kO) E E (gF ?_);exact A6 [(1000,47)] hI ab (λi hi=>if e:i=j then (by rw[e];exact me) else hI i z_) ⟨kA,⟨.inl (zH (Ob.row 1 Aa) ai),E,q_⟩,E,E⟩
    .rw[zD (by simp[h5])]at ai;refine gF ?_;exact A6 [] hI ab (λi hi=>if e:i=j then (by rw[e];exact me) else hI i z_) ⟨kA,⟨.inl (zH (Ob.row 1 Aa) ai),E,q_⟩,E,E⟩
   .rw[zD (by simp[h4])]at ai;refine oF ?_;refine iW ?_;exact A6 [] hI ab (λi hi=>if e:i=j then (by rw[e];exact me) else hI i z_) ⟨kA,⟨.inl (zH (Ob.row 1 Aa) ai),E,q_⟩,E,E⟩
 .have:j=n.irbs.length:=qB h;subst this;have cu:¬(List.range n.irbs.length).any (Mv n irb dst)=true:=λh=>by
   obtain ⟨i,h1,h2⟩:=wJ.1 h;rw[hI i (kS h1)]at h2;cases h2
  rw[zD cu]at ak;have az:∀y∈Jj n irb dst,InIrbs n y:=λy hy=>by
   have:=(filtI_mem (p:=Yg n irb dst) (j:=n.irbs.length)).1 hy;exact⟨this.1,by omega⟩
  have iu:=I7 (Yg n irb dst) n.irbs.length;have hwe:Im (Yg n irb dst) n.irbs.length=Jj n irb dst:=rfl;rw[hwe]at iu|-;have q:∀h0:0<(Jj n irb dst).length,_:=λh0=>Ayd (Jj n irb dst) (Y7 n irb) 319 [] [.ref 8 (Am n) 0,.ref 1 (.clo (.func 317) [] [.ref 8 (Am n) 0,.ref 1 (Aa irb) 0]) 0] rfl h0 (by unfold An;omega) (λy hy z hz=>⟨⟨_,_,F319⟩,Ayn n hb irb y z hk (az y hy) (az z hz)⟩)
  generalize Jj n irb dst=l at *;refine Aj 1000 E (oO ?_);constructor<;>intro h3
  .have h4:l=[]:=by simpa using h3
   rw[zE h4]at ak;subst ak;exact gJ
  .have h4:¬l=[]:=by simpa using h3
   rw[zD h4]at ak;have q:=q (xU.2 h4);subst ak;refine oO ?_;refine Ba 11 1 (.clo (.func 317) [] [.ref 8 (Am n) 0,.ref 1 (Aa irb) 0]) E E E (oO ?_);refine gE q F318 ?_;exact dN
def Af5(n:Net)(hn:n.Fin)(hb:Ac n=true)(irb dst:Int)(hk:InIrbs n irb):Sp 332 [Am n,Aa irb,A9 dst] (.tup [Aa (lookT n irb dst).1,Ab (lookT n irb dst).2]):=cT F332 ntmps332 λF hF=>by
 have hr:=A0 n hn;rw[hb]at hr;have q:=Aq0 n hn hb irb dst hk;generalize lookT n irb dst=r at *;refine fW ?_;refine⟨λh=>zX (zO h) z_,λ_=>?_⟩;refine fU ?_;refine⟨λh=>zX (zO h) z_,λ_=>?_⟩;refine gN hr F39 ?_;refine gN q F244 ?_;exact gD
def Vn{n:Net}{irb dst:Int}(h:(lookT n irb dst).2=true):InIrbs n (lookT n irb dst).1:=by
 unfold lookT at h|-;split at h
 .cases h
 rename_i h1;rw[zD h1];split at h
 .cases h
 rename_i h2;rw[zD h2];have hm:=Vl (Y7 n irb) (Jj n irb dst) (xU.2 h2) ((Jj n irb dst).length-1) (by have:=xU.2 h2;omega);have:=(filtI_mem (p:=Yg n irb dst) (j:=n.irbs.length)).1 hm;exact⟨this.1,by omega⟩
end
end Go.Sy.Zaa
