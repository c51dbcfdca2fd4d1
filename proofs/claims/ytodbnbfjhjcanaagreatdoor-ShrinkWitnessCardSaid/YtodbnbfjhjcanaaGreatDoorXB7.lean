/- Parts of a proof. -/
import Derived.Test.YtodbnbfjhjcanaaGreatDoorXB5
set_option maxHeartbeats 4000000
set_option linter.all false
namespace Go.Sy.Zaa
open Go.Proofs Go.Proofs.Tryz
section
attribute [local irreducible]G DR
set_option maxRecDepth 100000
def O1(a bits:Int):SV:=.agg [Be a,Aa bits]
def Ad9(a bits:Int):Sp 268 [O1 a bits] (Ab (decide (0<=bits/\bits<=32))):=cT F268 ntmps268 λF hF=>by
 conv=>whnf
 (repeat' (first|(refine⟨λh=>?_,λh=>?_⟩<;>(repeat (first|simp only[zJ]at h|simp only[yB]at h))<;>((refine oO ?_)))|(refine Ar rfl Aq ?_ rfl)))
 all_goals (refine zH Ab ?_;clear hF;grind)
def Ahh(a bits:Int)(h:0<=bits/\bits<=32):Sp 269 [O1 a bits] (Be (2^(32-bits).toNat-1)):=cT F269 ntmps269 λF hF=>by
 conv=>whnf
 refine iW ?_;refine⟨by omega,?_⟩
 conv=>whnf
 refine Ar E Aq ?_ E;refine zH (λz=>SV.val (.int .u32 z)) ?_;obtain ⟨k,hk,cx⟩:∃k:Nat,(32-bits).toNat=k/\k<=32:=⟨_,rfl,by omega⟩
 have h1:min (32-bits).toNat IntKind.u32.bits=k:=by show min (32-bits).toNat 32=k;omega
 rw[h1,hk,IntKind.wrap_u32,IntKind.wrap_u32];have h2:(2:Int)^k<=4294967296:=by
  have:=vE (n:=2) j_ cx;rw[show (2:Int)^k=((2^k:Nat):Int) by rw[tC];rfl];have e:(2:Nat)^32=4294967296:=rfl;rw[e]at this;omega
 have h0:(1:Int)<=2^k:=by
  have:=vF (n:=k);rw[show (2:Int)^k=((2^k:Nat):Int) by rw[tC];rfl];omega
 generalize (2:Int)^k=q at *;omega
def Ad3(a k:Nat)(ha:a<4294967296)(hk:k<=32):bits .andNot .u32 (a:Int) ((2^k-1:Nat):Int)=((a-a%2^k:Nat):Int):=by
 have hp:=vE (n:=2) j_ hk;have ye:(2:Nat)^32=4294967296:=rfl;rw[ye]at hp;have h1:=vF (n:=k);have x1:(BitVec.ofInt 32 (a:Int)).toNat=a:=by rw[BitVec.ofInt_natCast,BitVec.toNat_ofNat];exact xJ q_
 have x2:(BitVec.ofInt 32 ((2^k-1:Nat):Int)).toNat=2^k-1:=by rw[BitVec.ofInt_natCast,BitVec.toNat_ofNat];exact xJ q_
 have key:(BitVec.ofInt 32 (a:Int) &&& ~~~ BitVec.ofInt 32 ((2^k-1:Nat):Int)).toNat=a-a%2^k:=by
  have hd:a-a%2^k=2^k*(a/2^k):=by have:=uM a (2^k);omega
  rw[hd];refine Nat.eq_of_testBit_eq λi=>?_
  rw[BitVec.testBit_toNat,BitVec.getLsbD_and,BitVec.getLsbD_not,<-BitVec.testBit_toNat,<-BitVec.testBit_toNat,x1,x2,Nat.testBit_two_pow_sub_one,Nat.testBit_two_pow_mul,Nat.testBit_div_two_pow];by_cases hi:i<k
  .have:¬i>=k:=by omega
   simp[hi,this]
  .have h2:i>=k:=by omega
   have h3:i-k+k=i:=by omega
   by_cases h4:i<32
   .simp[hi,h2,h4,h3]
   .have h5:a.testBit i=false:=Nat.testBit_lt_two_pow (xA (by rw[<-ye]at ha;exact ha) (vE j_ q_));rw[h3,h5];simp
 show IntKind.u32.wrap (((BitVec.ofInt 32 (a:Int) &&& ~~~ BitVec.ofInt 32 ((2^k-1:Nat):Int)).toNat:Nat):Int)=_;rw[key,IntKind.wrap_u32];omega
def L0(a k:Nat)(bits:Int)(h:0<=bits/\bits<=32)(hk:(32-bits).toNat=k):Eg a bits=((a-a%2^k:Nat):Int):=by
 rw[Eg,zE h,hk];have h1:=Nat.mod_le a (2^k);rw[show (2:Int)^k=((2^k:Nat):Int) by rw[tC];rfl];omega
def Aeb(a:Nat)(bits:Int)(ha:a<4294967296):Sp 214 [O1 a bits] (Be (Eg a bits)):=cT F214 ntmps214 λF hF=>by
 have hr:=Ad9 a bits;by_cases hb:0<=bits/\bits<=32
 .have df:=Ahh a bits hb;rw[zL hb]at hr;obtain ⟨k,hk,cx⟩:∃k:Nat,(32-bits).toNat=k/\k<=32:=⟨_,rfl,by omega⟩
  have hn:=Ad3 a k ha cx;have hf:=L0 a k bits hb hk;have h1:=vF (n:=k);have e2:(2:Int)^k-1=((2^k-1:Nat):Int):=by
   rw[show (2:Int)^k=((2^k:Nat):Int) by rw[tC];rfl];omega
  rw[hk,e2]at df;rw[hf,<-hn];refine gP hr F268 ?_;refine fU ?_
  first|refine cD df F269 ?_|refine c0 df F269 ?_
  refine fU ?_
  first|(refine⟨z_,?_⟩;(refine fW ?_))|skip
  exact dN
 .rw[zK hb]at hr;have hf:Eg a bits=0:=by rw[Eg,zD hb]
  rw[hf];refine gP hr F268 ?_;exact gD
def Hx(a bits:Int):Int:=if 0<=bits/\bits<=32 then Eg a bits+2^(32-bits).toNat-1 else 0
def or_low(a k:Nat)(ha:a<4294967296)(hk:k<=32):bits .or .u32 (a:Int) ((2^k-1:Nat):Int)=((a-a%2^k+(2^k-1):Nat):Int):=by
 have hp:=vE (n:=2) j_ hk;have ye:(2:Nat)^32=4294967296:=rfl;rw[ye]at hp;have h1:=vF (n:=k);have x1:(BitVec.ofInt 32 (a:Int)).toNat=a:=by rw[BitVec.ofInt_natCast,BitVec.toNat_ofNat];exact xJ q_
 have x2:(BitVec.ofInt 32 ((2^k-1:Nat):Int)).toNat=2^k-1:=by rw[BitVec.ofInt_natCast,BitVec.toNat_ofNat];exact xJ q_
 have hd:a-a%2^k=2^k*(a/2^k):=by have:=uM a (2^k);omega
 have my:=xR (i:=k) (b:=2^k-1) q_ (a/2^k);have key:(BitVec.ofInt 32 (a:Int)|||BitVec.ofInt 32 ((2^k-1:Nat):Int)).toNat=a-a%2^k+(2^k-1):=by
  rw[hd,my];refine Nat.eq_of_testBit_eq λi=>?_
  rw[BitVec.testBit_toNat,BitVec.getLsbD_or,<-BitVec.testBit_toNat,<-BitVec.testBit_toNat,x1,x2,Nat.testBit_or,Nat.testBit_two_pow_sub_one,Nat.testBit_two_pow_mul,Nat.testBit_div_two_pow];by_cases hi:i<k
  .simp[hi]
  .have h2:i>=k:=by omega
   have h3:i-k+k=i:=by omega
   simp[hi,h2,h3]
 show IntKind.u32.wrap (((BitVec.ofInt 32 (a:Int)|||BitVec.ofInt 32 ((2^k-1:Nat):Int)).toNat:Nat):Int)=_;have ab:(BitVec.ofInt 32 (a:Int)|||BitVec.ofInt 32 ((2^k-1:Nat):Int)).toNat<4294967296:=BitVec.isLt _;rw[key]at ab;rw[key,IntKind.wrap_u32];omega
def fO(a k:Nat)(bits:Int)(h:0<=bits/\bits<=32)(hk:(32-bits).toNat=k):Hx a bits=((a-a%2^k+(2^k-1):Nat):Int):=by
 rw[Hx,zE h,hk,L0 a k bits h hk];have h1:=vF (n:=k);rw[show (2:Int)^k=((2^k:Nat):Int) by rw[tC];rfl];omega
def lF(a:Nat)(bits:Int)(ha:a<4294967296):Sp 215 [O1 a bits] (Be (Hx a bits)):=cT F215 ntmps215 λF hF=>by
 have hr:=Ad9 a bits;by_cases hb:0<=bits/\bits<=32
 .have df:=Ahh a bits hb;rw[zL hb]at hr;obtain ⟨k,hk,cx⟩:∃k:Nat,(32-bits).toNat=k/\k<=32:=⟨_,rfl,by omega⟩
  have hn:=or_low a k ha cx;have hf:=fO a k bits hb hk;have h1:=vF (n:=k);have e2:(2:Int)^k-1=((2^k-1:Nat):Int):=by
   rw[show (2:Int)^k=((2^k:Nat):Int) by rw[tC];rfl];omega
  rw[hk,e2]at df;rw[hf,<-hn];refine gP hr F268 ?_;refine fU ?_
  first|refine cD df F269 ?_|refine c0 df F269 ?_
  refine fU ?_
  first|(refine⟨z_,?_⟩;(refine fW ?_))|skip
  exact dN
 .rw[zK hb]at hr;have hf:Hx a bits=0:=by rw[Hx,zD hb]
  rw[hf];refine gP hr F268 ?_;exact gD
def A3o(a b:Nat)(ha:a<4294967296)(hb:b<4294967296):bits .xor .u32 (a:Int) (b:Int)=((a^^^b:Nat):Int):=by
 have x1:(BitVec.ofInt 32 (a:Int)).toNat=a:=by rw[BitVec.ofInt_natCast,BitVec.toNat_ofNat];exact xJ q_
 have x2:(BitVec.ofInt 32 (b:Int)).toNat=b:=by rw[BitVec.ofInt_natCast,BitVec.toNat_ofNat];exact xJ q_
 show IntKind.u32.wrap (((BitVec.ofInt 32 (a:Int)^^^BitVec.ofInt 32 (b:Int)).toNat:Nat):Int)=_;have ab:(BitVec.ofInt 32 (a:Int)^^^BitVec.ofInt 32 (b:Int)).toNat<4294967296:=BitVec.isLt _;rw[BitVec.toNat_xor,x1,x2]at ab|-;rw[IntKind.wrap_u32];omega
def A1b(a x k:Nat)(ha:a<4294967296)(hx:x<4294967296)(hk:k<=32):(bits .andNot .u32 (bits .xor .u32 (a:Int) (x:Int)) ((2^k-1:Nat):Int)==0)=decide (a/2^k=x/2^k):=by
 have hxl:a^^^x<4294967296:=Nat.xor_lt_two_pow (n:=32) ha hx;rw[A3o a x ha hx,Ad3 _ k hxl hk];have hd:(a^^^x)-(a^^^x)%2^k=2^k*((a^^^x)/2^k):=by have:=uM (a^^^x) (2^k);omega
 rw[hd,Nat.xor_div_two_pow];have h1:=vF (n:=k);by_cases h:a/2^k=x/2^k
 .rw[h,Nat.xor_self];simp
 .rw[zK h];have:a / 2 ^ k ^^^ x / 2 ^ k≠0:=λ e=>h (by
   have:=zH (λ z=>z ^^^ x / 2 ^ k) e;simpa [Nat.xor_assoc] using this)
  rw[zU];intro e;have e:=Int.natCast_eq_zero.1 e;rcases Nat.mul_eq_zero.1 e with e|e
  .omega
  .exact this e
def Avj(a x q:Nat)(hq:0<q):(a/q=x/q)↔(a-a%q<=x/\x<=a-a%q+(q-1)):=by
 have h1:=uM a q;have hd:a-a%q=q*(a/q):=by omega
 rw[hd];constructor
 .intro e;have h2:=uM x q;have h3:=Nat.mod_lt x hq;rw[<-e]at h2;omega
 .rintro ⟨h2,h3⟩;symm;rw[Nat.div_eq_iff hq];generalize a/q=m at *;have:q*m=m*q:=vK ..;constructor<;>omega
def C7(n:Net):Prop:=∀x∈n.irbs,0<=x.addr/\x.addr<4294967296
end
section
def Mi(c:UInt8)(l:List UInt8):Nat:=(Lib.indexByte l c).toNat
def Dd(c:UInt8)(l:List UInt8):Nat->List UInt8
 |0=>l
 |j+1=>(Dd c l j).drop (Mi c (Dd c l j)+1)
def Wb(c:UInt8)(l:List UInt8)(j:Nat):List UInt8:=(Dd c l j).take (Mi c (Dd c l j))
def mkT(l:List UInt8):ByteArray:=⟨l.toArray⟩
def C3(c:UInt8)(s:ByteArray):List ByteArray :=
 (List.range (s.data.toList.count c)).map (λj=>mkT (Wb c s.data.toList j))++[mkT (Dd c s.data.toList (s.data.toList.count c))]
def Kn:∀{l:List UInt8} {c:UInt8},c∈l->0<=Lib.indexByte l c/\(Lib.indexByte l c).toNat<l.length
 |b::l,c,h=>by
  unfold Lib.indexByte;by_cases hb:b==c
  .rw[zE hb];simp
  .rw[zD hb];have po:c∈l:=by
    rcases yI.1 h with h|h
    .exact yA (by simp[h]) hb
    .exact h
   have:=Kn po;rw[zD kO];simp only[yM];omega
def Uy:∀{l:List UInt8} {c:UInt8},c∈l->(l.drop (Mi c l+1)).count c+1=l.count c
 |b::l,c,h=>by
  unfold Mi Lib.indexByte;by_cases hb:b==c
  .rw[zE hb,List.count_cons,zE hb];simp
  .rw[zD hb];have po:c∈l:=by
    rcases yI.1 h with h|h
    .exact yA (by simp[h]) hb
    .exact h
   have h1:=Kn po;rw[zD kO,List.count_cons,zD hb,Nat.add_zero,<-Uy po];have e:(Lib.indexByte l c+1).toNat=Mi c l+1:=by unfold Mi;omega
   rw[e,List.drop_succ_cons]
def aG(c:UInt8)(l:List UInt8):∀j,j<=l.count c->(Dd c l j).count c+j=l.count c
 |0,_=>rfl
 |j+1,h=>by
  have ih:=aG c l j q_;have po:c∈Dd c l j:=List.count_pos_iff.1 q_;have:=Uy po;rw[Dd];omega
def Ap2{c:UInt8}{l:List UInt8}{j:Nat}(h:j<l.count c):c∈Dd c l j :=
 List.count_pos_iff.1 (by have:=aG c l j q_;omega)
def Ash(c:UInt8)(s:ByteArray):Nat:=s.data.toList.count c
def L4(c:UInt8)(s:ByteArray):(C3 c s).length=Ash c s+1:=by simp only[C3,zQ,yW,List.length_range,zW];rfl
def Ak0(c:UInt8)(l:List UInt8):∀j,(Dd c l j).length<=l.length
 |0=>yE _
 |j+1=>by rw[Dd,yP];have:=Ak0 c l j;omega
def Ade{a b:ByteArray}(h:a.data.toList=b.data.toList):a=b:=by
 cases a;cases b;simp only[ByteArray.mk.injEq];exact Array.toList_inj.1 h
def I4(l:List UInt8):(mkT l).size=l.length:=by simp[mkT,ByteArray.size]
def K7(l:List UInt8):(mkT l).data.toList=l:=by simp[mkT]
def E8(l:List UInt8)(i j:Nat):(mkT l).extract i j=mkT ((l.take j).drop i):=by
 apply Ade;simp[mkT,ByteArray.data_extract,List.extract_eq_take_drop,List.drop_take]
def K6(s:ByteArray):mkT s.data.toList=s:=Ade (by simp[mkT])
def Az8{c:UInt8}{s:ByteArray}{j m:Nat}(h:Lib.indexByte (Dd c s.data.toList j) c=m):Wb c s.data.toList j=(Dd c s.data.toList j).take m:=by
 rw[Wb,Mi,h,zZ]
def A39{c:UInt8}{s:ByteArray}{j m:Nat}(h:Lib.indexByte (Dd c s.data.toList j) c=m):Dd c s.data.toList (j+1)=(Dd c s.data.toList j).drop (m+1):=by
 rw[Dd,Mi,h,zZ]
def Vg{k:Type}(l:List k)(j:Nat):List k:=List.ofFn λi:Fin l.length=>if i.1<j\/l.length-j<=i.1 then l[l.length-1-i.1] else l[i.1]
def D7{k:Type}(l:List k)(j:Nat):(Vg l j).length=l.length:=by simp[Vg]
def Sz{k:Type}(l:List k)(j i:Nat)(h:i<l.length):(Vg l j)[i]'(by rw[D7];exact h)=if i<j\/l.length-j<=i then l[l.length-1-i] else l[i]:=by simp[Vg]
def fA{k:Type}(l:List k):Vg l 0=l:=by
 apply tO (D7 l 0);intro i h1 h2;rw[Sz l 0 i h2,zD q_]
def Abi{k:Type}(l:List k)(j:Nat)(h:l.length<=2*j+1):Vg l j=l.reverse:=by
 apply tO (by rw[D7,List.length_reverse]);intro i h1 h2;have hi:i<l.length:=by rw[D7]at h1;exact h1
 rw[Sz l j i hi,List.getElem_reverse];split
 .rfl
 .congr 1;omega
def Avr{k:Type}(l:List k)(j:Nat)(h:2*j+1<l.length):((Vg l j).set j ((Vg l j)[l.length-1-j]'(by rw[D7];omega))).set (l.length-1-j) ((Vg l j)[j]'(by rw[D7];omega))=Vg l (j+1):=by
 apply tO (by simp only[yQ,D7]);intro i h1 h2;have hi:i<l.length:=by rw[D7]at h2;exact h2
 rw[vR,vR,Sz l (j+1) i hi,Sz l j i hi,Sz l j _ q_,Sz l j _ q_];by_cases e1:l.length-1-j=i
 .rw[zE e1,zD q_,zE q_];congr 1;omega
 .rw[zD e1];by_cases e2:j=i
  .rw[zE e2,zD q_,zE q_];congr 1;omega
  .rw[zD e2];by_cases e3:i<j\/l.length-j<=i
   .rw[zE e3,zE q_]
   .rw[zD e3,zD q_]
def fB{a:Type}{l u:List a}{j k:Nat}(hu:Vg l j=u)(h:2*j+1<l.length)(hk:l.length-1-j=k)(h1:k<u.length)(h2:j<u.length):(u.set j u[k]).set k u[j]=Vg l (j+1):=by
 subst hu hk;exact Avr l j h
def revDigs(u:Nat):List UInt8:=if u<10 then [UInt8.ofNat (48+u)] else UInt8.ofNat (48+u%10)::revDigs (u/10)
def Vz(u:Nat):0<(revDigs u).length:=by
 rw[revDigs];split<;>simp
def V0:∀(j u:Nat),j+1<(revDigs u).length↔0<u/10^(j+1)
 |0,u=>by
  rw[revDigs];split
  .simp;omega
  .have:=Vz (u/10);simp only[yM];omega
 |j+1,u=>by
  rw[revDigs];have e:u/10^(j+1+1)=u/10/10^(j+1):=by rw[tU,tV 10 (j+1),vK (10^(j+1))]
  rw[e];split
  .have:u/10=0:=by omega
   rw[this];simp
  .rw[yM,<-V0 j (u/10)];omega
def V1:∀(j u:Nat) (h:j<(revDigs u).length),(revDigs u)[j]=UInt8.ofNat (48+u/10^j%10)
 |0,u,h=>by
  have e:(revDigs u)[0]=UInt8.ofNat (48+u%10):=by
   simp only[revDigs.eq_1 u];split
   .show UInt8.ofNat (48+u)=UInt8.ofNat (48+u%10);rw[xJ (by assumption)]
   .rfl
  rw[e];simp
 |j+1,u,h=>by
  have hu:¬u<10:=λhu=>by rw[revDigs,zE hu]at h;simp at h
  have e0:revDigs u=UInt8.ofNat (48+u%10)::revDigs (u/10):=by rw[revDigs.eq_1 u,zD hu]
  have e:u/10^(j+1)=u/10/10^j:=by rw[tU,tV,vK]
  have hl:j<(revDigs (u/10)).length:=by rw[e0]at h;simpa using h
  have:=V1 j (u/10) hl;rw[e,<-this];simp only[e0,uI]
def Sf:∀(k u:Nat),u<10^k->(revDigs u).length<=k+1
 |0,u,h=>by rw[revDigs,zE (by simp at h;omega)];simp
 |k+1,u,h=>by
  rw[revDigs];split
  .simp
  .have:=Sf k (u/10) (by rw[tV]at h;omega);simp only[yM];omega
def A0t(n:Int):List UInt8:=(revDigs n.natAbs++(if n<0 then [45] else [])).reverse
def Alm(n:Int):ByteArray:=mkT (A0t n)
def A0s(m:Nat):A0t m=(revDigs m).reverse:=by
 rw[A0t,Int.natAbs_natCast,zD q_,xD]
set_option maxRecDepth 20000 in
def A0q(m:Nat)(hb:m<9223372036854775808):Sp 262 [Aa m] (As (Alm m)):=cT F262 ntmps262 λF hF=>by
 have ee:=Vz m;have hlen:=λj=>V0 j m
 have bc:=λj=>V1 j m
 have lz:(revDigs m).length<=20:=Sf 19 m q_;rw[Alm,A0s];generalize revDigs m=D at *;refine fW ?_;refine Ca 3 1000 1 Al E E ?_;refine Bg D.length (λj=>[(0,Aa m),(3,.osl 1000),(4,Bl (m/10^j:Nat)),(5,Ab (decide (j<D.length)))]) (λj=>[(1000,.row 1 Al (D.take j))]) []
  ⟨⟨rfl,rfl,rfl,rfl,zH (λz=>SV.val (.int .u64 z)) (by rw[IntKind.wrap_u64];omega),rfl,zH Ab (zL ee),rfl,trivial⟩,⟨.inl rfl,rfl,trivial⟩,rfl,rfl⟩ ?_
 intro j hj;refine gJ ?_ ?_<;>intro h
 .have ab:j<D.length:=zO h;have hgj:=bc j ab;have hlj:=hlen j;have e:m/10^(j+1)=m/10^j/10:=by rw[tU,tV]
  have hq:m/10^j<=m:=Nat.div_le_self _ _;rw[e]at hlj;refine fU ?_;refine⟨by decide,?_⟩;refine fW ?_;refine Aj (Ah Γ.toTy 23 E E E E E (.row E) (.lit (l:=[D[j]]) E ?_) y_ ?_ ?_) E E ?_
  .rw[hgj];simp only[xV,uA,Al];congr 3;generalize m/10^j=q at *;rw[Int.tmod_eq_emod_of_nonneg (vG _),IntKind.wrap_u64,IntKind.wrap_u8];simp
  .simp;omega
  .simp;omega
  refine fU ?_;refine⟨by decide,?_⟩;refine fW ?_;refine Az [(1000,23)] ab ⟨⟨E,E,E,E,zH (λz=>SV.val (.int .u64 z)) ?_,E,zH Ab ?_,E,Y⟩,⟨.inl (zH (Ob.row 1 Al) (yD ab)),E,Y⟩,E,E⟩
  .rw[e,uJ (vG _),IntKind.wrap_u64];generalize m/10^j=q at *;omega
  .rw[uJ (vG _),IntKind.wrap_u64];generalize m/10^j=q at *;refine decide_eq_decide.2 ?_;omega
 .have:j=D.length:=qB h;subst this;rw[yN];refine gG ?_;refine Bg (D.length/2) (λj=>[(3,.osl 1000),(6,Aa j),(7,Aa (D.length-1-j:Nat))]) (λj=>[(1000,.row 1 Al (Vg D j))]) []
   ⟨⟨rfl,rfl,rfl,rfl,zH (λz=>SV.val (.int .i64 z)) q_,rfl,trivial⟩,⟨.inl (zH (Ob.row 1 Al) (fA D)),rfl,trivial⟩,rfl,rfl⟩ ?_
  intro i hi;have ox:=D7 D i;refine fU ?_;constructor<;>intro h2
  .have ab:2*i+1<D.length:=by have:=zO h2;omega
   obtain ⟨u,hu⟩:=kE (Vg D i);obtain ⟨k,hk⟩:=kE (D.length-1-i);rw[hu]at ox;have hs:=fB hu ab hk q_ q_;rw[hu,hk];refine fU ?_;refine⟨by omega,by omega,?_⟩;refine fW ?_;refine⟨E,by omega,?_⟩;refine fW ?_;refine⟨by omega,by omega,?_⟩;refine fW ?_;refine⟨E,by omega,?_⟩;refine fW ?_;refine⟨by omega,by omega,?_⟩;refine fW ?_;refine⟨E,by omega,u[k],E,E,?_⟩;refine fW ?_;refine⟨by omega,by simp;omega,?_⟩;refine fW ?_;refine⟨E,by simp;omega,u[i],E,E,?_⟩;refine fW ?_;refine⟨z_,?_⟩;refine gO ?_;refine iL ?_;refine fW ?_;refine Az [] q_ ⟨⟨E,E,E,E,zH (λz=>SV.val (.int .i64 z)) q_,E,Y⟩,⟨.inl (zH (Ob.row 1 Al) hs.symm),E,Y⟩,E,E⟩
  .have h3:D.length<=2*i+1:=by have:=zT h2;omega
   rw[Abi D i h3];refine fU ?_;exact Aj (Lh Γ.toTy (bs:=D.reverse) E E E E E E E (.row E)) E E gD
attribute [local irreducible]G DR
set_option maxRecDepth 20000
def Ar5{n:Net}(h:Ac n=true){i:Nat}(hi:i<n.ports.length):Kj n i n.ports[i]=true:=by
 simp only[Ac,zG]at h;exact allB_iff.1 h.1.1.1.1.1.2 i hi
def At1{n:Net}(h:Ac n=true){i:Nat}(hi:i<n.domains.length):Qo n i n.domains[i]=true:=by
 simp only[Ac,zG]at h;exact allB_iff.1 h.1.1.1.1.1.1.1.2 i hi
def Adi{n:Net}(h:Ac n=true):n.devices.length<=8/\n.ports.length<=40/\n.links.length<=20/\n.domains.length<=48/\n.irbs.length<=48:=by
 simp only[Ac,Ae9,zG,zJ]at h;omega
def Er{n:Net}(h:Ac n=true){i:Nat}(hi:i<n.domains.length):(0<=n.domains[i].dev/\n.domains[i].dev.toNat<n.devices.length)/\(1<=n.domains[i].vlan/\n.domains[i].vlan<=4094)/\(0<=n.domains[i].vni/\n.domains[i].vni<=16777215)/\(n.domains[i].irb=-1\/0<=n.domains[i].irb/\n.domains[i].irb.toNat<n.irbs.length):=by
 have:=At1 h hi;simp only[Qo,Ag,zG,yO,zJ,yJ]at this;omega
def Ii(p:Nat->Bool)(j:Nat):List Int:=((List.range j).filter p).map Int.ofNat
def aA(p:Nat->Bool)(j:Nat):Ii p (j+1)=if p j=true then Ii p j++[(j:Int)] else Ii p j:=by
 rw[Ii,vH,List.filter_append,wZ];split
 .rename_i h;rw[vB (by exact h),List.filter_nil];rfl
 .rename_i h;rw[uW (by exact h),List.filter_nil,uA,xD];rfl
def Jh(p:Nat->Bool)(j:Nat):(Ii p j).length<=j:=by
 have:=tY p (List.range j);simpa [Ii] using this
def filtI_mem{p:Nat->Bool}{j:Nat}{x:Int}:x∈Ii p j↔0<=x/\x<j/\p x.toNat=true:=by
 simp only[Ii,yS,uB,yV];constructor
 .rintro ⟨i,h1,rfl⟩;exact⟨vG i,by simp;omega,h1.2⟩
 .rintro ⟨h1,h2,h3⟩;exact⟨x.toNat,⟨by omega,h3⟩,yR h1⟩
def U9(n:Net)(d:Domain)(i:Nat):Bool:=(nth n.ports i).dev==d.dev&&Cy (nth n.ports i) d.vlan
def A7(n:Net)(i:Int):List Int:=Ii (U9 n (nth n.domains i)) n.ports.length
def A0(n:Net)(i:Int):List Int:=if (0<=i/\i<n.domains.length)/\Ac n=true then A7 n i else []
def K9(n:Net)(hn:n.Fin)(i:Int):An (A0 n i):=by
 have:=hn.ports;unfold An at this|-;unfold A0;split
 .have:=Jh (U9 n (nth n.domains i)) n.ports.length;unfold A7;omega
 .simp
def Sl(n:Net)(hn:n.Fin)(i:Int):Sp 116 [Am n,Aa i] (.sl 1 Aa (A0 n i)):=cT F116 ntmps116 λF hF=>by
 have hr:=A2 n hn;have ay:=L5 6 At n.domains i;have zk:=hn.ports;unfold An at zk
 conv=>whnf
 refine c0 hr F39 ?_;cases hb:Ac n
 .rw[A0,zD (by simp[hb])]
  (refine oT ?_;refine bT ?_)
  exact Ao 4 1 Aa E gI
 refine oF ?_;refine c0 ay F149 ?_;by_cases hi:0<=i/\i<n.domains.length;rotate_left
 .have h0:Ag i n.domains.length=false:=by simp only[Ag,yX,yB];omega
  rw[A0,zD (by simp[hb,hi]),h0];refine oT ?_;exact Ao 4 1 Aa E gI
 have h0:Ag i n.domains.length=true:=by simp only[Ag,zG,zJ];exact hi
 rw[A0,zE ⟨hi,hb⟩,h0];have hk:i.toNat<n.domains.length:=by omega
 have hf:=Er hb hk;have e1:nth n.domains i=n.domains[i.toNat]:=Ae hk;rw[A7,e1];obtain ⟨d,hd⟩:=kE (n.domains[i.toNat]);rw[hd]at hf|-;refine Bf 2 8 (Am n) E E E (oF ?_);refine Ca 5 1000 1 Aa E E ?_;refine Bg n.ports.length (λj=>[(1,Aa i),(2,.ref 8 (Am n) 0),(5,.osl 1000),(19,.sl 7 Bb n.ports),(20,Aa n.ports.length),(21,Aa j)]) (λj=>[(1000,.row 1 Aa (Ii (U9 n d) j))]) []
  kU ?_
 intro j hj;refine gH ?_ ?_<;>intro h
 .have ab:j<n.ports.length:=by simpa using h
  have ag:=aA (U9 n d) j;have jl:=Jh (U9 n d) j;have a6:U9 n d j=((n.ports[j]).dev==d.dev&&Cy n.ports[j] d.vlan):=by
   rw[U9,Ae (l:=n.ports) (i:=(j:Int)) (kS ab)];rfl
  rw[a6]at ag;have e1:n.ports[(j:Int).toNat]'q_=n.ports[j]:=rfl;have yf:=cE n.ports[j] d.vlan (hn.tagged _ (zI _));obtain ⟨p,hp⟩:=kE (n.ports[j]);rw[hp]at e1 ag yf;obtain ⟨u,hu⟩:=kE (Ii (U9 n d) j);rw[hu]at ag jl|-;refine oO ?_;refine⟨E,by omega,by omega,?_⟩;rw[e1]
  conv=>whnf
  refine⟨E,hi.1,hk,?_⟩;rw[hd]
  conv=>whnf
  constructor<;>intro h2
  .have h3:∃k:Nat,(k:Int)=i:=⟨i.toNat,by omega⟩
   rw[h2,yG]at ag;refine oD ?_;refine⟨E,hi.1,hk,?_⟩;rw[hd]
   conv=>whnf
   refine cD yf F150 (gL ?_);constructor<;>intro h4
   .rw[zE h4]at ag;refine oO ?_;refine Aj (Ah Γ.toTy 48 E E E E E (.row E) (.lit (e:=Aa) (l:=[(j:Int)]) E E) y_ kO kO) E E (gF ?_);exact Az [(1000,48)] ab ⟨kA,⟨.inl (zH (Ob.row 1 Aa) ag),E,Y⟩,E,E⟩
   .rw[zD (by simp[h4])]at ag;refine gF ?_;exact Az [] ab ⟨kA,⟨.inl (zH (Ob.row 1 Aa) ag),E,Y⟩,E,E⟩
  .rw[zD (by simp[h2])]at ag;refine oD ?_;refine⟨z_,?_⟩
   ((conv=>whnf);refine aF ?_;refine rg ?_;conv=>whnf)
   refine iW ?_;exact Az [] ab ⟨kA,⟨.inl (zH (Ob.row 1 Aa) ag),E,Y⟩,E,E⟩
 .have:j=n.ports.length:=qB h;subst this;exact Ai 1000 E gI
def Ai7(n:Net)(hn:n.Fin)(l:List Domain)(p:Domain->Bool)(f:FuncId)(first cap:List SV)(hc:(SV.clo (.func f) first cap).inn []=true)(hf:∀x∈l,Hg prog f (first++[At x]++cap) (Ab (p x)))(hl:An l):Sp 236 [Am n,.sl 6 At l,.clo (.func f) first cap] (Aa (if Ac n=true then Bs p l else -1)):=cT F236 ntmps236 λF hF=>by
 have hr:=A2 n hn;have q:=E9 l p f first cap hc hf hl
 conv=>whnf
 refine c0 hr F39 ?_;cases hb:Ac n
 .rw[zD y_];refine oT ?_;exact dN
 rw[zE rfl];refine oF ?_;exact M4 q F222 E E (by simp only[B7,hc,uH];rfl) E E gI
def Aip(dev vlan:Int)(d:Domain):Sp 237 [At d,.ref 1 (Aa dev) 0,.ref 1 (Aa vlan) 0] (Ab (d.dev==dev&&d.vlan==vlan)):=cT F237 ntmps237 λF hF=>by
 conv=>whnf
 (repeat' (first|(refine⟨λh=>?_,λh=>?_⟩<;>(repeat (first|simp only[yJ]at h|simp only[zU]at h))<;>((refine oO ?_)))|(refine Ar rfl Aq ?_ rfl)))
 all_goals (refine zH Ab ?_)
 all_goals simp_all
def B5(n:Net)(dev vlan:Int):Int:=if Ac n=true then C8 n dev vlan else -1
def K5(n:Net)(hn:n.Fin)(dev vlan:Int):Sp 181 [Am n,Aa dev,Aa vlan] (Aa (B5 n dev vlan)):=cT F181 ntmps181 λF hF=>by
 have q:=Ai7 n hn n.domains (λd=>d.dev==dev&&d.vlan==vlan) 237 [] [.ref 1 (Aa dev) 0,.ref 1 (Aa vlan) 0] rfl (λd _=>⟨⟨_,_,F237⟩,Aip dev vlan d⟩) hn.domains
 conv=>whnf
 refine Bf 4 1 (Aa dev) E E E ?_;refine Bf 5 1 (Aa vlan) E E E (gE q F236 ?_);exact dN
def A4(n:Net)(i:Int):Int :=
 if (0<=i/\i<n.ports.length)/\0<=(nth n.ports i).link/\Ac n=true then
  (if (nth n.links (nth n.ports i).link).a=i then (nth n.links (nth n.ports i).link).b else (nth n.links (nth n.ports i).link).a) else -1
def Ha{n:Net}(h:Ac n=true){i:Nat}(hi:i<n.ports.length)(hl:0<=n.ports[i].link):n.ports[i].link.toNat<n.links.length/\((nth n.links n.ports[i].link).a=i\/(nth n.links n.ports[i].link).b=i):=by
 have:=Ar5 h hi;simp only[Kj,Ag,zG,yO,zJ,yJ]at this;rcases this.2 with h1|h1
 .omega
 .exact⟨by omega,h1.2⟩
def cH(n:Net)(hn:n.Fin)(i:Int):Sp 252 [Am n,Aa i] (Aa (A4 n i)):=cT F252 ntmps252 λF hF=>by
 have hr:=A2 n hn
 conv=>whnf
 constructor<;>intro h
 .have h1:i<0:=zO h;rw[A4,zD q_]
  (refine oT ?_;refine bT ?_;refine bT ?_)
  exact dN
 have h1:0<=i:=qB h;refine gH ?_ ?_<;>intro h
 .have h2:n.ports.length<=i:=zO h;rw[A4,zD q_]
  (refine oT ?_;refine bT ?_)
  exact dN
 have h2:i<n.ports.length:=qB h;have hk:i.toNat<n.ports.length:=by omega
 have e1:nth n.ports i=n.ports[i.toNat]:=Ae hk;have ak:=λ(hb:Ac n=true)=>Ha hb hk
 rw[A4,e1];obtain ⟨p,hp⟩:=kE (n.ports[i.toNat]);rw[hp]at ak|-;refine oO ?_;refine⟨E,h1,hk,?_⟩;rw[hp]
 conv=>whnf
 constructor<;>intro h
 .have h3:p.link<0:=zO h;rw[zD q_];refine oT ?_;exact dN
 have h3:0<=p.link:=qB h;refine oO ?_;refine c0 hr F39 ?_;cases hb:Ac n
 .rw[zD y_];refine oT ?_;exact dN
 rw[zE ⟨⟨h1,h2⟩,h3,rfl⟩];have hq:=ak hb h3;have e2:nth n.links p.link=n.links[p.link.toNat]:=Ae hq.1;rw[e2];obtain ⟨l,hl⟩:=kE (n.links[p.link.toNat]'hq.1);rw[hl];refine oF ?_;refine⟨E,h1,hk,?_⟩;rw[hp]
 conv=>whnf
 refine⟨E,h3,hq.1,?_⟩;rw[hl]
 conv=>whnf
 refine kW ?_;constructor<;>intro h
 .have h4:l.a=i:=by simpa using h
  rw[zE h4];exact gI
 .have h4:¬l.a=i:=by simpa using h
  rw[zD h4];exact gI
def e_link{n:Net}(h:Ac n=true){i:Nat}(hi:i<n.links.length):(0<=n.links[i].a/\n.links[i].a.toNat<n.ports.length)/\(0<=n.links[i].b/\n.links[i].b.toNat<n.ports.length):=by
 simp only[Ac,zG]at h;have:=allB_iff.1 h.1.1.1.1.2 i hi;simp only[M2,Ag,zG,zJ]at this;omega
def D2{n:Net}{i:Int}(h:0<=A4 n i):(0<=i/\i.toNat<n.ports.length)/\Ac n=true/\(A4 n i).toNat<n.ports.length:=by
 unfold A4 at h|-;split at h
 .rename_i hc;rw[zE hc];have hk:i.toNat<n.ports.length:=by omega
  have e1:nth n.ports i=n.ports[i.toNat]:=Ae hk;rw[e1]at hc h|-;have hq:=Ha hc.2.2 hk hc.2.1;have e2:nth n.links n.ports[i.toNat].link=n.links[n.ports[i.toNat].link.toNat]:=Ae hq.1;have hl:=e_link hc.2.2 hq.1;rw[e2]at h|-;refine⟨by omega,hc.2.2,?_⟩;split
  .exact hl.2.2
  .exact hl.1.2
 .omega
def C4(n:Net)(i v:Int):Int:=if v=(nth n.ports i).native then (nth n.ports (A4 n i)).native else if inB (nth n.ports (A4 n i)).tagged v=true then v else 0
def crossT(n:Net)(i v:Int):Int×Int×Bool :=
 if 0<=A4 n i/\Cy (nth n.ports i) v=true/\C4 n i v≠0 then (A4 n i,C4 n i v,true) else (0,0,false)
def Al8(n:Net)(hn:n.Fin)(i v:Int):Sp 331 [Am n,Aa i,Aa v] (.tup [Aa (crossT n i v).1,Aa (crossT n i v).2.1,Ab (crossT n i v).2.2]):=cT F331 ntmps331 λF hF=>by
 have q:=cH n hn i;have m5:=D2 (n:=n) (i:=i);have hc:=crossT.eq_1 n i v;unfold C4 at hc;generalize crossT n i v=r at *;obtain ⟨far,bx⟩:=kE (A4 n i);rw[bx]at q m5 hc;refine gP q F252 ?_;refine gJ ?_ ?_<;>intro h
 .have h1:far<0:=zO h;rw[zD q_]at hc;subst hc;exact gD
 have h1:0<=far:=qB h;obtain ⟨⟨dt,hk⟩,hb,xh⟩:=m5 h1;have e1:nth n.ports i=n.ports[i.toNat]:=Ae hk;have e2:nth n.ports far=n.ports[far.toNat]:=Ae xh;rw[e1,e2]at hc;have ht1:=hn.tagged _ (zI hk);have ht2:=hn.tagged _ (zI xh);obtain ⟨p,hp⟩:=kE (n.ports[i.toNat]);obtain ⟨o,ho⟩:=kE (n.ports[far.toNat]);rw[hp]at hc ht1;rw[ho]at hc ht2;have yf:=cE p v ht1;have kt:=Ed o.tagged v ht2;refine Bf 3 8 (Am n) E E E (fU ?_);refine⟨E,dt,hk,?_⟩;rw[hp];refine gP yf F150 ?_;cases cd:Cy p v
 .rw[zD (by simp[cd])]at hc;subst hc;exact gD
 refine fU ?_;refine⟨E,h1,xh,?_⟩;rw[ho];refine fW ?_;refine⟨E,dt,hk,?_⟩;rw[hp];refine fW ?_;constructor<;>intro h
 .have h2:v=p.native:=by simpa using h
  rw[zE h2]at hc;refine gJ ?_ ?_<;>intro h
  .have h3:o.native=0:=by simpa using h
   rw[zD (λhh=>hh.2.2 h3)]at hc;subst hc;exact gD
  .have h3:o.native≠0:=by simpa using h
   rw[zE ⟨h1,cd,h3⟩]at hc;subst hc;exact gD
 have h2:¬v=p.native:=kS h;rw[zD h2]at hc;refine gM kt F115 ?_;cases a6:inB o.tagged v
 .rw[a6,zD y_]at hc;subst hc;exact gD
 rw[a6,zE rfl]at hc;refine gJ ?_ ?_<;>intro h
 .have h3:v=0:=by simpa using h
  rw[zD (λhh=>hh.2.2 h3)]at hc;subst hc;exact gD
 .have h3:v≠0:=by simpa using h
  rw[zE ⟨h1,cd,h3⟩]at hc;subst hc;exact gD
def linkDomT(n:Net)(i v:Int):Int×Bool:=if (crossT n i v).2.2=true then (B5 n (nth n.ports (crossT n i v).1).dev (crossT n i v).2.1,true) else (0,false)
def dL{n:Net}{i v:Int}(h:(crossT n i v).2.2=true):0<=(crossT n i v).1/\(crossT n i v).1.toNat<n.ports.length:=by
 unfold crossT at h|-;split at h
 .rename_i hc;rw[zE hc];exact⟨hc.1,(D2 hc.1).2.2⟩
 .cases h
def cI(n:Net)(hn:n.Fin)(i v:Int):Sp 256 [Am n,Aa i,Aa v] (.tup [Aa (linkDomT n i v).1,Ab (linkDomT n i v).2]):=cT F256 ntmps256 λF hF=>by
 have q:=Al8 n hn i v;have m5:=dL (n:=n) (i:=i) (v:=v);have hc:=linkDomT.eq_1 n i v;generalize linkDomT n i v=r at *;generalize crossT n i v=x at *;obtain ⟨far,to,ok⟩:=x;refine gP q F331 ?_;cases ok
 .rw[zD y_]at hc;subst hc;exact gD
 rw[zE rfl]at hc;have hf:=m5 rfl;dsimp only at hf hc;have e2:nth n.ports far=n.ports[far.toNat]:=Ae hf.2;rw[e2]at hc;obtain ⟨o,ho⟩:=kE (n.ports[far.toNat]'hf.2);rw[ho]at hc;have q2:=K5 n hn o.dev to;subst hc;refine Bf 3 8 (Am n) E E E (fU ?_);refine⟨E,hf.1,hf.2,?_⟩;rw[ho];refine fW ?_;refine cD q2 F181 (fU ?_);refine⟨z_,?_⟩;refine fW ?_;exact dN
def Qd:=iD Aa 1 F329 ntmps329
def dO(l:List Int)(p:Int->Bool)(f:FuncId)(first cap:List SV)(hc:(SV.clo (.func f) first cap).inn []=true)(hf:∀x∈l,Hg prog f (first++[Aa x]++cap) (Ab (p x)))(hl:An l):Sp 400 [.sl 1 Aa l,.clo (.func f) first cap] (Ab (decide (0<=Bs p l))):=cT F400 ntmps400 λF hF=>by
 have h0:B7 [] [.sl 1 Aa l,.clo (.func f) first cap]=true:=by simp only[B7,hc];rfl
 conv=>whnf
 exact M4 (Qd l p f first cap hc hf hl) F329 E E (by simp only[h0];rfl) E E gI
theorem iA{A0:Type}(v0:A0->SV)(z0:Nat){f0 m0:Nat}{g0:Func}(F0:fT f0 g0)(n0:g0.ntmps=m0)(h:let A0:Type:=A0;let v0:A0->SV:=v0;let z0:=z0;fT f0 g0->g0.ntmps=m0->∀ (l:List A0) (p:A0->Bool) (f:FuncId) (first cap:List SV) (hc:(SV.clo (.func f) first cap).inn []=true) (hf:∀ x∈l,Hg prog f (first++[v0 x]++cap) (Ab (p x))) (hl:An l),Sp f0 [.sl z0 v0 l,.clo (.func f) first cap] (Aa (Bs p l)):=by
 intro A0 v0 z0 F0 n0 l p f first cap hc hf hl
 refine cT F0 n0 λF hF=>?_
 unfold An at hl;have a6:∀x:A0,B7 [] (first++[v0 x]++cap)=true:=λx=>Db hc rfl
 refine fW ?_;refine Ba l.length (λj=>El (λ_ x=>!(p x)) l j) (λj=>[(0,.sl z0 v0 l),(1,.clo (.func f) first cap),(7,Aa l.length),(8,Aa j)]) (λ_=>[]) [] (Bi _ _) ⟨⟨E,E,Bh _,hc,E,E,E,E,Y⟩,Y,E,E⟩ ?_;intro j hj hI;refine gJ ?_ ?_<;>intro h
 .have h:=zO h;have cn:j<l.length:=by omega
  refine fU ?_;refine⟨E,by omega,by omega,?_⟩;refine fW ?_;refine Ek (hf l[j] (zI cn)) E E E (by simp only[a6];rfl) E E ?_;refine fU ?_;constructor<;>intro h2
  .refine fU ?_;refine Ar E Aq (zH Aa ?_) E;exact Co cn (λi hi bu=>kS (hI i hi bu)) h2
  .refine gG ?_;exact A8 [] hI cn (Bd hI cn (by simp[h2])) ⟨⟨E,E,Bh _,hc,E,E,E,E,Y⟩,Y,E,E⟩
 .have h:=zT h;refine fU ?_;refine Ar E Aq (zH Aa ?_) E;exact Dk (λ i hi=>kS (hI i hi q_))):∀ (l:List A0) (p:A0->Bool) (f:FuncId) (first cap:List SV) (hc:(SV.clo (.func f) first cap).inn []=true) (hf:∀ x∈l,Hg prog f (first++[v0 x]++cap) (Ab (p x))) (hl:An l),Sp f0 [.sl z0 v0 l,.clo (.func f) first cap] (Aa (Bs p l)):=h F0 n0
def Acv:=iA Cq 5 F375 ntmps375
def Lm(l:List Irb)(p:Irb->Bool)(f:FuncId)(first cap:List SV)(hc:(SV.clo (.func f) first cap).inn []=true)(hf:∀x∈l,Hg prog f (first++[Cq x]++cap) (Ab (p x)))(hl:An l):Sp 333 [.sl 5 Cq l,.clo (.func f) first cap] (Ab (decide (0<=Bs p l))):=cT F333 ntmps333 λF hF=>by
 have h0:B7 [] [.sl 5 Cq l,.clo (.func f) first cap]=true:=by simp only[B7,hc];rfl
 refine fW ?_;exact M4 (Acv l p f first cap hc hf hl) F375 E E (by simp only[h0];rfl) E E gD
def A3q(v:Vrf)(hv:An v.imports)(t:Int):Sp 399 [Aa t,.ref 5 (Ct v) 0] (Ab (inB v.imports t)):=cT F399 ntmps399 λF hF=>by
 have q:=Ed v.imports t hv
 conv=>whnf
 refine gE q F115 ?_;exact dN
def Arc(n:Net)(i k:Int):Bool:=i==k||(nth n.vrfs i).dev==(nth n.vrfs k).dev&&decide (0<=Bs (inB (nth n.vrfs k).imports) (nth n.vrfs i).exports)
def Aoq(n:Net)(hn:n.Fin)(hb:Ac n=true)(i k:Int)(hi:0<=i/\i.toNat<n.vrfs.length)(hk:0<=k/\k.toNat<n.vrfs.length):Sp 371 [Am n,Aa i,Aa k] (Ab (Arc n i k)):=cT F371 ntmps371 λF hF=>by
 have hr:=A2 n hn;rw[hb]at hr;have him:=hn.imports _ (zI hk.2);have hex:=hn.exports _ (zI hi.2);rw[Arc,Ae hi.2,Ae hk.2];obtain ⟨a,ha⟩:=kE (n.vrfs[i.toNat]'hi.2);obtain ⟨b,hbb⟩:=kE (n.vrfs[k.toNat]'hk.2);rw[ha]at hex|-;rw[hbb]at him|-;have q:=dO a.exports (inB b.imports) 399 [] [.ref 5 (Ct b) 0] rfl (λt _=>⟨⟨_,_,F399⟩,A3q b him t⟩) hex
 conv=>whnf
 refine⟨λh=>yA (zO h) q_,λ_=>?_⟩;refine oO ?_;refine⟨λh=>yA (zO h) q_,λ_=>?_⟩;refine oO ?_;refine⟨λh=>yA (zO h) q_,λ_=>?_⟩;refine oO ?_;refine⟨λh=>yA (zO h) q_,λ_=>?_⟩;refine oO ?_;refine c0 hr F39 (oF ?_);refine⟨E,hi.1,hi.2,?_⟩;rw[ha]
 conv=>whnf
 refine⟨E,hk.1,hk.2,?_⟩;rw[hbb]
 conv=>whnf
 refine kW ?_;constructor<;>intro h
 .rw[h,vN];exact gI
 rw[h,vQ];refine gH ?_ ?_<;>intro h
 .rw[h,yG];refine Bf 8 5 (Ct b) E E E (oO ?_);refine gE q F400 ?_;exact dN
 .rw[h,yF];exact gI
def Lb(n:Net)(i:Int):Int:=(nth n.domains (nth n.irbs i).domain).dev
def A2q{n:Net}(h:Ac n=true){i:Nat}(hi:i<n.irbs.length):Aco n i n.irbs[i]=true:=by
 simp only[Ac,zG]at h;exact allB_iff.1 h.2 i hi
def Dl{n:Net}(h:Ac n=true){i:Nat}(hi:i<n.irbs.length):(0<=n.irbs[i].domain/\n.irbs[i].domain.toNat<n.domains.length)/\(0<=n.irbs[i].vrf/\n.irbs[i].vrf.toNat<n.vrfs.length)/\(0<=n.irbs[i].bits/\n.irbs[i].bits<=32):=by
 have:=A2q h hi;simp only[Aco,Ag,zG,zJ]at this;omega
def Oa(n:Net)(hb:Ac n=true)(i:Int)(hi:0<=i/\i.toNat<n.irbs.length):Sp 314 [Am n,Aa i] (Aa (Lb n i)):=cT F314 ntmps314 λF hF=>by
 have hf:=(Dl hb hi.2).1;rw[Lb,Ae hi.2];obtain ⟨x,hx⟩:=kE (n.irbs[i.toNat]'hi.2);rw[hx]at hf|-;rw[Ae hf.2];obtain ⟨d,hd⟩:=kE (n.domains[x.domain.toNat]'hf.2);rw[hd]
 conv=>whnf
 refine⟨E,hi.1,hi.2,?_⟩;rw[hx]
 conv=>whnf
 refine⟨E,hf.1,hf.2,?_⟩;rw[hd]
 conv=>whnf
 refine kW ?_;exact dN
def Afr(n:Net)(i k:Int):Bool:=Lb n i==Lb n k&&Arc n (nth n.irbs k).vrf (nth n.irbs i).vrf
def Apw(n:Net)(hn:n.Fin)(hb:Ac n=true)(i k:Int)(hi:0<=i/\i.toNat<n.irbs.length)(hk:0<=k/\k.toNat<n.irbs.length):Sp 316 [Am n,Aa i,Aa k] (Ab (Afr n i k)):=cT F316 ntmps316 λF hF=>by
 have q1:=Oa n hb i hi;have q2:=Oa n hb k hk;have f1:=(Dl hb hi.2).2.1;have f2:=(Dl hb hk.2).2.1;have q3:=Aoq n hn hb _ _ f2 f1;rw[Afr,Ae hi.2,Ae hk.2];obtain ⟨x,hx⟩:=kE (n.irbs[i.toNat]'hi.2);obtain ⟨y,hy⟩:=kE (n.irbs[k.toNat]'hk.2);rw[hx,hy]at q3;rw[hx,hy];generalize Lb n i=di at *;generalize Lb n k=dk at *
 conv=>whnf
 refine cD q1 F314 (oD ?_);refine cD q2 F314 (oD ?_);constructor<;>intro h
 .rw[h,yG];refine oD ?_;refine⟨E,hk.1,hk.2,?_⟩;rw[hy]
  conv=>whnf
  refine⟨E,hi.1,hi.2,?_⟩;rw[hx]
  conv=>whnf
  refine cD q3 F371 (gL ?_);exact dN
 .rw[h,yF];refine gL ?_;exact dN
abbrev Atg(a b:Int):SV:=.agg [Be a,Aa b]
def Av5(a b:Int)(h:0<=b/\b<=32):Sp 268 [Atg a b] (Ab true):=cT F268 ntmps268 λF hF=>by
 conv=>whnf
 refine⟨λ_=>?_,λh2=>yA (zT h2) q_⟩;refine oO ?_;refine Ar E Aq (zH Ab ?_) E;simp;omega
def Ak1(b:Int):Int:=IntKind.u32.wrap (IntKind.u32.wrap (1*2^(min (32-b).toNat IntKind.u32.bits))-1)
def A0a(a b:Int)(h:0<=b/\b<=32):Sp 269 [Atg a b] (Be (Ak1 b)):=cT F269 ntmps269 λF hF=>by
 conv=>whnf
 refine iW ?_;refine⟨by omega,?_⟩
 conv=>whnf
 exact dN
def Ae1(a b x:Int):Bool:=bits .andNot .u32 (bits .xor .u32 a x) (Ak1 b)==0
def Aea(a b x:Int)(h:0<=b/\b<=32):Sp 315 [Atg a b,Be x] (Ab (Ae1 a b x)):=cT F315 ntmps315 λF hF=>by
 have q1:=Av5 a b h;have q2:=A0a a b h;rw[Ae1];generalize Ak1 b=r at *
 conv=>whnf
 refine cD q1 F268 ?_
 (refine oD ?_;refine aT ?_;refine oD ?_)
 refine cD q2 F269 (gL ?_);exact dN
def Yj(c:Int->Int->Int)(l:List Int)(j:Nat):Int:=((l.drop 1).take j).foldl (λm x=>if 0<c x m then x else m) (nth l 0)
def fK(c:Int->Int->Int)(l:List Int)(j:Nat)(h:j+1<l.length):Yj c l (j+1)=if 0<c l[j+1] (Yj c l j) then l[j+1] else Yj c l j:=by
 have hl:j<(l.drop 1).length:=by rw[yP];omega
 rw[Yj,yD hl,xP];have e:(l.drop 1)[j]=l[j+1]:=by rw[vW];congr 1;omega
 simp only[vP,tP,e];rfl
def Wh(c:Int->Int->Int)(l:List Int)(h:0<l.length):∀j,j+1<=l.length->Yj c l j∈l
 |0,_=>by
  rw[Yj,List.take_zero,tP,Ae (l:=l) (i:=0) (kS h)];exact zI _
 |j+1,hj=>by
  rw[fK c l j q_];split
  .exact zI _
  .exact Wh c l h j q_
def A1a(l:List Int)(c:Int->Int->Int)(f:FuncId)(first cap:List SV)(hc:(SV.clo (.func f) first cap).inn []=true)(h0:0<l.length)(hl:An l)(hf:∀x∈l,∀y∈l,Hg prog f (first++[Aa x,Aa y]++cap) (Aa (c x y))):Sp 318 [.sl 1 Aa l,.clo (.func f) first cap] (Aa (Yj c l (l.length-1))):=cT F318 ntmps318 λF hF=>by
 unfold An at hl;have a6:∀x y:Int,B7 [] (first++[Aa x,Aa y]++cap)=true:=λx y=>Db hc rfl
 have ey:=Wh c l h0;have ag:=fK c l;have hz:Yj c l 0=l[0]:=by rw[Yj,List.take_zero,tP,Ae (l:=l) (i:=0) (kS h0)];rfl
 generalize Yj c l=m at *
 conv=>whnf
 refine⟨λh=>yA (zO h) q_,λ_=>?_⟩;refine oO ?_;refine⟨E,by omega,kS h0,?_⟩
 conv=>whnf
 refine Bg (l.length-1) (λj=>[(0,.sl 1 Aa l),(1,.clo (.func f) first cap),(5,Aa (m j)),(6,Aa ((j:Int)+1))]) (λ_=>[]) []
  ⟨⟨rfl,rfl,Bh _,hc,zH Aa hz,rfl,rfl,rfl,trivial⟩,trivial,rfl,rfl⟩ ?_
 intro j hj;have sj:=ey j q_;have tp:=ag j;refine gH ?_ ?_<;>intro h
 .have ab:j+1<l.length:=qA h;have tp:=tp ab;have hk:((j:Int)+1).toNat<l.length:=by omega
  have e1:l[((j:Int)+1).toNat]'hk=l[j+1]:=by congr 1
  obtain ⟨x,hx⟩:=kE (l[j+1]);have hxm:x∈l:=hx▸zI ab;rw[hx]at e1 tp;refine oO ?_;refine⟨E,by omega,hk,?_⟩;rw[e1]
  conv=>whnf
  refine Ek (hf x hxm (m j) sj) E E E (by simp only[a6];rfl) E E ?_;refine oO ?_;constructor<;>intro h2
  .rw[zE (zO h2)]at tp;refine oO ?_;refine⟨E,by omega,hk,?_⟩;rw[e1]
   conv=>whnf
   refine iW ?_;exact Az [] q_ ⟨⟨E,E,Bh _,hc,zH Aa tp,E,zH Aa q_,E,Y⟩,Y,E,E⟩
  .rw[zD (zT h2)]at tp;refine gF ?_;exact Az [] q_ ⟨⟨E,E,Bh _,hc,zH Aa tp,E,zH Aa q_,E,Y⟩,Y,E,E⟩
 .have:j=l.length-1:=qB h;subst this;exact gI
def Aes(n:Net)(irb i:Int):Int:=if (nth n.irbs i).vrf=(nth n.irbs irb).vrf then 1 else 0
abbrev InIrbs(n:Net)(i:Int):Prop:=0<=i/\i.toNat<n.irbs.length
def Al4(n:Net)(irb i:Int)(hi:InIrbs n i)(hk:InIrbs n irb):Sp 317 [Aa i,.ref 8 (Am n) 0,.ref 1 (Aa irb) 0] (Aa (Aes n irb i)):=cT F317 ntmps317 λF hF=>by
 rw[Aes,Ae hi.2,Ae hk.2];obtain ⟨x,hx⟩:=kE (n.irbs[i.toNat]'hi.2);obtain ⟨y,hy⟩:=kE (n.irbs[irb.toNat]'hk.2);rw[hx,hy]
 conv=>whnf
 refine⟨E,hi.1,hi.2,?_⟩;rw[hx]
 conv=>whnf
 refine⟨E,hk.1,hk.2,?_⟩;rw[hy]
 conv=>whnf
 refine kW ?_;constructor<;>intro h
 .rw[zE (kS h)];exact gI
 .rw[zD (kS h)];exact gI
def aI(n:Net)(irb a b:Int):Int:=if (nth n.irbs a).bits≠(nth n.irbs b).bits then (nth n.irbs a).bits-(nth n.irbs b).bits else Aes n irb a-Aes n irb b
def Aag(n:Net)(irb i:Int):0<=Aes n irb i/\Aes n irb i<=1:=by
 unfold Aes;split<;>omega
def A1j(n:Net)(hb:Ac n=true)(irb a b:Int)(hk:InIrbs n irb)(ha:InIrbs n a)(dy:InIrbs n b):Sp 319 [Aa a,Aa b,.ref 8 (Am n) 0,.ref 1 (.clo (.func 317) [] [.ref 8 (Am n) 0,.ref 1 (Aa irb) 0]) 0] (Aa (aI n irb a b)):=cT F319 ntmps319 λF hF=>by
 have fa:=(Dl hb ha.2).2.2;have fb:=(Dl hb dy.2).2.2;have q1:=Al4 n irb a ha hk;have q2:=Al4 n irb b dy hk;have l1:=Aag n irb a;have l2:=Aag n irb b;rw[aI,Ae ha.2,Ae dy.2];obtain ⟨x,hx⟩:=kE (n.irbs[a.toNat]'ha.2);obtain ⟨y,hy⟩:=kE (n.irbs[b.toNat]'dy.2);rw[hx]at fa|-;rw[hy]at fb|-;generalize Aes n irb a=oa at *;generalize Aes n irb b=ob at *
 conv=>whnf
 refine⟨E,ha.1,ha.2,?_⟩;rw[hx]
 conv=>whnf
 refine⟨E,dy.1,dy.2,?_⟩;rw[hy]
 conv=>whnf
 refine kW ?_;constructor<;>intro h
 .rw[zE (kS h)];refine gF ?_;exact dN
 .rw[zD (kS h)];refine oO ?_;refine Ask ⟨⟨_,_,F317⟩,q1⟩ E E E E z_ E ?_;refine oD ?_;refine Ask ⟨⟨_,_,F317⟩,q2⟩ E E E E z_ E ?_;refine oD ?_;refine iW ?_;refine kW ?_;exact dN
def Oo(n:Net)(irb dst:Int)(i:Nat):Bool:=Lb n i==Lb n irb&&(nth n.irbs i).addr==dst
def Zl(n:Net)(irb dst:Int)(i:Nat):Bool:=Ae1 (nth n.irbs i).addr (nth n.irbs i).bits dst&&Afr n irb i
def Jq(n:Net)(irb dst:Int):List Int:=Ii (Zl n irb dst) n.irbs.length
def lookT(n:Net)(irb dst:Int):Int×Bool :=
 if (List.range n.irbs.length).any (Oo n irb dst)=true then (0,false)
 else if Jq n irb dst=[] then (0,false) else (Yj (aI n irb) (Jq n irb dst) ((Jq n irb dst).length-1),true)
def Ato(n:Net)(hn:n.Fin)(hb:Ac n=true)(irb dst:Int)(hk:InIrbs n irb):Sp 244 [Am n,Aa irb,Be dst] (.tup [Aa (lookT n irb dst).1,Ab (lookT n irb dst).2]):=cT F244 ntmps244 λF hF=>by
 have ak:=lookT.eq_1 n irb dst;generalize lookT n irb dst=r at *;have hsi:=hn.irbs;unfold An at hsi;have qk:=Oa n hb irb hk
 conv=>whnf
 refine Bf 3 8 (Am n) E E E ?_;refine Bf 4 1 (Aa irb) E E E (Ca 8 1000 1 Aa E E ?_);refine Ba n.irbs.length (λj=>∀i,i<j->Oo n irb dst i=false) (λj=>[(2,Be dst),(3,.ref 8 (Am n) 0),(4,.ref 1 (Aa irb) 0),(8,.osl 1000),(13,.sl 5 Cq n.irbs),(14,Aa n.irbs.length),(15,Aa j)]) (λj=>[(1000,.row 1 Aa (Ii (Zl n irb dst) j))]) [] (λi hi=>yA hi q_)
  kU ?_
 intro j hj hI;refine gH ?_ ?_<;>intro h
 .have ab:j<n.irbs.length:=by simpa using h
  have bu:InIrbs n (j:Int):=⟨by omega,kS ab⟩
  have qj:=Oa n hb j bu;have ag:=aA (Zl n irb dst) j;have jl:=Jh (Zl n irb dst) j;have rj:Oo n irb dst j=(Lb n j==Lb n irb&&(nth n.irbs j).addr==dst):=rfl;have hwa:Zl n irb dst j=(Ae1 (nth n.irbs j).addr (nth n.irbs j).bits dst&&Afr n irb j):=rfl;have enj:nth n.irbs (j:Int)=n.irbs[j]:=Ae (l:=n.irbs) (i:=(j:Int)) (kS ab);have hf:=(Dl hb ab).2.2;have e1:n.irbs[(j:Int).toNat]'q_=n.irbs[j]:=rfl;rw[enj]at rj hwa;obtain ⟨x,hx⟩:=kE (n.irbs[j]);rw[hx]at e1 rj hwa hf;have q1:=Aea x.addr x.bits dst hf;have q2:=Apw n hn hb irb j hk bu;rw[hwa]at ag;obtain ⟨u,hu⟩:=kE (Ii (Zl n irb dst) j);rw[hu]at ag jl|-;refine oO ?_;refine⟨E,by omega,by omega,?_⟩;rw[e1]
  conv=>whnf
  refine cD qj F314 (oD ?_);refine cD qk F314 (oD ?_);constructor<;>intro h2
  .rw[h2,yG]at rj;refine gL ?_;constructor<;>intro h3
   .have:(List.range n.irbs.length).any (Oo n irb dst)=true:=xY.2 ⟨j,kS ab,rj.trans h3⟩;rw[zE this]at ak;subst ak;exact gI
   .have mi:=rj.trans h3;refine oO ?_;refine gE q1 F315 ?_;constructor<;>intro h4
    .rw[h4,yG]at ag;refine oO ?_;refine gE q2 F316 ?_;constructor<;>intro h5
     .rw[zE h5]at ag;refine oO ?_;refine Aj (Ah Γ.toTy 47 E E E E E (.row E) (.lit (e:=Aa) (l:=[(j:Int)]) E E) y_ kO kO) E E (gF ?_);exact A8 [(1000,47)] hI ab (λi hi=>if e:i=j then (by rw[e];exact mi) else hI i q_) ⟨kA,⟨.inl (zH (Ob.row 1 Aa) ag),E,Y⟩,E,E⟩
     .rw[zD (by simp[h5])]at ag;refine gF ?_;exact A8 [] hI ab (λi hi=>if e:i=j then (by rw[e];exact mi) else hI i q_) ⟨kA,⟨.inl (zH (Ob.row 1 Aa) ag),E,Y⟩,E,E⟩
    .rw[zD (by simp[h4])]at ag;refine oF ?_;refine iW ?_;exact A8 [] hI ab (λi hi=>if e:i=j then (by rw[e];exact mi) else hI i q_) ⟨kA,⟨.inl (zH (Ob.row 1 Aa) ag),E,Y⟩,E,E⟩
  .have mi:Oo n irb dst j=false:=by rw[rj,h2,yF]
   refine oD ?_;refine⟨z_,?_⟩
   ((conv=>whnf);refine aF ?_;refine rg ?_;conv=>whnf)
   refine gE q1 F315 ?_;constructor<;>intro h4
   .rw[h4,yG]at ag;refine oO ?_;refine gE q2 F316 ?_;constructor<;>intro h5
    .rw[zE h5]at ag;refine oO ?_;refine Aj (Ah Γ.toTy 47 E E E E E (.row E) (.lit (e:=Aa) (l:=[(j:Int)]) E E) y_ kO kO) E E (gF ?_);exact A8 [(1000,47)] hI ab (λi hi=>if e:i=j then (by rw[e];exact mi) else hI i q_) ⟨kA,⟨.inl (zH (Ob.row 1 Aa) ag),E,Y⟩,E,E⟩
    .rw[zD (by simp[h5])]at ag;refine gF ?_;exact A8 [] hI ab (λi hi=>if e:i=j then (by rw[e];exact mi) else hI i q_) ⟨kA,⟨.inl (zH (Ob.row 1 Aa) ag),E,Y⟩,E,E⟩
   .rw[zD (by simp[h4])]at ag;refine oF ?_;refine iW ?_;exact A8 [] hI ab (λi hi=>if e:i=j then (by rw[e];exact mi) else hI i q_) ⟨kA,⟨.inl (zH (Ob.row 1 Aa) ag),E,Y⟩,E,E⟩
 .have:j=n.irbs.length:=qB h;subst this;have cw:¬(List.range n.irbs.length).any (Oo n irb dst)=true:=λh=>by
   obtain ⟨i,h1,h2⟩:=xY.1 h;rw[hI i (kS h1)]at h2;cases h2
  rw[zD cw]at ak;have a6:∀y∈Jq n irb dst,InIrbs n y:=λy hy=>by
   have:=(filtI_mem (p:=Zl n irb dst) (j:=n.irbs.length)).1 hy;exact⟨this.1,by omega⟩
  have iz:=Jh (Zl n irb dst) n.irbs.length;have hwe:Ii (Zl n irb dst) n.irbs.length=Jq n irb dst:=rfl;rw[hwe]at iz|-;have q:∀h0:0<(Jq n irb dst).length,_:=λh0=>A1a (Jq n irb dst) (aI n irb) 319 [] [.ref 8 (Am n) 0,.ref 1 (.clo (.func 317) [] [.ref 8 (Am n) 0,.ref 1 (Aa irb) 0]) 0] rfl h0 (by unfold An;omega) (λy hy z hz=>⟨⟨_,_,F319⟩,A1j n hb irb y z hk (a6 y hy) (a6 z hz)⟩)
  generalize Jq n irb dst=l at *;refine Ai 1000 E (oO ?_);constructor<;>intro h3
  .have h4:l=[]:=by simpa using h3
   rw[zE h4]at ak;subst ak;exact gI
  .have h4:¬l=[]:=by simpa using h3
   rw[zD h4]at ak;have q:=q (xS.2 h4);subst ak;refine oO ?_;refine Bf 11 1 (.clo (.func 317) [] [.ref 8 (Am n) 0,.ref 1 (Aa irb) 0]) E E E (oO ?_);refine gE q F318 ?_;exact dN
def Ah6(n:Net)(hn:n.Fin)(hb:Ac n=true)(irb dst:Int)(hk:InIrbs n irb):Sp 332 [Am n,Aa irb,Be dst] (.tup [Aa (lookT n irb dst).1,Ab (lookT n irb dst).2]):=cT F332 ntmps332 λF hF=>by
 have hr:=A2 n hn;rw[hb]at hr;have q:=Ato n hn hb irb dst hk;generalize lookT n irb dst=r at *;refine fW ?_;refine⟨λh=>yA (zO h) q_,λ_=>?_⟩;refine fU ?_;refine⟨λh=>yA (zO h) q_,λ_=>?_⟩;refine gM hr F39 ?_;refine gM q F244 ?_;exact gD
def Wj{n:Net}{irb dst:Int}(h:(lookT n irb dst).2=true):InIrbs n (lookT n irb dst).1:=by
 unfold lookT at h|-;split at h
 .cases h
 rename_i h1;rw[zD h1];split at h
 .cases h
 rename_i h2;rw[zD h2];have hm:=Wh (aI n irb) (Jq n irb dst) (xS.2 h2) ((Jq n irb dst).length-1) (by have:=xS.2 h2;omega);have:=(filtI_mem (p:=Zl n irb dst) (j:=n.irbs.length)).1 hm;exact⟨this.1,by omega⟩
end
end Go.Sy.Zaa
