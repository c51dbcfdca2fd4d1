/- Parts of a proof. -/
import Derived.Test.YticmobkdaneelaaGreatDoorYE7
set_option linter.all false
set_option linter.unusedVariables false
set_option linter.unusedSimpArgs false
set_option linter.deprecated false
namespace Go.Sy.YticmobkdaneelaaGreatDoor
open Go.Proofs Go.Proofs.Tryz
attribute [local irreducible] Go.Sy.G Go.Sy.DR
set_option maxRecDepth 100000
set_option maxHeartbeats 4000000
def Mx(a bits:Int):SV:=.agg [Bb a,Aa bits]
def Ag1(a bits:Int):Sp 176 [Mx a bits] (Ab (decide (0≤bits∧bits≤32))):=cT F176 ntmps176 λF hF=>by
 conv=>whnf
 (repeat' (first|(refine⟨λh=>?_,λh=>?_⟩<;>(repeat (first|simp only[zJ]at h|simp only[zX]at h))<;>((refine oO ?_)))|(refine At rfl (.cons .tmp .nil) ?_ rfl)))
 all_goals (refine zH Ab ?_;clear hF;grind)
def Aj3(a bits:Int)(h:0≤bits∧bits≤32):Sp 177 [Mx a bits] (Bb (2^(32-bits).toNat-1)):=cT F177 ntmps177 λF hF=>by
 conv=>whnf
 refine iW ?_;refine⟨by omega,?_⟩
 conv=>whnf
 refine At E (.cons .tmp .nil) ?_ E;refine zH (λz=>SV.val (.int .u32 z)) ?_;obtain ⟨k,hk,dg⟩:∃k:Nat,(32-bits).toNat=k∧k≤32:=⟨_,rfl,by omega⟩
 have h1:min (32-bits).toNat IntKind.u32.bits=k:=by show min (32-bits).toNat 32=k;omega
 rw[h1,hk,IntKind.wrap_u32,IntKind.wrap_u32];have h2:(2:Int)^k≤4294967296:=by
  have:=wY (n:=2) j_ dg;rw[show (2:Int)^k=((2^k:Nat):Int) by rw[uX];rfl];have e:(2:Nat)^32=4294967296:=rfl;rw[e]at this;omega
 have h0:(1:Int)≤2^k:=by
  have:=wZ (n:=k);rw[show (2:Int)^k=((2^k:Nat):Int) by rw[uX];rfl];omega
 generalize (2:Int)^k=q at *;omega
def Agy(a k:Nat)(ha:a<4294967296)(hk:k≤32):bits .andNot .u32 (a:Int) ((2^k-1:Nat):Int)=((a-a%2^k:Nat):Int):=by
 have hp:=wY (n:=2) j_ hk;have vf:(2:Nat)^32=4294967296:=rfl;rw[vf]at hp;have h1:=wZ (n:=k);have x1:(BitVec.ofInt 32 (a:Int)).toNat=a:=by rw[BitVec.ofInt_natCast,BitVec.toNat_ofNat];exact xH q_
 have x2:(BitVec.ofInt 32 ((2^k-1:Nat):Int)).toNat=2^k-1:=by rw[BitVec.ofInt_natCast,BitVec.toNat_ofNat];exact xH q_
 have key:(BitVec.ofInt 32 (a:Int) &&& ~~~ BitVec.ofInt 32 ((2^k-1:Nat):Int)).toNat=a-a%2^k:=by
  have hd:a-a%2^k=2^k*(a/2^k):=by have:=vX a (2^k);omega
  rw[hd];refine Nat.eq_of_testBit_eq λi=>?_
  rw[BitVec.testBit_toNat,BitVec.getLsbD_and,BitVec.getLsbD_not,←BitVec.testBit_toNat,←BitVec.testBit_toNat,x1,x2,Nat.testBit_two_pow_sub_one,Nat.testBit_two_pow_mul,Nat.testBit_div_two_pow];by_cases hi:i<k
  ·have:¬i≥k:=by omega
   simp[hi,this]
  ·have h2:i≥k:=by omega
   have h3:i-k+k=i:=by omega
   by_cases h4:i<32
   ·simp[hi,h2,h4,h3]
   ·have h5:a.testBit i=false:=Nat.testBit_lt_two_pow (yV (by rw[←vf]at ha;exact ha) (wY j_ q_));rw[h3,h5];simp
 show IntKind.u32.wrap (((BitVec.ofInt 32 (a:Int) &&& ~~~ BitVec.ofInt 32 ((2^k-1:Nat):Int)).toNat:Nat):Int)=_;rw[key,IntKind.wrap_u32];omega
def K8(a k:Nat)(bits:Int)(h:0≤bits∧bits≤32)(hk:(32-bits).toNat=k):Dg a bits=((a-a%2^k:Nat):Int):=by
 rw[Dg,zG h,hk];have h1:=Nat.mod_le a (2^k);rw[show (2:Int)^k=((2^k:Nat):Int) by rw[uX];rfl];omega
def Yn(a:Nat)(bits:Int)(ha:a<4294967296):Sp 130 [Mx a bits] (Bb (Dg a bits)):=cT F130 ntmps130 λF hF=>by
 have hr:=Ag1 a bits;by_cases hb:0≤bits∧bits≤32
 ·have da:=Aj3 a bits hb;rw[zO hb]at hr;obtain ⟨k,hk,dg⟩:∃k:Nat,(32-bits).toNat=k∧k≤32:=⟨_,rfl,by omega⟩
  have hn:=Agy a k ha dg;have hf:=K8 a k bits hb hk;have h1:=wZ (n:=k);have e2:(2:Int)^k-1=((2^k-1:Nat):Int):=by
   rw[show (2:Int)^k=((2^k:Nat):Int) by rw[uX];rfl];omega
  rw[hk,e2]at da;rw[hf,←hn];refine fW ?_;refine c0 hr F176 ?_;refine fU ?_
  first|refine cD da F177 ?_|refine c0 da F177 ?_
  refine fU ?_
  first|(refine⟨z_,?_⟩;(refine fW ?_))|skip
  exact dN
 ·rw[zL hb]at hr;have hf:Dg a bits=0:=by rw[Dg,zD hb]
  rw[hf];refine fW ?_;refine c0 hr F176 ?_;exact gC
def Hz(a bits:Int):Int:=if 0≤bits∧bits≤32 then Dg a bits+2^(32-bits).toNat-1 else 0
def or_low(a k:Nat)(ha:a<4294967296)(hk:k≤32):bits .or .u32 (a:Int) ((2^k-1:Nat):Int)=((a-a%2^k+(2^k-1):Nat):Int):=by
 have hp:=wY (n:=2) j_ hk;have vf:(2:Nat)^32=4294967296:=rfl;rw[vf]at hp;have h1:=wZ (n:=k);have x1:(BitVec.ofInt 32 (a:Int)).toNat=a:=by rw[BitVec.ofInt_natCast,BitVec.toNat_ofNat];exact xH q_
 have x2:(BitVec.ofInt 32 ((2^k-1:Nat):Int)).toNat=2^k-1:=by rw[BitVec.ofInt_natCast,BitVec.toNat_ofNat];exact xH q_
 have hd:a-a%2^k=2^k*(a/2^k):=by have:=vX a (2^k);omega
 have lg:=xQ (i:=k) (b:=2^k-1) q_ (a/2^k);have key:(BitVec.ofInt 32 (a:Int)|||BitVec.ofInt 32 ((2^k-1:Nat):Int)).toNat=a-a%2^k+(2^k-1):=by
  rw[hd,lg];refine Nat.eq_of_testBit_eq λi=>?_
  rw[BitVec.testBit_toNat,BitVec.getLsbD_or,←BitVec.testBit_toNat,←BitVec.testBit_toNat,x1,x2,Nat.testBit_or,Nat.testBit_two_pow_sub_one,Nat.testBit_two_pow_mul,Nat.testBit_div_two_pow];by_cases hi:i<k
  ·simp[hi]
  ·have h2:i≥k:=by omega
   have h3:i-k+k=i:=by omega
   simp[hi,h2,h3]
 show IntKind.u32.wrap (((BitVec.ofInt 32 (a:Int)|||BitVec.ofInt 32 ((2^k-1:Nat):Int)).toNat:Nat):Int)=_;have ab:(BitVec.ofInt 32 (a:Int)|||BitVec.ofInt 32 ((2^k-1:Nat):Int)).toNat<4294967296:=BitVec.isLt _;rw[key]at ab;rw[key,IntKind.wrap_u32];omega
def Aa7(a k:Nat)(bits:Int)(h:0≤bits∧bits≤32)(hk:(32-bits).toNat=k):Hz a bits=((a-a%2^k+(2^k-1):Nat):Int):=by
 rw[Hz,zG h,hk,K8 a k bits h hk];have h1:=wZ (n:=k);rw[show (2:Int)^k=((2^k:Nat):Int) by rw[uX];rfl];omega
def Abp(a:Nat)(bits:Int)(ha:a<4294967296):Sp 131 [Mx a bits] (Bb (Hz a bits)):=cT F131 ntmps131 λF hF=>by
 have hr:=Ag1 a bits;by_cases hb:0≤bits∧bits≤32
 ·have da:=Aj3 a bits hb;rw[zO hb]at hr;obtain ⟨k,hk,dg⟩:∃k:Nat,(32-bits).toNat=k∧k≤32:=⟨_,rfl,by omega⟩
  have hn:=or_low a k ha dg;have hf:=Aa7 a k bits hb hk;have h1:=wZ (n:=k);have e2:(2:Int)^k-1=((2^k-1:Nat):Int):=by
   rw[show (2:Int)^k=((2^k:Nat):Int) by rw[uX];rfl];omega
  rw[hk,e2]at da;rw[hf,←hn];refine fW ?_;refine c0 hr F176 ?_;refine fU ?_
  first|refine cD da F177 ?_|refine c0 da F177 ?_
  refine fU ?_
  first|(refine⟨z_,?_⟩;(refine fW ?_))|skip
  exact dN
 ·rw[zL hb]at hr;have hf:Hz a bits=0:=by rw[Hz,zD hb]
  rw[hf];refine fW ?_;refine c0 hr F176 ?_;exact gC
def A4q(a b:Nat)(ha:a<4294967296)(hb:b<4294967296):bits .xor .u32 (a:Int) (b:Int)=((a^^^b:Nat):Int):=by
 have x1:(BitVec.ofInt 32 (a:Int)).toNat=a:=by rw[BitVec.ofInt_natCast,BitVec.toNat_ofNat];exact xH q_
 have x2:(BitVec.ofInt 32 (b:Int)).toNat=b:=by rw[BitVec.ofInt_natCast,BitVec.toNat_ofNat];exact xH q_
 show IntKind.u32.wrap (((BitVec.ofInt 32 (a:Int)^^^BitVec.ofInt 32 (b:Int)).toNat:Nat):Int)=_;have ab:(BitVec.ofInt 32 (a:Int)^^^BitVec.ofInt 32 (b:Int)).toNat<4294967296:=BitVec.isLt _;rw[BitVec.toNat_xor,x1,x2]at ab⊢;rw[IntKind.wrap_u32];omega
def A2e(a x k:Nat)(ha:a<4294967296)(hx:x<4294967296)(hk:k≤32):(bits .andNot .u32 (bits .xor .u32 (a:Int) (x:Int)) ((2^k-1:Nat):Int)==0)=decide (a/2^k=x/2^k):=by
 have hxl:a^^^x<4294967296:=Nat.xor_lt_two_pow (n:=32) ha hx;rw[A4q a x ha hx,Agy _ k hxl hk];have hd:(a^^^x)-(a^^^x)%2^k=2^k*((a^^^x)/2^k):=by have:=vX (a^^^x) (2^k);omega
 rw[hd,Nat.xor_div_two_pow];have h1:=wZ (n:=k);by_cases h:a/2^k=x/2^k
 ·rw[h,Nat.xor_self];simp
 ·rw[zL h];have:a / 2 ^ k ^^^ x / 2 ^ k≠0:=λ e=>h (by
   have:=zH (λ z=>z ^^^ x / 2 ^ k) e;simpa [Nat.xor_assoc] using this)
  rw[zR];intro e;have e:=Int.natCast_eq_zero.1 e;rcases Nat.mul_eq_zero.1 e with e|e
  ·omega
  ·exact this e
def Aw5(a x q:Nat)(hq:0<q):(a/q=x/q)↔(a-a%q≤x∧x≤a-a%q+(q-1)):=by
 have h1:=vX a q;have hd:a-a%q=q*(a/q):=by omega
 rw[hd];constructor
 ·intro e;have h2:=vX x q;have h3:=tW x hq;rw[←e]at h2;omega
 ·rintro ⟨h2,h3⟩;symm;rw[Nat.div_eq_iff hq];generalize a/q=m at *;have:q*m=m*q:=vB ..;constructor<;>omega
def Dr(n:Net):Prop:=∀x∈n.irbs,0≤x.addr∧x.addr<4294967296
end Go.Sy.YticmobkdaneelaaGreatDoor
namespace Go.Sy.YticmobkdaneelaaGreatDoor
open Go.Proofs Go.Proofs.Tryz
def Ls(c:UInt8)(l:List UInt8):Nat:=(Lib.indexByte l c).toNat
def Cz(c:UInt8)(l:List UInt8):Nat→List UInt8
 |0=>l
 |j+1=>(Cz c l j).drop (Ls c (Cz c l j)+1)
def Ut(c:UInt8)(l:List UInt8)(j:Nat):List UInt8:=(Cz c l j).take (Ls c (Cz c l j))
def mkT(l:List UInt8):ByteArray:=⟨l.toArray⟩
def Ct(c:UInt8)(s:ByteArray):List ByteArray :=
 (List.range (s.data.toList.count c)).map (λj=>mkT (Ut c s.data.toList j))++[mkT (Cz c s.data.toList (s.data.toList.count c))]
def J2:∀{l:List UInt8} {c:UInt8},c∈l→0≤Lib.indexByte l c∧(Lib.indexByte l c).toNat<l.length
 |b::l,c,h=>by
  unfold Lib.indexByte;by_cases hb:b==c
  ·rw[zG hb];simp
  ·rw[zD hb];have mu:c∈l:=by
    rcases yH.1 h with h|h
    ·exact zY (by simp[h]) hb
    ·exact h
   have:=J2 mu;rw[zD (by simp;omega)];simp only[yL];omega
def Td:∀{l:List UInt8} {c:UInt8},c∈l→(l.drop (Ls c l+1)).count c+1=l.count c
 |b::l,c,h=>by
  unfold Ls Lib.indexByte;by_cases hb:b==c
  ·rw[zG hb,List.count_cons,zG hb];simp
  ·rw[zD hb];have mu:c∈l:=by
    rcases yH.1 h with h|h
    ·exact zY (by simp[h]) hb
    ·exact h
   have h1:=J2 mu;rw[zD (by simp;omega),List.count_cons,zD hb,Nat.add_zero,←Td mu];have e:(Lib.indexByte l c+1).toNat=Ls c l+1:=by unfold Ls;omega
   rw[e,List.drop_succ_cons]
def Yh(c:UInt8)(l:List UInt8):∀j,j≤l.count c→(Cz c l j).count c+j=l.count c
 |0,_=>rfl
 |j+1,h=>by
  have ih:=Yh c l j q_;have mu:c∈Cz c l j:=List.count_pos_iff.1 q_;have:=Td mu;rw[Cz];omega
def Ar3{c:UInt8}{l:List UInt8}{j:Nat}(h:j<l.count c):c∈Cz c l j :=
 List.count_pos_iff.1 (by have:=Yh c l j q_;omega)
def At9(c:UInt8)(s:ByteArray):Nat:=s.data.toList.count c
def Lc(c:UInt8)(s:ByteArray):(Ct c s).length=At9 c s+1:=by simp only[Ct,zW,xF,tU,yC];rfl
def Ane(c:UInt8)(l:List UInt8):∀j,(Cz c l j).length≤l.length
 |0=>yG _
 |j+1=>by rw[Cz,yO];have:=Ane c l j;omega
def Agc{a b:ByteArray}(h:a.data.toList=b.data.toList):a=b:=by
 cases a;cases b;simp only[ByteArray.mk.injEq];exact Array.toList_inj.1 h
def Ip(l:List UInt8):(mkT l).size=l.length:=by simp[mkT,ByteArray.size]
def Kg(l:List UInt8):(mkT l).data.toList=l:=by simp[mkT]
def Eu(l:List UInt8)(i j:Nat):(mkT l).extract i j=mkT ((l.take j).drop i):=by
 apply Agc;simp[mkT,ByteArray.data_extract,List.extract_eq_take_drop,List.drop_take]
def Kf(s:ByteArray):mkT s.data.toList=s:=Agc (by simp[mkT])
def A1c{c:UInt8}{s:ByteArray}{j m:Nat}(h:Lib.indexByte (Cz c s.data.toList j) c=m):Ut c s.data.toList j=(Cz c s.data.toList j).take m:=by
 rw[Ut,Ls,h,zU]
def A45{c:UInt8}{s:ByteArray}{j m:Nat}(h:Lib.indexByte (Cz c s.data.toList j) c=m):Cz c s.data.toList (j+1)=(Cz c s.data.toList j).drop (m+1):=by
 rw[Cz,Ls,h,zU]
def Tz{α:Type}(l:List α)(j:Nat):List α:=List.ofFn λi:Fin l.length=>if i.1<j∨l.length-j≤i.1 then l[l.length-1-i.1] else l[i.1]
def Dx{α:Type}(l:List α)(j:Nat):(Tz l j).length=l.length:=by simp[Tz]
def Qn{α:Type}(l:List α)(j i:Nat)(h:i<l.length):(Tz l j)[i]'(by rw[Dx];exact h)=if i<j∨l.length-j≤i then l[l.length-1-i] else l[i]:=by simp[Tz]
def Aax{α:Type}(l:List α):Tz l 0=l:=by
 apply tH (Dx l 0);intro i h1 h2;rw[Qn l 0 i h2,zD q_]
def Aew{α:Type}(l:List α)(j:Nat)(h:l.length≤2*j+1):Tz l j=l.reverse:=by
 apply tH (by rw[Dx,List.length_reverse]);intro i h1 h2;have hi:i<l.length:=by rw[Dx]at h1;exact h1
 rw[Qn l j i hi,List.getElem_reverse];split
 ·rfl
 ·congr 1;omega
def Axb{α:Type}(l:List α)(j:Nat)(h:2*j+1<l.length):((Tz l j).set j ((Tz l j)[l.length-1-j]'(by rw[Dx];omega))).set (l.length-1-j) ((Tz l j)[j]'(by rw[Dx];omega))=Tz l (j+1):=by
 apply tH (by simp only[yR,Dx]);intro i h1 h2;have hi:i<l.length:=by rw[Dx]at h2;exact h2
 rw[vQ,vQ,Qn l (j+1) i hi,Qn l j i hi,Qn l j _ q_,Qn l j _ q_];by_cases e1:l.length-1-j=i
 ·rw[zG e1,zD q_,zG q_];congr 1;omega
 ·rw[zD e1];by_cases e2:j=i
  ·rw[zG e2,zD q_,zG q_];congr 1;omega
  ·rw[zD e2];by_cases e3:i<j∨l.length-j≤i
   ·rw[zG e3,zG q_]
   ·rw[zD e3,zD q_]
def Aay{α:Type}{l u:List α}{j k:Nat}(hu:Tz l j=u)(h:2*j+1<l.length)(hk:l.length-1-j=k)(h1:k<u.length)(h2:j<u.length):(u.set j u[k]).set k u[j]=Tz l (j+1):=by
 subst hu hk;exact Axb l j h
def revDigs(u:Nat):List UInt8:=if u<10 then [UInt8.ofNat (48+u)] else UInt8.ofNat (48+u%10)::revDigs (u/10)
def Uh(u:Nat):0<(revDigs u).length:=by
 rw[revDigs];split<;>simp
def Ui:∀(j u:Nat),j+1<(revDigs u).length↔0<u/10^(j+1)
 |0,u=>by
  rw[revDigs];split
  ·simp;omega
  ·have:=Uh (u/10);simp only[yL];omega
 |j+1,u=>by
  rw[revDigs];have e:u/10^(j+1+1)=u/10/10^(j+1):=by rw[uP,tN 10 (j+1),vB (10^(j+1))]
  rw[e];split
  ·have:u/10=0:=by omega
   rw[this];simp
  ·rw[yL,←Ui j (u/10)];omega
def Uj:∀(j u:Nat) (h:j<(revDigs u).length),(revDigs u)[j]=UInt8.ofNat (48+u/10^j%10)
 |0,u,h=>by
  have e:(revDigs u)[0]=UInt8.ofNat (48+u%10):=by
   simp only[revDigs.eq_1 u];split
   ·show UInt8.ofNat (48+u)=UInt8.ofNat (48+u%10);rw[xH (by assumption)]
   ·rfl
  rw[e];simp
 |j+1,u,h=>by
  have hu:¬u<10:=λhu=>by rw[revDigs,zG hu]at h;simp at h
  have e0:revDigs u=UInt8.ofNat (48+u%10)::revDigs (u/10):=by rw[revDigs.eq_1 u,zD hu]
  have e:u/10^(j+1)=u/10/10^j:=by rw[uP,tN,vB]
  have hl:j<(revDigs (u/10)).length:=by rw[e0]at h;simpa using h
  have:=Uj j (u/10) hl;rw[e,←this];simp only[e0,tO]
def O7:∀(k u:Nat),u<10^k→(revDigs u).length≤k+1
 |0,u,h=>by rw[revDigs,zG (by simp at h;omega)];simp
 |k+1,u,h=>by
  rw[revDigs];split
  ·simp
  ·have:=O7 k (u/10) (by rw[tN]at h;omega);simp only[yL];omega
def A1v(n:Int):List UInt8:=(revDigs n.natAbs++(if n<0 then [45] else [])).reverse
def An3(n:Int):ByteArray:=mkT (A1v n)
def A1u(m:Nat):A1v m=(revDigs m).reverse:=by
 rw[A1v,Int.natAbs_natCast,zD q_,xC]
set_option maxRecDepth 20000 in
def A1s(m:Nat)(hb:m<9223372036854775808):Sp 169 [Aa m] (Aw (An3 m)):=cT F169 ntmps169 λF hF=>by
 have gl:=Uh m;have hlen:=λj=>Ui j m
 have bf:=λj=>Uj j m
 have nn:(revDigs m).length≤20:=O7 19 m q_;rw[An3,A1u];generalize revDigs m=D at *;refine fW ?_;refine B7 3 1000 1 Al E E ?_;refine A5 D.length (λj=>[(0,Aa m),(3,.osl 1000),(4,A2 (m/10^j:Nat)),(5,Ab (decide (j<D.length)))]) (λj=>[(1000,.row 1 Al (D.take j))]) []
  ⟨⟨rfl,rfl,rfl,rfl,zH (λz=>SV.val (.int .u64 z)) (by rw[IntKind.wrap_u64];omega),rfl,zH Ab (zO gl),rfl,trivial⟩,⟨.inl rfl,rfl,trivial⟩,rfl,rfl⟩ ?_
 intro j hj;refine fU ?_;constructor<;>intro h
 ·have ab:j<D.length:=zK h;have zq:=bf j ab;have zr:=hlen j;have e:m/10^(j+1)=m/10^j/10:=by rw[uP,tN]
  have hq:m/10^j≤m:=Nat.div_le_self _ _;rw[e]at zr;refine fU ?_;refine⟨by decide,?_⟩;refine fW ?_;refine Af (Ag Γ.toTy 23 E E E E E (.row E) (.lit (l:=[D[j]]) E ?_) y_ ?_ ?_) E E ?_
  ·rw[zq];simp only[xV,vG,Al];congr 3;generalize m/10^j=q at *;rw[uR (vP _),IntKind.wrap_u64,IntKind.wrap_u8];simp
  ·simp;omega
  ·simp;omega
  refine fU ?_;refine⟨by decide,?_⟩;refine fW ?_;refine Ay [(1000,23)] ab ⟨⟨E,E,E,E,zH (λz=>SV.val (.int .u64 z)) ?_,E,zH Ab ?_,E,Y⟩,⟨.inl (zH (Ob.row 1 Al) (yD ab)),E,Y⟩,E,E⟩
  ·rw[e,vU (vP _),IntKind.wrap_u64];generalize m/10^j=q at *;omega
  ·rw[vU (vP _),IntKind.wrap_u64];generalize m/10^j=q at *;refine decide_eq_decide.2 ?_;omega
 ·have:j=D.length:=qB h;subst this;rw[yN];refine gG ?_;refine A5 (D.length/2) (λj=>[(3,.osl 1000),(6,Aa j),(7,Aa (D.length-1-j:Nat))]) (λj=>[(1000,.row 1 Al (Tz D j))]) []
   ⟨⟨rfl,rfl,rfl,rfl,zH (λz=>SV.val (.int .i64 z)) q_,rfl,trivial⟩,⟨.inl (zH (Ob.row 1 Al) (Aax D)),rfl,trivial⟩,rfl,rfl⟩ ?_
  intro i hi;have mq:=Dx D i;refine fU ?_;constructor<;>intro h2
  ·have ab:2*i+1<D.length:=by have:=zK h2;omega
   obtain ⟨u,hu⟩:∃u,Tz D i=u:=⟨_,rfl⟩
   obtain ⟨k,hk⟩:∃k,D.length-1-i=k:=⟨_,rfl⟩
   rw[hu]at mq;have hs:=Aay hu ab hk q_ q_;rw[hu,hk];refine fU ?_;refine⟨by omega,by omega,?_⟩;refine fW ?_;refine⟨E,by omega,?_⟩;refine fW ?_;refine⟨by omega,by omega,?_⟩;refine fW ?_;refine⟨E,by omega,?_⟩;refine fW ?_;refine⟨by omega,by omega,?_⟩;refine fW ?_;refine⟨E,by omega,u[k],E,E,?_⟩;refine fW ?_;refine⟨by omega,by simp;omega,?_⟩;refine fW ?_;refine⟨E,by simp;omega,u[i],E,E,?_⟩;refine fW ?_;refine⟨z_,?_⟩;refine gI ?_;refine iL ?_;refine fW ?_;refine Ay [] q_ ⟨⟨E,E,E,E,zH (λz=>SV.val (.int .i64 z)) q_,E,Y⟩,⟨.inl (zH (Ob.row 1 Al) hs.symm),E,Y⟩,E,E⟩
  ·have h3:D.length≤2*i+1:=by have:=zQ h2;omega
   rw[Aew D i h3];refine fU ?_;refine Af (Kn Γ.toTy (bs:=D.reverse) E E E E E E E (.row E)) E E ?_;exact gC
attribute [local irreducible] Go.Sy.G Go.Sy.DR
set_option maxRecDepth 20000
set_option maxHeartbeats 4000000
def A3o{n:Net}(h:Ac n=true){i:Nat}(hi:i<n.ports.length):Jd n i n.ports[i]=true:=by
 simp only[Ac,zE]at h;exact allB_iff.1 h.1.1.1.1.1.2 i hi
def e_dom{n:Net}(h:Ac n=true){i:Nat}(hi:i<n.domains.length):O1 n i n.domains[i]=true:=by
 simp only[Ac,zE]at h;exact allB_iff.1 h.1.1.1.1.1.1.1.2 i hi
def Avv{n:Net}(h:Ac n=true):n.devices.length≤8∧n.ports.length≤40∧n.links.length≤20∧n.domains.length≤48∧n.irbs.length≤48:=by
 simp only[Ac,Aga,zE,zJ]at h;omega
def J4{n:Net}(h:Ac n=true){i:Nat}(hi:i<n.domains.length):(0≤n.domains[i].dev∧n.domains[i].dev.toNat<n.devices.length)∧(1≤n.domains[i].vlan∧n.domains[i].vlan≤4094)∧(0≤n.domains[i].vni∧n.domains[i].vni≤16777215)∧(n.domains[i].irb=-1∨0≤n.domains[i].irb∧n.domains[i].irb.toNat<n.irbs.length):=by
 have:=e_dom h hi;simp only[O1,Ah,zE,yM,zJ,yJ]at this;omega
def Ih(p:Nat→Bool)(j:Nat):List Int:=((List.range j).filter p).map Int.ofNat
def X9(p:Nat→Bool)(j:Nat):Ih p (j+1)=if p j=true then Ih p j++[(j:Int)] else Ih p j:=by
 rw[Ih,wV,List.filter_append,wU];split
 ·rename_i h;rw[vR (by exact h),List.filter_nil];rfl
 ·rename_i h;rw[uL (by exact h),List.filter_nil,vG,xC];rfl
def Iz(p:Nat→Bool)(j:Nat):(Ih p j).length≤j:=by
 have:=uT p (List.range j);simpa [Ih] using this
def filtI_mem{p:Nat→Bool}{j:Nat}{x:Int}:x∈Ih p j↔0≤x∧x<j∧p x.toNat=true:=by
 simp only[Ih,yS,tR,xA];constructor
 ·rintro ⟨i,h1,rfl⟩;exact⟨vP i,by simp;omega,h1.2⟩
 ·rintro ⟨h1,h2,h3⟩;exact⟨x.toNat,⟨by omega,h3⟩,xD h1⟩
def Ts(n:Net)(d:Domain)(i:Nat):Bool:=(nth n.ports i).dev==d.dev&&Dl (nth n.ports i) d.vlan
def Bk(n:Net)(i:Int):List Int:=Ih (Ts n (nth n.domains i)) n.ports.length
def Bn(n:Net)(i:Int):List Int:=if (0≤i∧i<n.domains.length)∧Ac n=true then Bk n i else []
def Kh(n:Net)(hn:n.Fin)(i:Int):An (Bn n i):=by
 have:=hn.ports;unfold An at this⊢;unfold Bn;split
 ·have:=Iz (Ts n (nth n.domains i)) n.ports.length;unfold Bk;omega
 ·simp
def Qc(n:Net)(hn:n.Fin)(i:Int):Sp 39 [Am n,Aa i] (.sl 1 Aa (Bn n i)):=cT F39 ntmps39 λF hF=>by
 have hr:=A1 n hn;have bh:=Lf 6 As n.domains i;have yf:=hn.ports;unfold An at yf
 conv=>whnf
 refine c0 hr F22 ?_;cases hb:Ac n
 ·rw[Bn,zD (by simp[hb])]
  (refine oT ?_;refine bT ?_)
  refine Au 4 1 Aa E ?_;exact gE
 refine oF ?_;refine c0 bh F105 ?_;by_cases hi:0≤i∧i<n.domains.length;rotate_left
 ·have h0:Ah i n.domains.length=false:=by simp only[Ah,yQ,zX];omega
  rw[Bn,zD (by simp[hb,hi]),h0];refine oT ?_;refine Au 4 1 Aa E ?_;exact gE
 have h0:Ah i n.domains.length=true:=by simp only[Ah,zE,zJ];exact hi
 rw[Bn,zG ⟨hi,hb⟩,h0];have hk:i.toNat<n.domains.length:=by omega
 have hf:=J4 hb hk;have e1:nth n.domains i=n.domains[i.toNat]:=Ai hk;rw[Bk,e1];obtain ⟨d,hd⟩:∃d,n.domains[i.toNat]=d:=⟨_,rfl⟩
 rw[hd]at hf⊢;refine Bf 2 8 (Am n) E E E ?_;refine oF ?_;refine B7 5 1000 1 Aa E E ?_;refine A5 n.ports.length (λj=>[(1,Aa i),(2,.ref 8 (Am n) 0),(5,.osl 1000),(19,.sl 7 A4 n.ports),(20,Aa n.ports.length),(21,Aa j)]) (λj=>[(1000,.row 1 Aa (Ih (Ts n d) j))]) []
  kU ?_
 intro j hj;refine oO ?_;constructor<;>intro h
 ·have ab:j<n.ports.length:=by simpa using h
  have af:=X9 (Ts n d) j;have il:=Iz (Ts n d) j;have az:Ts n d j=((n.ports[j]).dev==d.dev&&Dl n.ports[j] d.vlan):=by
   rw[Ts,Ai (l:=n.ports) (i:=(j:Int)) (by simpa using ab)];rfl
  rw[az]at af;have e1:n.ports[(j:Int).toNat]'q_=n.ports[j]:=rfl;have vg:=Zi n.ports[j] d.vlan (hn.tagged _ (zI _));obtain ⟨p,hp⟩:∃p,n.ports[j]=p:=⟨_,rfl⟩
  rw[hp]at e1 af vg;obtain ⟨u,hu⟩:∃u,Ih (Ts n d) j=u:=⟨_,rfl⟩
  rw[hu]at af il⊢;refine oO ?_;refine⟨E,by omega,by omega,?_⟩;rw[e1]
  conv=>whnf
  refine⟨E,hi.1,hk,?_⟩;rw[hd]
  conv=>whnf
  constructor<;>intro h2
  ·have h3:∃k:Nat,(k:Int)=i:=⟨i.toNat,by omega⟩
   rw[h2,yF]at af;refine oD ?_;refine⟨E,hi.1,hk,?_⟩;rw[hd]
   conv=>whnf
   refine cD vg F106 ?_;refine gH ?_;constructor<;>intro h4
   ·rw[zG h4]at af;refine oO ?_;refine Af (Ag Γ.toTy 48 E E E E E (.row E) (.lit (e:=Aa) (l:=[(j:Int)]) E E) y_ (by simp;omega) (by simp;omega)) E E ?_;refine gF ?_;exact Ay [(1000,48)] ab ⟨⟨E,E,E,E,E,E,E,E,E,E,E,E,Y⟩,⟨.inl (zH (Ob.row 1 Aa) af),E,Y⟩,E,E⟩
   ·rw[zD (by simp[h4])]at af;refine gF ?_;exact Ay [] ab ⟨⟨E,E,E,E,E,E,E,E,E,E,E,E,Y⟩,⟨.inl (zH (Ob.row 1 Aa) af),E,Y⟩,E,E⟩
  ·rw[zD (by simp[h2])]at af;refine oD ?_;refine⟨z_,?_⟩
   ((conv=>whnf);refine aF ?_;refine rg ?_;conv=>whnf)
   refine iW ?_;exact Ay [] ab ⟨⟨E,E,E,E,E,E,E,E,E,E,E,E,Y⟩,⟨.inl (zH (Ob.row 1 Aa) af),E,Y⟩,E,E⟩
 ·have:j=n.ports.length:=qB h;subst this;refine Aj 1000 E ?_;exact gE
def Alj(n:Net)(hn:n.Fin)(l:List Domain)(p:Domain→Bool)(f:FuncId)(first cap:List SV)(hc:(SV.clo (.func f) first cap).inn []=true)(hf:∀x∈l,H3 prog f (first++[As x]++cap) (Ab (p x)))(hl:An l):Sp 159 [Am n,.sl 6 As l,.clo (.func f) first cap] (Aa (if Ac n=true then Bv p l else -1)):=cT F159 ntmps159 λF hF=>by
 have hr:=A1 n hn;have q:=Ev l p f first cap hc hf hl
 conv=>whnf
 refine c0 hr F22 ?_;cases hb:Ac n
 ·rw[zD y_];refine oT ?_;exact dN
 rw[zG rfl];refine oF ?_;refine Oz q F164 E E (by simp only[Cd,hc,uG];rfl) E E ?_;exact gE
def Ak7(dev vlan:Int)(d:Domain):Sp 160 [As d,.ref 1 (Aa dev) 0,.ref 1 (Aa vlan) 0] (Ab (d.dev==dev&&d.vlan==vlan)):=cT F160 ntmps160 λF hF=>by
 conv=>whnf
 (repeat' (first|(refine⟨λh=>?_,λh=>?_⟩<;>(repeat (first|simp only[yJ]at h|simp only[zR]at h))<;>((refine oO ?_)))|(refine At rfl (.cons .tmp .nil) ?_ rfl)))
 all_goals (refine zH Ab ?_)
 all_goals simp_all
def C1(n:Net)(dev vlan:Int):Int:=if Ac n=true then C2 n dev vlan else -1
def Kd(n:Net)(hn:n.Fin)(dev vlan:Int):Sp 102 [Am n,Aa dev,Aa vlan] (Aa (C1 n dev vlan)):=cT F102 ntmps102 λF hF=>by
 have q:=Alj n hn n.domains (λd=>d.dev==dev&&d.vlan==vlan) 160 [] [.ref 1 (Aa dev) 0,.ref 1 (Aa vlan) 0] rfl (λd _=>⟨⟨_,_,F160⟩,Ak7 dev vlan d⟩) hn.domains
 conv=>whnf
 refine Bf 4 1 (Aa dev) E E E ?_;refine Bf 5 1 (Aa vlan) E E E ?_;refine c0 q F159 ?_;exact gE
def C5(n:Net)(i:Int):Int :=
 if (0≤i∧i<n.ports.length)∧0≤(nth n.ports i).link∧Ac n=true then
  (if (nth n.links (nth n.ports i).link).a=i then (nth n.links (nth n.ports i).link).b else (nth n.links (nth n.ports i).link).a) else -1
def Ox{n:Net}(h:Ac n=true){i:Nat}(hi:i<n.ports.length)(hl:0≤n.ports[i].link):n.ports[i].link.toNat<n.links.length∧((nth n.links n.ports[i].link).a=i∨(nth n.links n.ports[i].link).b=i):=by
 have:=A3o h hi;simp only[Jd,Ah,zE,yM,zJ,yJ]at this;rcases this.2 with h1|h1
 ·omega
 ·exact⟨by omega,h1.2⟩
def Zl(n:Net)(hn:n.Fin)(i:Int):Sp 305 [Am n,Aa i] (Aa (C5 n i)):=cT F305 ntmps305 λF hF=>by
 have hr:=A1 n hn
 conv=>whnf
 constructor<;>intro h
 ·have h1:i<0:=zK h;rw[C5,zD q_]
  (refine oT ?_;refine bT ?_;refine bT ?_)
  exact dN
 have h1:0≤i:=qB h;refine oO ?_;constructor<;>intro h
 ·have h2:n.ports.length≤i:=zK h;rw[C5,zD q_]
  (refine oT ?_;refine bT ?_)
  exact dN
 have h2:i<n.ports.length:=qB h;have hk:i.toNat<n.ports.length:=by omega
 have e1:nth n.ports i=n.ports[i.toNat]:=Ai hk;have ak:=λ(hb:Ac n=true)=>Ox hb hk
 rw[C5,e1];obtain ⟨p,hp⟩:∃p,n.ports[i.toNat]=p:=⟨_,rfl⟩
 rw[hp]at ak⊢;refine oO ?_;refine⟨E,h1,hk,?_⟩;rw[hp]
 conv=>whnf
 constructor<;>intro h
 ·have h3:p.link<0:=zK h;rw[zD q_];refine oT ?_;exact dN
 have h3:0≤p.link:=qB h;refine oO ?_;refine c0 hr F22 ?_;cases hb:Ac n
 ·rw[zD y_];refine oT ?_;exact dN
 rw[zG ⟨⟨h1,h2⟩,h3,rfl⟩];have hq:=ak hb h3;have e2:nth n.links p.link=n.links[p.link.toNat]:=Ai hq.1;rw[e2];obtain ⟨l,hl⟩:∃l,n.links[p.link.toNat]'hq.1=l:=⟨_,rfl⟩
 rw[hl];refine oF ?_;refine⟨E,h1,hk,?_⟩;rw[hp]
 conv=>whnf
 refine⟨E,h3,hq.1,?_⟩;rw[hl]
 conv=>whnf
 refine kW ?_;constructor<;>intro h
 ·have h4:l.a=i:=by simpa using h
  rw[zG h4];exact gE
 ·have h4:¬l.a=i:=by simpa using h
  rw[zD h4];exact gE
def e_link{n:Net}(h:Ac n=true){i:Nat}(hi:i<n.links.length):(0≤n.links[i].a∧n.links[i].a.toNat<n.ports.length)∧(0≤n.links[i].b∧n.links[i].b.toNat<n.ports.length):=by
 simp only[Ac,zE]at h;have:=allB_iff.1 h.1.1.1.1.2 i hi;simp only[Tp,Ah,zE,zJ]at this;omega
def Mj{n:Net}{i:Int}(h:0≤C5 n i):(0≤i∧i.toNat<n.ports.length)∧Ac n=true∧(C5 n i).toNat<n.ports.length:=by
 unfold C5 at h⊢;split at h
 ·rename_i hc;rw[zG hc];have hk:i.toNat<n.ports.length:=by omega
  have e1:nth n.ports i=n.ports[i.toNat]:=Ai hk;rw[e1]at hc h⊢;have hq:=Ox hc.2.2 hk hc.2.1;have e2:nth n.links n.ports[i.toNat].link=n.links[n.ports[i.toNat].link.toNat]:=Ai hq.1;have hl:=e_link hc.2.2 hq.1;rw[e2]at h⊢;refine⟨by omega,hc.2.2,?_⟩;split
  ·exact hl.2.2
  ·exact hl.1.2
 ·omega
def Oy(n:Net)(i v:Int):Int:=if v=(nth n.ports i).native then (nth n.ports (C5 n i)).native else if inB (nth n.ports (C5 n i)).tagged v=true then v else 0
def crossT(n:Net)(i v:Int):Int×Int×Bool :=
 if 0≤C5 n i∧Dl (nth n.ports i) v=true∧Oy n i v≠0 then (C5 n i,Oy n i v,true) else (0,0,false)
def Aop(n:Net)(hn:n.Fin)(i v:Int):Sp 238 [Am n,Aa i,Aa v] (.tup [Aa (crossT n i v).1,Aa (crossT n i v).2.1,Ab (crossT n i v).2.2]):=cT F238 ntmps238 λF hF=>by
 have q:=Zl n hn i;have kv:=Mj (n:=n) (i:=i);have hc:=crossT.eq_1 n i v;unfold Oy at hc;generalize crossT n i v=r at *;obtain ⟨far,bq⟩:∃far,C5 n i=far:=⟨_,rfl⟩
 rw[bq]at q kv hc;refine fW ?_;refine c0 q F305 ?_;refine fU ?_;constructor<;>intro h
 ·have h1:far<0:=zK h;rw[zD q_]at hc;subst hc;exact gC
 have h1:0≤far:=qB h;obtain ⟨⟨dp,hk⟩,hb,uc⟩:=kv h1;have e1:nth n.ports i=n.ports[i.toNat]:=Ai hk;have e2:nth n.ports far=n.ports[far.toNat]:=Ai uc;rw[e1,e2]at hc;have ht1:=hn.tagged _ (zI hk);have y1:=hn.tagged _ (zI uc);obtain ⟨p,hp⟩:∃p,n.ports[i.toNat]=p:=⟨_,rfl⟩
 obtain ⟨o,ho⟩:∃o,n.ports[far.toNat]=o:=⟨_,rfl⟩
 rw[hp]at hc ht1;rw[ho]at hc y1;have vg:=Zi p v ht1;have m7:=D7 o.tagged v y1;refine Bf 3 8 (Am n) E E E ?_;refine fU ?_;refine⟨E,dp,hk,?_⟩;rw[hp];refine fW ?_;refine c0 vg F106 ?_;cases de:Dl p v
 ·rw[zD (by simp[de])]at hc;subst hc;exact gC
 refine fU ?_;refine⟨E,h1,uc,?_⟩;rw[ho];refine fW ?_;refine⟨E,dp,hk,?_⟩;rw[hp];refine fW ?_;constructor<;>intro h
 ·have h2:v=p.native:=by simpa using h
  rw[zG h2]at hc;refine fU ?_;constructor<;>intro h
  ·have h3:o.native=0:=by simpa using h
   rw[zD (λhh=>hh.2.2 h3)]at hc;subst hc;exact gC
  ·have h3:o.native≠0:=by simpa using h
   rw[zG ⟨h1,de,h3⟩]at hc;subst hc;exact gC
 have h2:¬v=p.native:=by simpa using h
 rw[zD h2]at hc;refine fU ?_;refine c0 m7 F38 ?_;cases az:inB o.tagged v
 ·rw[az,zD y_]at hc;subst hc;exact gC
 rw[az,zG rfl]at hc;refine fU ?_;constructor<;>intro h
 ·have h3:v=0:=by simpa using h
  rw[zD (λhh=>hh.2.2 h3)]at hc;subst hc;exact gC
 ·have h3:v≠0:=by simpa using h
  rw[zG ⟨h1,de,h3⟩]at hc;subst hc;exact gC
def linkDomT(n:Net)(i v:Int):Int×Bool:=if (crossT n i v).2.2=true then (C1 n (nth n.ports (crossT n i v).1).dev (crossT n i v).2.1,true) else (0,false)
def Z5{n:Net}{i v:Int}(h:(crossT n i v).2.2=true):0≤(crossT n i v).1∧(crossT n i v).1.toNat<n.ports.length:=by
 unfold crossT at h⊢;split at h
 ·rename_i hc;rw[zG hc];exact⟨hc.1,(Mj hc.1).2.2⟩
 ·cases h
def Zm(n:Net)(hn:n.Fin)(i v:Int):Sp 162 [Am n,Aa i,Aa v] (.tup [Aa (linkDomT n i v).1,Ab (linkDomT n i v).2]):=cT F162 ntmps162 λF hF=>by
 have q:=Aop n hn i v;have kv:=Z5 (n:=n) (i:=i) (v:=v);have hc:=linkDomT.eq_1 n i v;generalize linkDomT n i v=r at *;generalize crossT n i v=x at *;obtain ⟨far,to,ok⟩:=x;refine fW ?_;refine c0 q F238 ?_;cases ok
 ·rw[zD y_]at hc;subst hc;exact gC
 rw[zG rfl]at hc;have hf:=kv rfl;dsimp only at hf hc;have e2:nth n.ports far=n.ports[far.toNat]:=Ai hf.2;rw[e2]at hc;obtain ⟨o,ho⟩:∃o,n.ports[far.toNat]'hf.2=o:=⟨_,rfl⟩
 rw[ho]at hc;have q2:=Kd n hn o.dev to;subst hc;refine Bf 3 8 (Am n) E E E ?_;refine fU ?_;refine⟨E,hf.1,hf.2,?_⟩;rw[ho];refine fW ?_;refine cD q2 F102 ?_;refine fU ?_;refine⟨z_,?_⟩;refine fW ?_;exact dN
def M4(l:List Int)(p:Int→Bool)(f:FuncId)(first cap:List SV)(hc:(SV.clo (.func f) first cap).inn []=true)(hf:∀x∈l,H3 prog f (first++[Aa x]++cap) (Ab (p x)))(hl:An l):Sp 364 [.sl 1 Aa l,.clo (.func f) first cap] (Aa (Bv p l)):=cT F364 ntmps364 λF hF=>by
 unfold An at hl;have az:∀x:Int,Cd [] (first++[Aa x]++cap)=true:=λx=>Dh hc rfl
 conv=>whnf
 refine A9 l.length (λj=>En (λ_ x=>!(p x)) l j) (λj=>[(0,.sl 1 Aa l),(1,.clo (.func f) first cap),(7,Aa l.length),(8,Aa j)]) (λ_=>[]) [] (Bl _ _) ⟨⟨E,E,Bj _,hc,E,E,E,E,Y⟩,Y,E,E⟩ ?_;intro j hj hI;refine oO ?_;constructor<;>intro h
 ·have h:=zK h;have an:j<l.length:=by omega
  refine oO ?_;refine⟨E,by omega,by omega,?_⟩
  conv=>whnf
  refine D8 (hf l[j] (zI an)) E E E (by simp only[az];rfl) E E ?_;refine oO ?_;constructor<;>intro h2
  ·refine oO ?_;refine At E (.cons .tmp .nil) (zH Aa ?_) E;exact C7 an (λi hi br=>by simpa using hI i hi br) h2
  ·refine gF ?_;exact A8 [] hI an (Bi hI an (by simp[h2])) ⟨⟨E,E,Bj _,hc,E,E,E,E,Y⟩,Y,E,E⟩
 ·have h:=zQ h;refine oO ?_;refine At E (.cons .tmp .nil) (zH Aa ?_) E;exact D4 (λi hi=>by simpa using hI i hi q_)
def Z6(l:List Int)(p:Int→Bool)(f:FuncId)(first cap:List SV)(hc:(SV.clo (.func f) first cap).inn []=true)(hf:∀x∈l,H3 prog f (first++[Aa x]++cap) (Ab (p x)))(hl:An l):Sp 388 [.sl 1 Aa l,.clo (.func f) first cap] (Ab (decide (0≤Bv p l))):=cT F388 ntmps388 λF hF=>by
 have h0:Cd [] [.sl 1 Aa l,.clo (.func f) first cap]=true:=by simp only[Cd,hc];rfl
 conv=>whnf
 refine Oz (M4 l p f first cap hc hf hl) F364 E E (by simp only[h0];rfl) E E ?_;exact gE
def Afx(l:List Irb)(p:Irb→Bool)(f:FuncId)(first cap:List SV)(hc:(SV.clo (.func f) first cap).inn []=true)(hf:∀x∈l,H3 prog f (first++[B4 x]++cap) (Ab (p x)))(hl:An l):Sp 310 [.sl 5 B4 l,.clo (.func f) first cap] (Aa (Bv p l)):=cT F310 ntmps310 λF hF=>by
 unfold An at hl;have az:∀x:Irb,Cd [] (first++[B4 x]++cap)=true:=λx=>Dh hc rfl
 refine fW ?_;refine A9 l.length (λj=>En (λ_ x=>!(p x)) l j) (λj=>[(0,.sl 5 B4 l),(1,.clo (.func f) first cap),(7,Aa l.length),(8,Aa j)]) (λ_=>[]) [] (Bl _ _) ⟨⟨E,E,Bj _,hc,E,E,E,E,Y⟩,Y,E,E⟩ ?_;intro j hj hI;refine fU ?_;constructor<;>intro h
 ·have h:=zK h;have an:j<l.length:=by omega
  refine fU ?_;refine⟨E,by omega,by omega,?_⟩;refine fW ?_;refine D8 (hf l[j] (zI an)) E E E (by simp only[az];rfl) E E ?_;refine fU ?_;constructor<;>intro h2
  ·refine fU ?_;refine At E (.cons .tmp .nil) (zH Aa ?_) E;exact C7 an (λi hi br=>by simpa using hI i hi br) h2
  ·refine gG ?_;exact A8 [] hI an (Bi hI an (by simp[h2])) ⟨⟨E,E,Bj _,hc,E,E,E,E,Y⟩,Y,E,E⟩
 ·have h:=zQ h;refine fU ?_;refine At E (.cons .tmp .nil) (zH Aa ?_) E;exact D4 (λi hi=>by simpa using hI i hi q_)
def Ks(l:List Irb)(p:Irb→Bool)(f:FuncId)(first cap:List SV)(hc:(SV.clo (.func f) first cap).inn []=true)(hf:∀x∈l,H3 prog f (first++[B4 x]++cap) (Ab (p x)))(hl:An l):Sp 240 [.sl 5 B4 l,.clo (.func f) first cap] (Ab (decide (0≤Bv p l))):=cT F240 ntmps240 λF hF=>by
 have h0:Cd [] [.sl 5 B4 l,.clo (.func f) first cap]=true:=by simp only[Cd,hc];rfl
 refine fW ?_;refine Oz (Afx l p f first cap hc hf hl) F310 E E (by simp only[h0];rfl) E E ?_;exact gC
def A4r(v:Vrf)(hv:An v.imports)(t:Int):Sp 387 [Aa t,.ref 5 (Ca v) 0] (Ab (inB v.imports t)):=cT F387 ntmps387 λF hF=>by
 have q:=D7 v.imports t hv
 conv=>whnf
 refine c0 q F38 ?_;exact gE
def Ata(n:Net)(i k:Int):Bool:=i==k||(nth n.vrfs i).dev==(nth n.vrfs k).dev&&decide (0≤Bv (inB (nth n.vrfs k).imports) (nth n.vrfs i).exports)
def Aqw(n:Net)(hn:n.Fin)(hb:Ac n=true)(i k:Int)(hi:0≤i∧i.toNat<n.vrfs.length)(hk:0≤k∧k.toNat<n.vrfs.length):Sp 381 [Am n,Aa i,Aa k] (Ab (Ata n i k)):=cT F381 ntmps381 λF hF=>by
 have hr:=A1 n hn;rw[hb]at hr;have him:=hn.imports _ (zI hk.2);have hex:=hn.exports _ (zI hi.2);rw[Ata,Ai hi.2,Ai hk.2];obtain ⟨a,ha⟩:∃a,n.vrfs[i.toNat]'hi.2=a:=⟨_,rfl⟩
 obtain ⟨b,zk⟩:∃b,n.vrfs[k.toNat]'hk.2=b:=⟨_,rfl⟩
 rw[ha]at hex⊢;rw[zk]at him⊢;have q:=Z6 a.exports (inB b.imports) 387 [] [.ref 5 (Ca b) 0] rfl (λt _=>⟨⟨_,_,F387⟩,A4r b him t⟩) hex
 conv=>whnf
 refine⟨λh=>zY (zK h) q_,λ_=>?_⟩;refine oO ?_;refine⟨λh=>zY (zK h) q_,λ_=>?_⟩;refine oO ?_;refine⟨λh=>zY (zK h) q_,λ_=>?_⟩;refine oO ?_;refine⟨λh=>zY (zK h) q_,λ_=>?_⟩;refine oO ?_;refine c0 hr F22 ?_;refine oF ?_;refine⟨E,hi.1,hi.2,?_⟩;rw[ha]
 conv=>whnf
 refine⟨E,hk.1,hk.2,?_⟩;rw[zk]
 conv=>whnf
 refine kW ?_;constructor<;>intro h
 ·rw[h,vD];exact gE
 rw[h,uH];refine oO ?_;constructor<;>intro h
 ·rw[h,yF];refine Bf 8 5 (Ca b) E E E ?_;refine oO ?_;refine c0 q F388 ?_;exact gE
 ·rw[h,yE];exact gE
def Ki(n:Net)(i:Int):Int:=(nth n.domains (nth n.irbs i).domain).dev
def A3p{n:Net}(h:Ac n=true){i:Nat}(hi:i<n.irbs.length):Afu n i n.irbs[i]=true:=by
 simp only[Ac,zE]at h;exact allB_iff.1 h.2 i hi
def Da{n:Net}(h:Ac n=true){i:Nat}(hi:i<n.irbs.length):(0≤n.irbs[i].domain∧n.irbs[i].domain.toNat<n.domains.length)∧(0≤n.irbs[i].vrf∧n.irbs[i].vrf.toNat<n.vrfs.length)∧(0≤n.irbs[i].bits∧n.irbs[i].bits≤32):=by
 have:=A3p h hi;simp only[Afu,Ah,zE,zJ]at this;omega
def Me(n:Net)(hb:Ac n=true)(i:Int)(hi:0≤i∧i.toNat<n.irbs.length):Sp 350 [Am n,Aa i] (Aa (Ki n i)):=cT F350 ntmps350 λF hF=>by
 have hf:=(Da hb hi.2).1;rw[Ki,Ai hi.2];obtain ⟨x,hx⟩:∃x,n.irbs[i.toNat]'hi.2=x:=⟨_,rfl⟩
 rw[hx]at hf⊢;rw[Ai hf.2];obtain ⟨d,hd⟩:∃d,n.domains[x.domain.toNat]'hf.2=d:=⟨_,rfl⟩
 rw[hd]
 conv=>whnf
 refine⟨E,hi.1,hi.2,?_⟩;rw[hx]
 conv=>whnf
 refine⟨E,hf.1,hf.2,?_⟩;rw[hd]
 conv=>whnf
 refine kW ?_;exact dN
def Aij(n:Net)(i k:Int):Bool:=Ki n i==Ki n k&&Ata n (nth n.irbs k).vrf (nth n.irbs i).vrf
def Ary(n:Net)(hn:n.Fin)(hb:Ac n=true)(i k:Int)(hi:0≤i∧i.toNat<n.irbs.length)(hk:0≤k∧k.toNat<n.irbs.length):Sp 351 [Am n,Aa i,Aa k] (Ab (Aij n i k)):=cT F351 ntmps351 λF hF=>by
 have q1:=Me n hb i hi;have q2:=Me n hb k hk;have f1:=(Da hb hi.2).2.1;have f2:=(Da hb hk.2).2.1;have q3:=Aqw n hn hb _ _ f2 f1;rw[Aij,Ai hi.2,Ai hk.2];obtain ⟨x,hx⟩:∃x,n.irbs[i.toNat]'hi.2=x:=⟨_,rfl⟩
 obtain ⟨y,hy⟩:∃y,n.irbs[k.toNat]'hk.2=y:=⟨_,rfl⟩
 rw[hx,hy]at q3;rw[hx,hy];generalize Ki n i=di at *;generalize Ki n k=dk at *
 conv=>whnf
 refine cD q1 F350 ?_;refine oD ?_;refine cD q2 F350 ?_;refine oD ?_;constructor<;>intro h
 ·rw[h,yF];refine oD ?_;refine⟨E,hk.1,hk.2,?_⟩;rw[hy]
  conv=>whnf
  refine⟨E,hi.1,hi.2,?_⟩;rw[hx]
  conv=>whnf
  refine cD q3 F381 ?_;refine gH ?_;exact dN
 ·rw[h,yE];refine gH ?_;exact dN
abbrev Au8(a b:Int):SV:=.agg [Bb a,Aa b]
def Axm(a b:Int)(h:0≤b∧b≤32):Sp 176 [Au8 a b] (Ab true):=cT F176 ntmps176 λF hF=>by
 conv=>whnf
 refine⟨λ_=>?_,λh2=>zY (zQ h2) q_⟩;refine oO ?_;refine At E (.cons .tmp .nil) (zH Ab ?_) E;simp;omega
def Anf(b:Int):Int:=IntKind.u32.wrap (IntKind.u32.wrap (1*2^(min (32-b).toNat IntKind.u32.bits))-1)
def A1e(a b:Int)(h:0≤b∧b≤32):Sp 177 [Au8 a b] (Bb (Anf b)):=cT F177 ntmps177 λF hF=>by
 conv=>whnf
 refine iW ?_;refine⟨by omega,?_⟩
 conv=>whnf
 exact dN
def Ahq(a b x:Int):Bool:=bits .andNot .u32 (bits .xor .u32 a x) (Anf b)==0
def Ag2(a b x:Int)(h:0≤b∧b≤32):Sp 337 [Au8 a b,Bb x] (Ab (Ahq a b x)):=cT F337 ntmps337 λF hF=>by
 have q1:=Axm a b h;have q2:=A1e a b h;rw[Ahq];generalize Anf b=r at *
 conv=>whnf
 refine cD q1 F176 ?_
 (refine oD ?_;refine aT ?_;refine oD ?_)
 refine cD q2 F177 ?_;refine gH ?_;exact dN
def Wi(c:Int→Int→Int)(l:List Int)(j:Nat):Int:=((l.drop 1).take j).foldl (λm x=>if 0<c x m then x else m) (nth l 0)
def Aa5(c:Int→Int→Int)(l:List Int)(j:Nat)(h:j+1<l.length):Wi c l (j+1)=if 0<c l[j+1] (Wi c l j) then l[j+1] else Wi c l j:=by
 have hl:j<(l.drop 1).length:=by rw[yO];omega
 rw[Wi,yD hl,xO];have e:(l.drop 1)[j]=l[j+1]:=by rw[vT];congr 1;omega
 simp only[vF,tI,e];rfl
def Uw(c:Int→Int→Int)(l:List Int)(h:0<l.length):∀j,j+1≤l.length→Wi c l j∈l
 |0,_=>by
  rw[Wi,List.take_zero,tI,Ai (l:=l) (i:=0) (by simpa using h)];exact zI _
 |j+1,hj=>by
  rw[Aa5 c l j q_];split
  ·exact zI _
  ·exact Uw c l h j q_
def A2d(l:List Int)(c:Int→Int→Int)(f:FuncId)(first cap:List SV)(hc:(SV.clo (.func f) first cap).inn []=true)(h0:0<l.length)(hl:An l)(hf:∀x∈l,∀y∈l,H3 prog f (first++[Aa x,Aa y]++cap) (Aa (c x y))):Sp 353 [.sl 1 Aa l,.clo (.func f) first cap] (Aa (Wi c l (l.length-1))):=cT F353 ntmps353 λF hF=>by
 unfold An at hl;have az:∀x y:Int,Cd [] (first++[Aa x,Aa y]++cap)=true:=λx y=>Dh hc rfl
 have gx:=Uw c l h0;have af:=Aa5 c l;have hz:Wi c l 0=l[0]:=by rw[Wi,List.take_zero,tI,Ai (l:=l) (i:=0) (by simpa using h0)];rfl
 generalize Wi c l=m at *
 conv=>whnf
 refine⟨λh=>zY (zK h) q_,λ_=>?_⟩;refine oO ?_;refine⟨E,by omega,by simpa using h0,?_⟩
 conv=>whnf
 refine A5 (l.length-1) (λj=>[(0,.sl 1 Aa l),(1,.clo (.func f) first cap),(5,Aa (m j)),(6,Aa ((j:Int)+1))]) (λ_=>[]) []
  ⟨⟨rfl,rfl,Bj _,hc,zH Aa hz,rfl,rfl,rfl,trivial⟩,trivial,rfl,rfl⟩ ?_
 intro j hj;have pw:=gx j q_;have ru:=af j;refine oO ?_;constructor<;>intro h
 ·have ab:j+1<l.length:=qA h;have ru:=ru ab;have hk:((j:Int)+1).toNat<l.length:=by omega
  have e1:l[((j:Int)+1).toNat]'hk=l[j+1]:=by congr 1
  obtain ⟨x,hx⟩:∃x,l[j+1]=x:=⟨_,rfl⟩
  have hxm:x∈l:=hx▸zI ab;rw[hx]at e1 ru;refine oO ?_;refine⟨E,by omega,hk,?_⟩;rw[e1]
  conv=>whnf
  refine D8 (hf x hxm (m j) pw) E E E (by simp only[az];rfl) E E ?_;refine oO ?_;constructor<;>intro h2
  ·rw[zG (zK h2)]at ru;refine oO ?_;refine⟨E,by omega,hk,?_⟩;rw[e1]
   conv=>whnf
   refine iW ?_;exact Ay [] q_ ⟨⟨E,E,Bj _,hc,zH Aa ru,E,zH Aa q_,E,Y⟩,Y,E,E⟩
  ·rw[zD (zQ h2)]at ru;refine gF ?_;exact Ay [] q_ ⟨⟨E,E,Bj _,hc,zH Aa ru,E,zH Aa q_,E,Y⟩,Y,E,E⟩
 ·have:j=l.length-1:=qB h;subst this;exact gE
def Ahi(n:Net)(irb i:Int):Int:=if (nth n.irbs i).vrf=(nth n.irbs irb).vrf then 1 else 0
abbrev InIrbs(n:Net)(i:Int):Prop:=0≤i∧i.toNat<n.irbs.length
def Aol(n:Net)(irb i:Int)(hi:InIrbs n i)(hk:InIrbs n irb):Sp 352 [Aa i,.ref 8 (Am n) 0,.ref 1 (Aa irb) 0] (Aa (Ahi n irb i)):=cT F352 ntmps352 λF hF=>by
 rw[Ahi,Ai hi.2,Ai hk.2];obtain ⟨x,hx⟩:∃x,n.irbs[i.toNat]'hi.2=x:=⟨_,rfl⟩
 obtain ⟨y,hy⟩:∃y,n.irbs[irb.toNat]'hk.2=y:=⟨_,rfl⟩
 rw[hx,hy]
 conv=>whnf
 refine⟨E,hi.1,hi.2,?_⟩;rw[hx]
 conv=>whnf
 refine⟨E,hk.1,hk.2,?_⟩;rw[hy]
 conv=>whnf
 refine kW ?_;constructor<;>intro h
 ·rw[zG (by simpa using h)];exact gE
 ·rw[zD (by simpa using h)];exact gE
def Yj(n:Net)(irb a b:Int):Int:=if (nth n.irbs a).bits≠(nth n.irbs b).bits then (nth n.irbs a).bits-(nth n.irbs b).bits else Ahi n irb a-Ahi n irb b
def Adz(n:Net)(irb i:Int):0≤Ahi n irb i∧Ahi n irb i≤1:=by
 unfold Ahi;split<;>omega
def A2m(n:Net)(hb:Ac n=true)(irb a b:Int)(hk:InIrbs n irb)(ha:InIrbs n a)(du:InIrbs n b):Sp 354 [Aa a,Aa b,.ref 8 (Am n) 0,.ref 1 (.clo (.func 352) [] [.ref 8 (Am n) 0,.ref 1 (Aa irb) 0]) 0] (Aa (Yj n irb a b)):=cT F354 ntmps354 λF hF=>by
 have fa:=(Da hb ha.2).2.2;have fb:=(Da hb du.2).2.2;have q1:=Aol n irb a ha hk;have q2:=Aol n irb b du hk;have l1:=Adz n irb a;have l2:=Adz n irb b;rw[Yj,Ai ha.2,Ai du.2];obtain ⟨x,hx⟩:∃x,n.irbs[a.toNat]'ha.2=x:=⟨_,rfl⟩
 obtain ⟨y,hy⟩:∃y,n.irbs[b.toNat]'du.2=y:=⟨_,rfl⟩
 rw[hx]at fa⊢;rw[hy]at fb⊢;generalize Ahi n irb a=oa at *;generalize Ahi n irb b=ob at *
 conv=>whnf
 refine⟨E,ha.1,ha.2,?_⟩;rw[hx]
 conv=>whnf
 refine⟨E,du.1,du.2,?_⟩;rw[hy]
 conv=>whnf
 refine kW ?_;constructor<;>intro h
 ·rw[zG (by simpa using h)];refine gF ?_;exact dN
 ·rw[zD (by simpa using h)];refine oO ?_;refine Aud ⟨⟨_,_,F352⟩,q1⟩ E E E E z_ E ?_;refine oD ?_;refine Aud ⟨⟨_,_,F352⟩,q2⟩ E E E E z_ E ?_;refine oD ?_;refine iW ?_;refine kW ?_;exact dN
def Mn(n:Net)(irb dst:Int)(i:Nat):Bool:=Ki n i==Ki n irb&&(nth n.irbs i).addr==dst
def Xm(n:Net)(irb dst:Int)(i:Nat):Bool:=Ahq (nth n.irbs i).addr (nth n.irbs i).bits dst&&Aij n irb i
def Jb(n:Net)(irb dst:Int):List Int:=Ih (Xm n irb dst) n.irbs.length
def lookT(n:Net)(irb dst:Int):Int×Bool :=
 if (List.range n.irbs.length).any (Mn n irb dst)=true then (0,false)
 else if Jb n irb dst=[] then (0,false) else (Wi (Yj n irb) (Jb n irb dst) ((Jb n irb dst).length-1),true)
def Avh(n:Net)(hn:n.Fin)(hb:Ac n=true)(irb dst:Int)(hk:InIrbs n irb):Sp 297 [Am n,Aa irb,Bb dst] (.tup [Aa (lookT n irb dst).1,Ab (lookT n irb dst).2]):=cT F297 ntmps297 λF hF=>by
 have ak:=lookT.eq_1 n irb dst;generalize lookT n irb dst=r at *;have w7:=hn.irbs;unfold An at w7;have qk:=Me n hb irb hk
 conv=>whnf
 refine Bf 3 8 (Am n) E E E ?_;refine Bf 4 1 (Aa irb) E E E ?_;refine B7 8 1000 1 Aa E E ?_;refine A9 n.irbs.length (λj=>∀i,i<j→Mn n irb dst i=false) (λj=>[(2,Bb dst),(3,.ref 8 (Am n) 0),(4,.ref 1 (Aa irb) 0),(8,.osl 1000),(13,.sl 5 B4 n.irbs),(14,Aa n.irbs.length),(15,Aa j)]) (λj=>[(1000,.row 1 Aa (Ih (Xm n irb dst) j))]) [] (λi hi=>zY hi q_)
  kU ?_
 intro j hj hI;refine oO ?_;constructor<;>intro h
 ·have ab:j<n.irbs.length:=by simpa using h
  have br:InIrbs n (j:Int):=⟨by omega,by simpa using ab⟩
  have qj:=Me n hb j br;have af:=X9 (Xm n irb dst) j;have il:=Iz (Xm n irb dst) j;have pg:Mn n irb dst j=(Ki n j==Ki n irb&&(nth n.irbs j).addr==dst):=rfl;have hwa:Xm n irb dst j=(Ahq (nth n.irbs j).addr (nth n.irbs j).bits dst&&Aij n irb j):=rfl;have enj:nth n.irbs (j:Int)=n.irbs[j]:=Ai (l:=n.irbs) (i:=(j:Int)) (by simpa using ab);have hf:=(Da hb ab).2.2;have e1:n.irbs[(j:Int).toNat]'q_=n.irbs[j]:=rfl;rw[enj]at pg hwa;obtain ⟨x,hx⟩:∃x,n.irbs[j]=x:=⟨_,rfl⟩
  rw[hx]at e1 pg hwa hf;have q1:=Ag2 x.addr x.bits dst hf;have q2:=Ary n hn hb irb j hk br;rw[hwa]at af;obtain ⟨u,hu⟩:∃u,Ih (Xm n irb dst) j=u:=⟨_,rfl⟩
  rw[hu]at af il⊢;refine oO ?_;refine⟨E,by omega,by omega,?_⟩;rw[e1]
  conv=>whnf
  refine cD qj F350 ?_;refine oD ?_;refine cD qk F350 ?_;refine oD ?_;constructor<;>intro h2
  ·rw[h2,yF]at pg;refine gH ?_;constructor<;>intro h3
   ·have:(List.range n.irbs.length).any (Mn n irb dst)=true:=wK.2 ⟨j,by simpa using ab,pg.trans h3⟩;rw[zG this]at ak;subst ak;exact gE
   ·have li:=pg.trans h3;refine oO ?_;refine c0 q1 F337 ?_;refine oO ?_;constructor<;>intro h4
    ·rw[h4,yF]at af;refine oO ?_;refine c0 q2 F351 ?_;refine oO ?_;constructor<;>intro h5
     ·rw[zG h5]at af;refine oO ?_;refine Af (Ag Γ.toTy 47 E E E E E (.row E) (.lit (e:=Aa) (l:=[(j:Int)]) E E) y_ (by simp;omega) (by simp;omega)) E E ?_;refine gF ?_;exact A8 [(1000,47)] hI ab (λi hi=>if e:i=j then (by rw[e];exact li) else hI i q_) ⟨⟨E,E,E,E,E,E,E,E,E,E,E,E,E,E,Y⟩,⟨.inl (zH (Ob.row 1 Aa) af),E,Y⟩,E,E⟩
     ·rw[zD (by simp[h5])]at af;refine gF ?_;exact A8 [] hI ab (λi hi=>if e:i=j then (by rw[e];exact li) else hI i q_) ⟨⟨E,E,E,E,E,E,E,E,E,E,E,E,E,E,Y⟩,⟨.inl (zH (Ob.row 1 Aa) af),E,Y⟩,E,E⟩
    ·rw[zD (by simp[h4])]at af;refine oF ?_;refine iW ?_;exact A8 [] hI ab (λi hi=>if e:i=j then (by rw[e];exact li) else hI i q_) ⟨⟨E,E,E,E,E,E,E,E,E,E,E,E,E,E,Y⟩,⟨.inl (zH (Ob.row 1 Aa) af),E,Y⟩,E,E⟩
  ·have li:Mn n irb dst j=false:=by rw[pg,h2,yE]
   refine oD ?_;refine⟨z_,?_⟩
   ((conv=>whnf);refine aF ?_;refine rg ?_;conv=>whnf)
   refine c0 q1 F337 ?_;refine oO ?_;constructor<;>intro h4
   ·rw[h4,yF]at af;refine oO ?_;refine c0 q2 F351 ?_;refine oO ?_;constructor<;>intro h5
    ·rw[zG h5]at af;refine oO ?_;refine Af (Ag Γ.toTy 47 E E E E E (.row E) (.lit (e:=Aa) (l:=[(j:Int)]) E E) y_ (by simp;omega) (by simp;omega)) E E ?_;refine gF ?_;exact A8 [(1000,47)] hI ab (λi hi=>if e:i=j then (by rw[e];exact li) else hI i q_) ⟨⟨E,E,E,E,E,E,E,E,E,E,E,E,E,E,Y⟩,⟨.inl (zH (Ob.row 1 Aa) af),E,Y⟩,E,E⟩
    ·rw[zD (by simp[h5])]at af;refine gF ?_;exact A8 [] hI ab (λi hi=>if e:i=j then (by rw[e];exact li) else hI i q_) ⟨⟨E,E,E,E,E,E,E,E,E,E,E,E,E,E,Y⟩,⟨.inl (zH (Ob.row 1 Aa) af),E,Y⟩,E,E⟩
   ·rw[zD (by simp[h4])]at af;refine oF ?_;refine iW ?_;exact A8 [] hI ab (λi hi=>if e:i=j then (by rw[e];exact li) else hI i q_) ⟨⟨E,E,E,E,E,E,E,E,E,E,E,E,E,E,Y⟩,⟨.inl (zH (Ob.row 1 Aa) af),E,Y⟩,E,E⟩
 ·have:j=n.irbs.length:=qB h;subst this;have cu:¬(List.range n.irbs.length).any (Mn n irb dst)=true:=λh=>by
   obtain ⟨i,h1,h2⟩:=wK.1 h;rw[hI i (by simpa using h1)]at h2;cases h2
  rw[zD cu]at ak;have az:∀y∈Jb n irb dst,InIrbs n y:=λy hy=>by
   have:=(filtI_mem (p:=Xm n irb dst) (j:=n.irbs.length)).1 hy;exact⟨this.1,by omega⟩
  have ji:=Iz (Xm n irb dst) n.irbs.length;have hwe:Ih (Xm n irb dst) n.irbs.length=Jb n irb dst:=rfl;rw[hwe]at ji⊢;have q:∀h0:0<(Jb n irb dst).length,_:=λh0=>A2d (Jb n irb dst) (Yj n irb) 354 [] [.ref 8 (Am n) 0,.ref 1 (.clo (.func 352) [] [.ref 8 (Am n) 0,.ref 1 (Aa irb) 0]) 0] rfl h0 (by unfold An;omega) (λy hy z hz=>⟨⟨_,_,F354⟩,A2m n hb irb y z hk (az y hy) (az z hz)⟩)
  generalize Jb n irb dst=l at *;refine Aj 1000 E ?_;refine oO ?_;constructor<;>intro h3
  ·have h4:l=[]:=by simpa using h3
   rw[zG h4]at ak;subst ak;exact gE
  ·have h4:¬l=[]:=by simpa using h3
   rw[zD h4]at ak;have q:=q (xN.2 h4);subst ak;refine oO ?_;refine Bf 11 1 (.clo (.func 352) [] [.ref 8 (Am n) 0,.ref 1 (Aa irb) 0]) E E E ?_;refine oO ?_;refine c0 q F353 ?_;exact gE
def Akq(n:Net)(hn:n.Fin)(hb:Ac n=true)(irb dst:Int)(hk:InIrbs n irb):Sp 239 [Am n,Aa irb,Bb dst] (.tup [Aa (lookT n irb dst).1,Ab (lookT n irb dst).2]):=cT F239 ntmps239 λF hF=>by
 have hr:=A1 n hn;rw[hb]at hr;have q:=Avh n hn hb irb dst hk;generalize lookT n irb dst=r at *;refine fW ?_;refine⟨λh=>zY (zK h) q_,λ_=>?_⟩;refine fU ?_;refine⟨λh=>zY (zK h) q_,λ_=>?_⟩;refine fU ?_;refine c0 hr F22 ?_;refine fU ?_;refine c0 q F297 ?_;exact gC
def Uy{n:Net}{irb dst:Int}(h:(lookT n irb dst).2=true):InIrbs n (lookT n irb dst).1:=by
 unfold lookT at h⊢;split at h
 ·cases h
 rename_i h1;rw[zD h1];split at h
 ·cases h
 rename_i h2;rw[zD h2];have hm:=Uw (Yj n irb) (Jb n irb dst) (xN.2 h2) ((Jb n irb dst).length-1) (by have:=xN.2 h2;omega);have:=(filtI_mem (p:=Xm n irb dst) (j:=n.irbs.length)).1 hm;exact⟨this.1,by omega⟩
end Go.Sy.YticmobkdaneelaaGreatDoor
