/- Parts of a proof. -/
import Derived.Test.YtedbfemmehbeoaaGreatDoorXC6
set_option maxHeartbeats 4000000
set_option linter.all false
namespace Go.Sy.Zaa
def A02{k:Type}{l:List k}{i:Nat}{d:k}(h:i<l.length):l.getD i d=l[i]:=by simp[List.getD,h]
def Avw{n:Nat}(h:n<=65535):Ls n=n:=by
 unfold Ls;split<;>omega
def A06{n:Nat}(h:65535<n):Ls (n/65536+n%65536)=Ls n/\n/65536+n%65536<n:=by
 unfold Ls;rw[zD j_,zD j_];omega
def A7i(a x:Nat)(g:x<=65535):Ls (a+x)=if 65535<Ls a+x then Ls a+x-65535 else Ls a+x:=by
 unfold Ls;split<;>split<;>split<;>omega
def Avx(n:Nat):Ls n<=65535:=by
 unfold Ls;split<;>omega
def Wv(l:List UInt8):Nat->Nat
 |0=>0
 |j+1=>Wv l j+((l.getD (2*j) 0).toNat*256+(l.getD (2*j+1) 0).toNat)
def A2d(l:List UInt8):∀j,Wv l j<=65535*j
 |0=>yG _
 |j+1=>by
  have g:=A2d l j;have i:=(l.getD (2*j) 0).toNat_lt;have o:=(l.getD (2*j+1) 0).toNat_lt;rw[Wv];omega
def Amz(l:List UInt8):Nat:=65535-Ls (Wv l (l.length/2))
def ofNat_toNat(n:Nat):(UInt8.ofNat n).toNat=n%256:=by simp
open Go.Proofs Go.Proofs.Tryz
attribute [local irreducible]G DR
set_option maxRecDepth 100000
def Tk(a b:Nat)(g:a<9223372036854775808)(l:b<9223372036854775808):bits .and .i64 (a:Int) (b:Int)=((a&&&b:Nat):Int):=by
 have o:a&&&b<2^63:=Nat.lt_of_le_of_lt Nat.and_le_left g;have i:(BitVec.ofInt 64 (a:Int)).toNat=a:=by
  rw[BitVec.ofInt_natCast,BitVec.toNat_ofNat];exact xN j_
 have j:(BitVec.ofInt 64 (b:Int)).toNat=b:=by
  rw[BitVec.ofInt_natCast,BitVec.toNat_ofNat];exact xN j_
 show IntKind.i64.wrap ((BitVec.ofInt 64 (a:Int)&&&BitVec.ofInt 64 (b:Int)).toNat:Int)=_;rw[BitVec.toNat_and,i,j,IntKind.wrap_i64];omega
def Jp(a b:Nat)(j:a<9223372036854775808)(l:b<9223372036854775808):bits .or .i64 (a:Int) (b:Int)=((a|||b:Nat):Int):=by
 have o:a|||b<2^63:=Nat.or_lt_two_pow j_ j_;have g:(BitVec.ofInt 64 (a:Int)).toNat=a:=by
  rw[BitVec.ofInt_natCast,BitVec.toNat_ofNat];exact xN j_
 have i:(BitVec.ofInt 64 (b:Int)).toNat=b:=by
  rw[BitVec.ofInt_natCast,BitVec.toNat_ofNat];exact xN j_
 show IntKind.i64.wrap ((BitVec.ofInt 64 (a:Int)|||BitVec.ofInt 64 (b:Int)).toNat:Int)=_;rw[BitVec.toNat_or,g,i,IntKind.wrap_i64];omega
def A2p(n k:Nat)(i:k<64):(n:Int).fdiv (2^(min (Int.toNat (k:Int)) IntKind.i64.bits))=((n/2^k:Nat):Int):=by
 have g:min (Int.toNat (k:Int)) IntKind.i64.bits=k:=by simp[IntKind.bits];omega
 rw[g,wM _ (by exact Int.pow_nonneg qq)];simp
def Bf7(n:Nat)(h:n<9223372036854775808):bits .and .i64 (n:Int) 65535=((n%65536:Nat):Int):=by
 have:=Tk n 65535 h qq;rw[show ((65535:Nat):Int)=65535 from rfl]at this;rw[this];have g:=uN n 16;rw[show 2^16-1=65535 from rfl,show 2^16=65536 from rfl]at g;rw[g]
def A7s(n:Nat)(h:n<9223372036854775808):Sq 420 [.ptr 0 0] [(0,.box [Aa n])] (.tup []) [(0,.box [Aa (n/65536+n%65536:Nat)])]:=cT F420 ntmps420 λF j=>by
 have g:(n:Int).fdiv (2^(min (Int.toNat 16) IntKind.i64.bits))=((n/65536:Nat):Int):=A2p n 16 qq;have i:=Bf7 n h
 conv=>whnf
 first|(refine⟨by omega,?_⟩;(conv=>whnf))|skip
 rw[g,i];refine iW ?_;exact Bf q_ .nil [] [(0,.box [Aa (n/65536+n%65536:Nat)])] (λ_ h=>h) q_ q_ kU
def A9f(n:Nat)(h:n<9223372036854775808):Sp 396 [Aa n] (Aa (Ls n)):=cT F396 ntmps396 λF r=>by
 conv=>whnf
 refine eW (α:={m:Nat // Ls m=Ls n/\m<=n}) (λm=>[(3,.clo (.func 420) [] [.ptr 1 0]),(1,.ptr 1 0)]) (λm=>[(1,.box [Aa m.1])]) (λm=>m.1) ⟨n,q_,yG _⟩ []
  kU ?_
 rintro ⟨m,g,l⟩;dsimp only;refine oO ?_;constructor<;>intro j
 .have i:65535<m:=by have:=zO j;omega
  obtain ⟨o,p⟩:=A06 i;refine oO ?_;refine Al (A1 [(0,1)] (A3 q_ q_ F420) (A7s m j_) q_ ⟨q_,z_⟩ q_ ⟨.inl q_,z_⟩) q_ q_ (oO ?_);exact oA (α:={m:Nat // Ls m=Ls n/\m<=n}) (x:=⟨m,g,l⟩) ⟨m/65536+m%65536,by rw[o,g],by omega⟩ [] p kU
 .have i:m<=65535:=by have:=zQ j;omega
  have e:Ls n=m:=by rw[<-g,Avw i]
  refine oO ?_;refine Av q_ As ?_ q_;exact zH (λz:Nat=>Aa z) e
def M8(a b:UInt8):bits .or .i64 (IntKind.i64.wrap ((IntKind.i64.wrap (a.toNat:Int))*2^min (Int.toNat 8) IntKind.i64.bits)) (IntKind.i64.wrap (b.toNat:Int))=((a.toNat*256+b.toNat:Nat):Int):=by
 have o:=a.toNat_lt;have p:=b.toNat_lt;have g:IntKind.i64.wrap (a.toNat:Int)=(a.toNat:Int):=by rw[IntKind.wrap_i64];omega
 have j:IntKind.i64.wrap (b.toNat:Int)=(b.toNat:Int):=by rw[IntKind.wrap_i64];omega
 rw[g,j];have l:IntKind.i64.wrap ((a.toNat:Int)*2^min (Int.toNat 8) IntKind.i64.bits)=((a.toNat*256:Nat):Int):=by
  show IntKind.i64.wrap ((a.toNat:Int)*256)=_;rw[IntKind.wrap_i64];omega
 rw[l,Jp _ _ j_ j_];congr 1;have h:=xX (i:=8) (b:=b.toNat) j_ a.toNat;rw[vJ a.toNat 256];exact h.symm
def A2l(l:List UInt8)(hl:l.length<100000)(I:l.length%2=0):Sp 337 [.sl 1 Ae l] (Aa (Ls (Wv l (l.length/2)))):=cT F337 ntmps337 λF hF=>by
 conv=>whnf
 refine Bl (l.length/2) (λj=>[(0,.sl 1 Ae l),(3,Aa (Wv l j)),(4,Aa (2*(j:Int)))]) (λ_=>[]) [] kU ?_;intro j hj;have hw:=A2d l j;refine gG ?_;constructor<;>intro h
 .have g:2*j+1<l.length:=qA h;have i:Wv l (j+1)=Wv l j+((l[2*j]'j_).toNat*256+(l[2*j+1]'g).toNat):=by
   rw[Wv,A02 (show 2*j<l.length by omega),A02 g]
  have o:l[(2*(j:Int)).toNat]'j_=l[2*j]'j_:=by congr 1
  have p:l[(2*(j:Int)+1).toNat]'j_=l[2*j+1]'g:=by congr 1
  have hp:=M8 (l[2*j]'j_) (l[2*j+1]'g);have J:=(l[2*j]'j_).toNat_lt;have P:=(l[2*j+1]'g).toNat_lt;rw[<-o,<-p]at hp i;rw[<-o]at J;rw[<-p]at P;refine oO ?_;refine⟨q_,by omega,by omega,?_⟩
  conv=>whnf
  refine⟨by omega,?_⟩
  conv=>whnf
  refine iW ?_;refine⟨q_,by omega,by omega,?_⟩
  conv=>whnf
  refine⟨(by rw[hp];unfold S2;omega),?_⟩
  conv=>whnf
  refine kW ?_;refine iW ?_;refine A9 [] j_ ⟨⟨q_,q_,zH (λz=>SV.val (.int .i64 z)) ?_,q_,zH (λz=>SV.val (.int .i64 z)) ?_,q_,z_⟩,z_,q_,q_⟩
  .rw[hp,i];omega
  .omega
 have r:j=l.length/2:=by
  have:=zQ h;omega
 have R:¬bits .and .i64 (l.length:Int) 1=1:=by
  have:=Tk l.length 1 j_ qq;rw[show ((1:Nat):Int)=1 from rfl]at this;rw[this,Nat.and_one_is_mod,I];decide
 have t:=A9f (Wv l j) j_;rw[r]at t|-;clear r;refine oO ?_;refine⟨λh=>zW (zO h) R,λ_=>?_⟩;refine oO ?_;refine gF t F396 ?_;exact dN
def sumOfS(l:List UInt8)(g:l.length<100000)(i:l.length%2=0):Sp 268 [.sl 1 Ae l] (Aa (Amz l)):=cT F268 ntmps268 λF p=>by
 have j:=A2l l g i;have o:=Avx (Wv l (l.length/2))
 conv=>whnf
 refine gF j F337 ?_;refine iW ?_;refine Av q_ As ?_ q_;refine zH Aa ?_;rw[Amz];omega
def Ba0(n:Nat):SV:=Aa n
def V8(l:List Nat):List UInt8:=l.flatMap λn=>[UInt8.ofNat (n/256),UInt8.ofNat n]
def Alv(l:List Nat):(V8 l).length=2*l.length:=by
 induction l with
 |nil=>rfl
 |cons a l g=>simp only[V8,xZ,zR,yI,xG]at g|-;omega
def At3(l:List Nat)(n:Nat):V8 (l++[n])=V8 l++[UInt8.ofNat (n/256),UInt8.ofNat n]:=by simp[V8]
def Apv(a b:Int)(h:0<=a/\a<=b):Sp 266 [Aa a,Aa b] (Ab true):=cT F266 ntmps266 λF i=>by
 conv=>whnf
 refine⟨λ_=>?_,λg=>zW (zQ g) j_⟩;refine oO ?_;refine Av q_ As ?_ q_;exact zH Ab (zL h.2).symm
def Bbw(l:List Nat)(J:l.length<100000):Sq 267 [Jl,.sl 1 Ba0 l] [] (.osl 0) [(0,.row 1 Ae (V8 l))]:=cT F267 ntmps267 λF P=>by
 conv=>whnf
 refine Ct 0 1000 1 Ae q_ q_ ?_;refine Bl l.length (λj=>[(0,.osl 1000),(7,.sl 1 Ba0 l),(8,Aa l.length),(9,Aa j)]) (λj=>[(1000,.row 1 Ae (V8 (l.take j)))]) [] kU ?_;intro j R;have g:=Alv (l.take j);refine gI ?_ ?_<;>intro h
 .have i:j<l.length:=by simpa using h
  have o:l[(j:Int).toNat]'j_=l[j]:=rfl;have p:V8 (l.take (j+1))=V8 (l.take j)++[UInt8.ofNat (l[j]/256),UInt8.ofNat l[j]]:=by
   rw[zZ i,At3]
  obtain ⟨n,r⟩:=kE (l[j]);rw[r]at o p;have t:=Mz n;refine oO ?_;refine⟨q_,by omega,by omega,?_⟩;rw[o]
  conv=>whnf
  refine⟨by omega,?_⟩
  conv=>whnf
  refine Al (Ah Γ.toTy 20 q_ q_ q_ q_ q_ (.row q_) (.lit (e:=Ae) (l:=[UInt8.ofNat (n/256),UInt8.ofNat n]) q_ t) qx (by simp[g];omega) (by simp[g];omega)) q_ q_ (gG ?_);exact A9 [(1000,20)] i ⟨kA,⟨.inl (zH (Ob.row 1 Ae) p),q_,z_⟩,q_,q_⟩
 .have I:j=l.length:=by
   have:¬j<l.length:=kS h;omega
  subst I;rw[yM];refine oO ?_;exact done q_ As [(0,1000)] [(0,.row 1 Ae (V8 l))] (λ_ h=>h) q_ q_ kU
def u8_of(n:Nat):IntKind.u8.wrap (n:Int)=((UInt8.ofNat n).toNat:Int):=by
 rw[IntKind.wrap_u8];simp
def Aht{x:Int}(g:0<=x)(i:x<18446744073709551616):IntKind.u64.wrap x=x:=by rw[IntKind.wrap_u64];omega
def An0(g:Nat)(h:g<4294967296):Sp 205 [Bo g] (B1 (I4 g)):=cT F205 ntmps205 λF o=>by
 conv=>whnf
 refine Av q_ As ?_ q_;refine zH (λz=>SV.val (.int .u64 z)) ?_;have e:IntKind.u64.wrap (g:Int)=g:=Aht j_ j_;rw[e];have j:=bits_or_u64_nat 2199023255552 g qq j_;rw[show ((2199023255552:Nat):Int)=2199023255552 from rfl]at j;rw[j,I4,yA];have l:=xX (i:=32) (b:=g) j_ 512;rw[show 2^32*512=2199023255552 from rfl]at l;rw[<-l]
def tagIsS(d s:Nat)(t:Int)(body:List UInt8)(g:t≠33024):Sp 207 [Bck d s t body] (Ab false):=cT F207 ntmps207 λF i=>by
 conv=>whnf
 refine Av q_ As ?_ q_;exact zH Ab (zU.2 g).symm
def or_zero(v:Nat)(g:v<9223372036854775808):bits .or .i64 (IntKind.i64.wrap (0*2^min (Int.toNat 12) IntKind.i64.bits)) (v:Int)=v:=by
 have h:=Jp 0 v qq g;rw[Nat.zero_or]at h;exact h
def Bef(d s t v:Nat)(body:List UInt8)(J:t≠33024)(P:t<=65535)(R:v<=4094)(hb:body.length<=1500):Sp 122 [Bck d s t body,Aa v,Aa 0] (.tup [Bck d s 33024 ([UInt8.ofNat (v/256),UInt8.ofNat v,UInt8.ofNat (t/256),UInt8.ofNat t]++body),Aa 0]):=cT F122 ntmps122 λF hF=>by
 have g:=or_zero v j_;have i:=Mz v;have j:=Mz t
 conv=>whnf
 refine c0 (tagIsS d s t body j_) F207 ?_
 (refine oF ?_;refine bF ?_)
 refine⟨λh=>zW (zO h) j_,λ_=>?_⟩
 (refine oF ?_;refine bF ?_;refine bF ?_)
 refine⟨λh=>zW (zO h) j_,λ_=>?_⟩;refine oO ?_;refine⟨λh=>zW (zO h) j_,λ_=>?_⟩;refine oO ?_;refine⟨by omega,?_⟩
 conv=>whnf
 rw[g];refine⟨by omega,?_⟩
 conv=>whnf
 refine⟨by omega,?_⟩
 conv=>whnf
 refine C6 (Ah Γ.toTy 70 q_ q_ q_ q_ q_ (.lit (e:=Ae) (l:=[UInt8.ofNat (v/256),UInt8.ofNat v,UInt8.ofNat (t/256),UInt8.ofNat t]) q_ ?_) .sl qx kO kO) y_ q_ ?_
 .have o:=List.cons.inj i;have p:=List.cons.inj j;have r:=List.cons.inj o.2;have I:=List.cons.inj p.2;simp only[xR,vW];rw[o.1,r.1,p.1,I.1]
 refine gO ?_;exact Ao 70 q_ dN
end Go.Sy.Zaa
