/- Parts of a proof. -/
import Derived.Test.YtodbnbfjhjcanaaGreatDoorXB7
set_option maxHeartbeats 4000000
set_option linter.all false
namespace Go.Sy.Zaa
def Art{k:Type}{l:List k}{i:Nat}{d:k}(h:i<l.length):l.getD i d=l[i]:=by simp[List.getD,h]
def Am5{n:Nat}(h:n<=65535):Ih n=n:=by
 unfold Ih;split<;>omega
def Arv{n:Nat}(h:65535<n):Ih (n/65536+n%65536)=Ih n/\n/65536+n%65536<n:=by
 unfold Ih;rw[zD q_,zD q_];omega
def Axm(a x:Nat)(hx:x<=65535):Ih (a+x)=if 65535<Ih a+x then Ih a+x-65535 else Ih a+x:=by
 unfold Ih;split<;>split<;>split<;>omega
def Am6(n:Nat):Ih n<=65535:=by
 unfold Ih;split<;>omega
def Qs(l:List UInt8):Nat->Nat
 |0=>0
 |j+1=>Qs l j+((l.getD (2*j) 0).toNat*256+(l.getD (2*j+1) 0).toNat)
def Asz(l:List UInt8):∀j,Qs l j<=65535*j
 |0=>yE _
 |j+1=>by
  have ih:=Asz l j;have h1:=(l.getD (2*j) 0).toNat_lt;have h2:=(l.getD (2*j+1) 0).toNat_lt;rw[Qs];omega
def Afm(l:List UInt8):Nat:=65535-Ih (Qs l (l.length/2))
def E6(n:Nat):(UInt8.ofNat n).toNat=n%256:=by simp
open Go.Proofs Go.Proofs.Tryz
attribute [local irreducible]G DR
set_option maxRecDepth 100000
def L1(a b:Nat)(ha:a<9223372036854775808)(hb:b<9223372036854775808):bits .and .i64 (a:Int) (b:Int)=((a&&&b:Nat):Int):=by
 have hx:a&&&b<2^63:=Nat.lt_of_le_of_lt Nat.and_le_left ha;have h1:(BitVec.ofInt 64 (a:Int)).toNat=a:=by
  rw[BitVec.ofInt_natCast,BitVec.toNat_ofNat];exact xJ q_
 have h2:(BitVec.ofInt 64 (b:Int)).toNat=b:=by
  rw[BitVec.ofInt_natCast,BitVec.toNat_ofNat];exact xJ q_
 show IntKind.i64.wrap ((BitVec.ofInt 64 (a:Int)&&&BitVec.ofInt 64 (b:Int)).toNat:Int)=_;rw[BitVec.toNat_and,h1,h2,IntKind.wrap_i64];omega
def E5(a b:Nat)(ha:a<9223372036854775808)(hb:b<9223372036854775808):bits .or .i64 (a:Int) (b:Int)=((a|||b:Nat):Int):=by
 have hx:a|||b<2^63:=Nat.or_lt_two_pow q_ q_;have h1:(BitVec.ofInt 64 (a:Int)).toNat=a:=by
  rw[BitVec.ofInt_natCast,BitVec.toNat_ofNat];exact xJ q_
 have h2:(BitVec.ofInt 64 (b:Int)).toNat=b:=by
  rw[BitVec.ofInt_natCast,BitVec.toNat_ofNat];exact xJ q_
 show IntKind.i64.wrap ((BitVec.ofInt 64 (a:Int)|||BitVec.ofInt 64 (b:Int)).toNat:Int)=_;rw[BitVec.toNat_or,h1,h2,IntKind.wrap_i64];omega
def As7(n k:Nat)(hk:k<64):(n:Int).fdiv (2^(min (Int.toNat (k:Int)) IntKind.i64.bits))=((n/2^k:Nat):Int):=by
 have h1:min (Int.toNat (k:Int)) IntKind.i64.bits=k:=by simp[IntKind.bits];omega
 rw[h1,wQ _ (by exact Int.pow_nonneg j_)];simp
def A5k(n:Nat)(h:n<9223372036854775808):bits .and .i64 (n:Int) 65535=((n%65536:Nat):Int):=by
 have:=L1 n 65535 h j_;rw[show ((65535:Nat):Int)=65535 from rfl]at this;rw[this];have h2:=uS n 16;rw[show 2^16-1=65535 from rfl,show 2^16=65536 from rfl]at h2;rw[h2]
def Axw(n:Nat)(h:n<9223372036854775808):Sq 401 [.ptr 0 0] [(0,.box [Aa n])] (.tup []) [(0,.box [Aa (n/65536+n%65536:Nat)])]:=cT F401 ntmps401 λF hF=>by
 have e1:(n:Int).fdiv (2^(min (Int.toNat 16) IntKind.i64.bits))=((n/65536:Nat):Int):=As7 n 16 j_;have e2:=A5k n h
 conv=>whnf
 first|(refine⟨by omega,?_⟩;(conv=>whnf))|skip
 rw[e1,e2];refine iW ?_;exact A6 E .nil [] [(0,.box [Aa (n/65536+n%65536:Nat)])] (λ_ h=>h) E E kU
def Aza(n:Nat)(h:n<9223372036854775808):Sp 377 [Aa n] (Aa (Ih n)):=cT F377 ntmps377 λF hF=>by
 conv=>whnf
 refine Xk (α:={m:Nat // Ih m=Ih n/\m<=n}) (λm=>[(3,.clo (.func 401) [] [.ptr 1 0]),(1,.ptr 1 0)]) (λm=>[(1,.box [Aa m.1])]) (λm=>m.1) ⟨n,E,yE _⟩ []
  kU ?_
 rintro ⟨m,h1,h2⟩;dsimp only;refine oO ?_;constructor<;>intro h3
 .have ui:65535<m:=by have:=zO h3;omega
  obtain ⟨g1,g2⟩:=Arv ui;refine oO ?_;refine Aj (Av [(0,1)] (Aw E E F401) (Axw m q_) E ⟨E,Y⟩ E ⟨.inl E,Y⟩) E E (oO ?_);exact Zj (α:={m:Nat // Ih m=Ih n/\m<=n}) (x:=⟨m,h1,h2⟩) ⟨m/65536+m%65536,by rw[g1,h1],by omega⟩ [] g2 kU
 .have ui:m<=65535:=by have:=zT h3;omega
  have e:Ih n=m:=by rw[<-h1,Am5 ui]
  refine oO ?_;refine Ar E Aq ?_ E;exact zH (λz:Nat=>Aa z) e
def Jj(a b:UInt8):bits .or .i64 (IntKind.i64.wrap ((IntKind.i64.wrap (a.toNat:Int))*2^min (Int.toNat 8) IntKind.i64.bits)) (IntKind.i64.wrap (b.toNat:Int))=((a.toNat*256+b.toNat:Nat):Int):=by
 have h1:=a.toNat_lt;have h2:=b.toNat_lt;have e1:IntKind.i64.wrap (a.toNat:Int)=(a.toNat:Int):=by rw[IntKind.wrap_i64];omega
 have e2:IntKind.i64.wrap (b.toNat:Int)=(b.toNat:Int):=by rw[IntKind.wrap_i64];omega
 rw[e1,e2];have h3:IntKind.i64.wrap ((a.toNat:Int)*2^min (Int.toNat 8) IntKind.i64.bits)=((a.toNat*256:Nat):Int):=by
  show IntKind.i64.wrap ((a.toNat:Int)*256)=_;rw[IntKind.wrap_i64];omega
 rw[h3,E5 _ _ q_ q_];congr 1;have h:=xR (i:=8) (b:=b.toNat) q_ a.toNat;rw[vK a.toNat 256];exact h.symm
def As5(l:List UInt8)(hl:l.length<100000)(h2:l.length%2=0):Sp 336 [.sl 1 Al l] (Aa (Ih (Qs l (l.length/2)))):=cT F336 ntmps336 λF hF=>by
 conv=>whnf
 refine Bg (l.length/2) (λj=>[(0,.sl 1 Al l),(3,Aa (Qs l j)),(4,Aa (2*(j:Int)))]) (λ_=>[]) [] kU ?_;intro j hj;have hw:=Asz l j;refine gF ?_;constructor<;>intro h
 .have ab:2*j+1<l.length:=qA h;have hs:Qs l (j+1)=Qs l j+((l[2*j]'q_).toNat*256+(l[2*j+1]'ab).toNat):=by
   rw[Qs,Art (show 2*j<l.length by omega),Art ab]
  have e1:l[(2*(j:Int)).toNat]'q_=l[2*j]'q_:=by congr 1
  have e2:l[(2*(j:Int)+1).toNat]'q_=l[2*j+1]'ab:=by congr 1
  have hp:=Jj (l[2*j]'q_) (l[2*j+1]'ab);have fx:=(l[2*j]'q_).toNat_lt;have dy:=(l[2*j+1]'ab).toNat_lt;rw[<-e1,<-e2]at hp hs;rw[<-e1]at fx;rw[<-e2]at dy;refine oO ?_;refine⟨E,by omega,by omega,?_⟩
  conv=>whnf
  refine⟨by omega,?_⟩
  conv=>whnf
  refine iW ?_;refine⟨E,by omega,by omega,?_⟩
  conv=>whnf
  refine⟨(by rw[hp];unfold I64;omega),?_⟩
  conv=>whnf
  refine kW ?_;refine iW ?_;refine Az [] q_ ⟨⟨E,E,zH (λz=>SV.val (.int .i64 z)) ?_,E,zH (λz=>SV.val (.int .i64 z)) ?_,E,Y⟩,Y,E,E⟩
  .rw[hp,hs];omega
  .omega
 have dq:j=l.length/2:=by
  have:=zT h;omega
 have ku:¬bits .and .i64 (l.length:Int) 1=1:=by
  have:=L1 l.length 1 q_ j_;rw[show ((1:Nat):Int)=1 from rfl]at this;rw[this,Nat.and_one_is_mod,h2];decide
 have hd:=Aza (Qs l j) q_;rw[dq]at hd|-;clear dq;refine oO ?_;refine⟨λh=>yA (zO h) ku,λ_=>?_⟩;refine oO ?_;refine gE hd F377 ?_;exact dN
def sumOfS(l:List UInt8)(hl:l.length<100000)(h2:l.length%2=0):Sp 260 [.sl 1 Al l] (Aa (Afm l)):=cT F260 ntmps260 λF hF=>by
 have ha:=As5 l hl h2;have hle:=Am6 (Qs l (l.length/2))
 conv=>whnf
 refine gE ha F336 ?_;refine iW ?_;refine Ar E Aq ?_ E;refine zH Aa ?_;rw[Afm];omega
def A0z(n:Nat):SV:=Aa n
def O4(l:List Nat):List UInt8:=l.flatMap λn=>[UInt8.ofNat (n/256),UInt8.ofNat n]
def Aer(l:List Nat):(O4 l).length=2*l.length:=by
 induction l with
 |nil=>rfl
 |cons a l ih=>simp only[O4,vV,zQ,yM,xG]at ih|-;omega
def Alg(l:List Nat)(n:Nat):O4 (l++[n])=O4 l++[UInt8.ofNat (n/256),UInt8.ofNat n]:=by simp[O4]
def Ahz(a b:Int)(h:0<=a/\a<=b):Sp 258 [Aa a,Aa b] (Ab true):=cT F258 ntmps258 λF hF=>by
 conv=>whnf
 refine⟨λ_=>?_,λh2=>yA (zT h2) q_⟩;refine oO ?_;refine Ar E Aq ?_ E;exact zH Ab (zL h.2).symm
def A1s(l:List Nat)(hl:l.length<100000):Sq 259 [svN,.sl 1 A0z l] [] (.osl 0) [(0,.row 1 Al (O4 l))]:=cT F259 ntmps259 λF hF=>by
 conv=>whnf
 refine Ca 0 1000 1 Al E E ?_;refine Bg l.length (λj=>[(0,.osl 1000),(7,.sl 1 A0z l),(8,Aa l.length),(9,Aa j)]) (λj=>[(1000,.row 1 Al (O4 (l.take j)))]) [] kU ?_;intro j hj;have ay:=Aer (l.take j);refine gH ?_ ?_<;>intro h
 .have ab:j<l.length:=by simpa using h
  have e1:l[(j:Int).toNat]'q_=l[j]:=rfl;have ag:O4 (l.take (j+1))=O4 (l.take j)++[UInt8.ofNat (l[j]/256),UInt8.ofNat l[j]]:=by
   rw[yD ab,Alg]
  obtain ⟨n,hn⟩:=kE (l[j]);rw[hn]at e1 ag;have ki:=Jc n;refine oO ?_;refine⟨E,by omega,by omega,?_⟩;rw[e1]
  conv=>whnf
  refine⟨by omega,?_⟩
  conv=>whnf
  refine Aj (Ah Γ.toTy 20 E E E E E (.row E) (.lit (e:=Al) (l:=[UInt8.ofNat (n/256),UInt8.ofNat n]) E ki) y_ (by simp[ay];omega) (by simp[ay];omega)) E E (gF ?_);exact Az [(1000,20)] ab ⟨kA,⟨.inl (zH (Ob.row 1 Al) ag),E,Y⟩,E,E⟩
 .have dq:j=l.length:=by
   have:¬j<l.length:=kS h;omega
  subst dq;rw[yN];refine oO ?_;exact done E Aq [(0,1000)] [(0,.row 1 Al (O4 l))] (λ_ h=>h) E E kU
def u8_of(n:Nat):IntKind.u8.wrap (n:Int)=((UInt8.ofNat n).toNat:Int):=by
 rw[IntKind.wrap_u8];simp
def Aap{x:Int}(h0:0<=x)(h1:x<18446744073709551616):IntKind.u64.wrap x=x:=by rw[IntKind.wrap_u64];omega
def Agk(ip:Nat)(h:ip<4294967296):Sp 204 [Be ip] (Bl (hostN ip)):=cT F204 ntmps204 λF hF=>by
 conv=>whnf
 refine Ar E Aq ?_ E;refine zH (λz=>SV.val (.int .u64 z)) ?_;have e:IntKind.u64.wrap (ip:Int)=ip:=Aap q_ q_;rw[e];have hb:=bits_or_u64_nat 2199023255552 ip j_ q_;rw[show ((2199023255552:Nat):Int)=2199023255552 from rfl]at hb;rw[hb,hostN,zZ];have h2:=xR (i:=32) (b:=ip) q_ 512;rw[show 2^32*512=2199023255552 from rfl]at h2;rw[<-h2]
def tagIsS(d s:Nat)(t:Int)(body:List UInt8)(ht:t≠33024):Sp 177 [A2i d s t body] (Ab false):=cT F177 ntmps177 λF hF=>by
 conv=>whnf
 refine Ar E Aq ?_ E;exact zH Ab (zU.2 ht).symm
def A4j(v:Nat)(hv:v<9223372036854775808):bits .or .i64 (IntKind.i64.wrap (0*2^min (Int.toNat 12) IntKind.i64.bits)) (v:Int)=v:=by
 have h:=E5 0 v j_ hv;rw[Nat.zero_or]at h;exact h
def A32(d s t v:Nat)(body:List UInt8)(ht:t≠33024)(ht2:t<=65535)(hv:v<=4094)(hb:body.length<=1500):Sp 121 [A2i d s t body,Aa v,Aa 0] (.tup [A2i d s 33024 ([UInt8.ofNat (v/256),UInt8.ofNat v,UInt8.ofNat (t/256),UInt8.ofNat t]++body),Aa 0]):=cT F121 ntmps121 λF hF=>by
 have hor:=A4j v q_;have tb1:=Jc v;have tb2:=Jc t
 conv=>whnf
 refine c0 (tagIsS d s t body q_) F177 ?_
 (refine oF ?_;refine bF ?_)
 refine⟨λh=>yA (zO h) q_,λ_=>?_⟩
 (refine oF ?_;refine bF ?_;refine bF ?_)
 refine⟨λh=>yA (zO h) q_,λ_=>?_⟩;refine oO ?_;refine⟨λh=>yA (zO h) q_,λ_=>?_⟩;refine oO ?_;refine⟨by omega,?_⟩
 conv=>whnf
 rw[hor];refine⟨by omega,?_⟩
 conv=>whnf
 refine⟨by omega,?_⟩
 conv=>whnf
 refine Ce (Ah Γ.toTy 70 E E E E E (.lit (e:=Al) (l:=[UInt8.ofNat (v/256),UInt8.ofNat v,UInt8.ofNat (t/256),UInt8.ofNat t]) E ?_) .sl y_ kO kO) z_ E ?_
 .have h1:=List.cons.inj tb1;have h2:=List.cons.inj tb2;have h3:=List.cons.inj h1.2;have h4:=List.cons.inj h2.2;simp only[xV,uA];rw[h1.1,h3.1,h2.1,h4.1]
 refine gL ?_;exact Ai 70 E dN
end Go.Sy.Zaa
