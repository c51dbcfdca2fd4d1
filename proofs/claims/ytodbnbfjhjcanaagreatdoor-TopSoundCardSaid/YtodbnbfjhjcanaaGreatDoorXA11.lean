/- Parts of a proof. -/
import Derived.Test.YtodbnbfjhjcanaaGreatDoorXA8
set_option maxHeartbeats 4000000
set_option linter.all false
namespace Go.Sy.Zaa
def Ao8{k:Type}{l:List k}{i:Nat}{d:k}(h:i<l.length):l.getD i d=l[i]:=by simp[List.getD,h]
def Aku{n:Nat}(h:n<=65535):H7 n=n:=by
 unfold H7;split<;>omega
def Apa{n:Nat}(h:65535<n):H7 (n/65536+n%65536)=H7 n/\n/65536+n%65536<n:=by
 unfold H7;rw[zD z_,zD z_];omega
def Aup(a x:Nat)(hx:x<=65535):H7 (a+x)=if 65535<H7 a+x then H7 a+x-65535 else H7 a+x:=by
 unfold H7;split<;>split<;>split<;>omega
def Akv(n:Nat):H7 n<=65535:=by
 unfold H7;split<;>omega
def O2(l:List UInt8):Nat->Nat
 |0=>0
 |j+1=>O2 l j+((l.getD (2*j) 0).toNat*256+(l.getD (2*j+1) 0).toNat)
def Aqd(l:List UInt8):∀j,O2 l j<=65535*j
 |0=>yG _
 |j+1=>by
  have ih:=Aqd l j;have h1:=(l.getD (2*j) 0).toNat_lt;have h2:=(l.getD (2*j+1) 0).toNat_lt;rw[O2];omega
def Adl(l:List UInt8):Nat:=65535-H7 (O2 l (l.length/2))
def Ev(n:Nat):(UInt8.ofNat n).toNat=n%256:=by simp
open Go.Proofs Go.Proofs.Tryz
attribute [local irreducible]G DR
set_option maxRecDepth 100000
def Lj(a b:Nat)(ha:a<9223372036854775808)(hb:b<9223372036854775808):bits .and .i64 (a:Int) (b:Int)=((a&&&b:Nat):Int):=by
 have hx:a&&&b<2^63:=Nat.lt_of_le_of_lt Nat.and_le_left ha;have h1:(BitVec.ofInt 64 (a:Int)).toNat=a:=by
  rw[BitVec.ofInt_natCast,BitVec.toNat_ofNat];exact xH z_
 have h2:(BitVec.ofInt 64 (b:Int)).toNat=b:=by
  rw[BitVec.ofInt_natCast,BitVec.toNat_ofNat];exact xH z_
 show IntKind.i64.wrap ((BitVec.ofInt 64 (a:Int)&&&BitVec.ofInt 64 (b:Int)).toNat:Int)=_;rw[BitVec.toNat_and,h1,h2,IntKind.wrap_i64];omega
def Er(a b:Nat)(ha:a<9223372036854775808)(hb:b<9223372036854775808):bits .or .i64 (a:Int) (b:Int)=((a|||b:Nat):Int):=by
 have hx:a|||b<2^63:=Nat.or_lt_two_pow z_ z_;have h1:(BitVec.ofInt 64 (a:Int)).toNat=a:=by
  rw[BitVec.ofInt_natCast,BitVec.toNat_ofNat];exact xH z_
 have h2:(BitVec.ofInt 64 (b:Int)).toNat=b:=by
  rw[BitVec.ofInt_natCast,BitVec.toNat_ofNat];exact xH z_
 show IntKind.i64.wrap ((BitVec.ofInt 64 (a:Int)|||BitVec.ofInt 64 (b:Int)).toNat:Int)=_;rw[BitVec.toNat_or,h1,h2,IntKind.wrap_i64];omega
def Aql(n k:Nat)(hk:k<64):(n:Int).fdiv (2^(min (Int.toNat (k:Int)) IntKind.i64.bits))=((n/2^k:Nat):Int):=by
 have h1:min (Int.toNat (k:Int)) IntKind.i64.bits=k:=by simp[IntKind.bits];omega
 rw[h1,wP _ (by exact Int.pow_nonneg y_)];simp
def A2o(n:Nat)(h:n<9223372036854775808):bits .and .i64 (n:Int) 65535=((n%65536:Nat):Int):=by
 have:=Lj n 65535 h y_;rw[show ((65535:Nat):Int)=65535 from rfl]at this;rw[this];have h2:=uI n 16;rw[show 2^16-1=65535 from rfl,show 2^16=65536 from rfl]at h2;rw[h2]
def Aux(n:Nat)(h:n<9223372036854775808):Sq 401 [.ptr 0 0] [(0,.box [Aa n])] (.tup []) [(0,.box [Aa (n/65536+n%65536:Nat)])]:=cT F401 ntmps401 λF hF=>by
 have e1:(n:Int).fdiv (2^(min (Int.toNat 16) IntKind.i64.bits))=((n/65536:Nat):Int):=Aql n 16 y_;have e2:=A2o n h
 conv=>whnf
 first|(refine⟨by omega,?_⟩;(conv=>whnf))|skip
 rw[e1,e2];refine iW ?_;exact A2 E .nil [] [(0,.box [Aa (n/65536+n%65536:Nat)])] (λ_ h=>h) E E kU
def Awd(n:Nat)(h:n<9223372036854775808):Sp 377 [Aa n] (Aa (H7 n)):=cT F377 ntmps377 λF hF=>by
 conv=>whnf
 refine Wj (α:={m:Nat // H7 m=H7 n/\m<=n}) (λm=>[(3,.clo (.func 401) [] [.ptr 1 0]),(1,.ptr 1 0)]) (λm=>[(1,.box [Aa m.1])]) (λm=>m.1) ⟨n,E,yG _⟩ []
  kU ?_
 rintro ⟨m,h1,h2⟩;dsimp only;refine oO ?_;constructor<;>intro h3
 .have tn:65535<m:=by have:=zO h3;omega
  obtain ⟨g1,g2⟩:=Apa tn;refine oO ?_;refine Ai (Av [(0,1)] (Aw E E F401) (Aux m z_) E ⟨E,q_⟩ E ⟨.inl E,q_⟩) E E (oO ?_);exact Ye (α:={m:Nat // H7 m=H7 n/\m<=n}) (x:=⟨m,h1,h2⟩) ⟨m/65536+m%65536,by rw[g1,h1],by omega⟩ [] g2 kU
 .have tn:m<=65535:=by have:=zQ h3;omega
  have e:H7 n=m:=by rw[<-h1,Aku tn]
  refine oO ?_;refine Aq E Ap ?_ E;exact zH (λz:Nat=>Aa z) e
def I9(a b:UInt8):bits .or .i64 (IntKind.i64.wrap ((IntKind.i64.wrap (a.toNat:Int))*2^min (Int.toNat 8) IntKind.i64.bits)) (IntKind.i64.wrap (b.toNat:Int))=((a.toNat*256+b.toNat:Nat):Int):=by
 have h1:=a.toNat_lt;have h2:=b.toNat_lt;have e1:IntKind.i64.wrap (a.toNat:Int)=(a.toNat:Int):=by rw[IntKind.wrap_i64];omega
 have e2:IntKind.i64.wrap (b.toNat:Int)=(b.toNat:Int):=by rw[IntKind.wrap_i64];omega
 rw[e1,e2];have h3:IntKind.i64.wrap ((a.toNat:Int)*2^min (Int.toNat 8) IntKind.i64.bits)=((a.toNat*256:Nat):Int):=by
  show IntKind.i64.wrap ((a.toNat:Int)*256)=_;rw[IntKind.wrap_i64];omega
 rw[h3,Er _ _ z_ z_];congr 1;have h:=xS (i:=8) (b:=b.toNat) z_ a.toNat;rw[vE a.toNat 256];exact h.symm
def Aqk(l:List UInt8)(hl:l.length<100000)(h2:l.length%2=0):Sp 336 [.sl 1 Al l] (Aa (H7 (O2 l (l.length/2)))):=cT F336 ntmps336 λF hF=>by
 conv=>whnf
 refine A8 (l.length/2) (λj=>[(0,.sl 1 Al l),(3,Aa (O2 l j)),(4,Aa (2*(j:Int)))]) (λ_=>[]) [] kU ?_;intro j hj;have hw:=Aqd l j;refine gF ?_;constructor<;>intro h
 .have ab:2*j+1<l.length:=qA h;have hs:O2 l (j+1)=O2 l j+((l[2*j]'z_).toNat*256+(l[2*j+1]'ab).toNat):=by
   rw[O2,Ao8 (show 2*j<l.length by omega),Ao8 ab]
  have e1:l[(2*(j:Int)).toNat]'z_=l[2*j]'z_:=by congr 1
  have e2:l[(2*(j:Int)+1).toNat]'z_=l[2*j+1]'ab:=by congr 1
  have hp:=I9 (l[2*j]'z_) (l[2*j+1]'ab);have d6:=(l[2*j]'z_).toNat_lt;have dx:=(l[2*j+1]'ab).toNat_lt;rw[<-e1,<-e2]at hp hs;rw[<-e1]at d6;rw[<-e2]at dx;refine oO ?_;refine⟨E,by omega,by omega,?_⟩
  conv=>whnf
  refine⟨by omega,?_⟩
  conv=>whnf
  refine iW ?_;refine⟨E,by omega,by omega,?_⟩
  conv=>whnf
  refine⟨(by rw[hp];unfold I64;omega),?_⟩
  conv=>whnf
  refine kW ?_;refine iW ?_;refine Ax [] z_ ⟨⟨E,E,zH (λz=>SV.val (.int .i64 z)) ?_,E,zH (λz=>SV.val (.int .i64 z)) ?_,E,q_⟩,q_,E,E⟩
  .rw[hp,hs];omega
  .omega
 have cw:j=l.length/2:=by
  have:=zQ h;omega
 have kg:¬bits .and .i64 (l.length:Int) 1=1:=by
  have:=Lj l.length 1 z_ y_;rw[show ((1:Nat):Int)=1 from rfl]at this;rw[this,Nat.and_one_is_mod,h2];decide
 have hd:=Awd (O2 l j) z_;rw[cw]at hd|-;clear cw;refine oO ?_;refine⟨λh=>zX (zO h) kg,λ_=>?_⟩;refine oO ?_;refine gE hd F377 ?_;exact dN
def sumOfS(l:List UInt8)(hl:l.length<100000)(h2:l.length%2=0):Sp 260 [.sl 1 Al l] (Aa (Adl l)):=cT F260 ntmps260 λF hF=>by
 have ha:=Aqk l hl h2;have hle:=Akv (O2 l (l.length/2))
 conv=>whnf
 refine gE ha F336 ?_;refine iW ?_;refine Aq E Ap ?_ E;refine zH Aa ?_;rw[Adl];omega
def Ax3(n:Nat):SV:=Aa n
def M9(l:List Nat):List UInt8:=l.flatMap λn=>[UInt8.ofNat (n/256),UInt8.ofNat n]
def Acl(l:List Nat):(M9 l).length=2*l.length:=by
 induction l with
 |nil=>rfl
 |cons a l ih=>simp only[M9,vZ,zU,yL,xK]at ih|-;omega
def Ajc(l:List Nat)(n:Nat):M9 (l++[n])=M9 l++[UInt8.ofNat (n/256),UInt8.ofNat n]:=by simp[M9]
def Afy(a b:Int)(h:0<=a/\a<=b):Sp 258 [Aa a,Aa b] (Ab true):=cT F258 ntmps258 λF hF=>by
 conv=>whnf
 refine⟨λ_=>?_,λh2=>zX (zQ h2) z_⟩;refine oO ?_;refine Aq E Ap ?_ E;exact zH Ab (zK h.2).symm
def Ayz(l:List Nat)(hl:l.length<100000):Sq 259 [svN,.sl 1 Ax3 l] [] (.osl 0) [(0,.row 1 Al (M9 l))]:=cT F259 ntmps259 λF hF=>by
 conv=>whnf
 refine B6 0 1000 1 Al E E ?_;refine A8 l.length (λj=>[(0,.osl 1000),(7,.sl 1 Ax3 l),(8,Aa l.length),(9,Aa j)]) (λj=>[(1000,.row 1 Al (M9 (l.take j)))]) [] kU ?_;intro j hj;have bd:=Acl (l.take j);refine gH ?_ ?_<;>intro h
 .have ab:j<l.length:=by simpa using h
  have e1:l[(j:Int).toNat]'z_=l[j]:=rfl;have ai:M9 (l.take (j+1))=M9 (l.take j)++[UInt8.ofNat (l[j]/256),UInt8.ofNat l[j]]:=by
   rw[yA ab,Ajc]
  obtain ⟨n,hn⟩:=kE (l[j]);rw[hn]at e1 ai;have jz:=I4 n;refine oO ?_;refine⟨E,by omega,by omega,?_⟩;rw[e1]
  conv=>whnf
  refine⟨by omega,?_⟩
  conv=>whnf
  refine Ai (Ah Γ.toTy 20 E E E E E (.row E) (.lit (e:=Al) (l:=[UInt8.ofNat (n/256),UInt8.ofNat n]) E jz) qq (by simp[bd];omega) (by simp[bd];omega)) E E (gF ?_);exact Ax [(1000,20)] ab ⟨kA,⟨.inl (zH (Ob.row 1 Al) ai),E,q_⟩,E,E⟩
 .have cw:j=l.length:=by
   have:¬j<l.length:=kS h;omega
  subst cw;rw[yM];refine oO ?_;exact done E Ap [(0,1000)] [(0,.row 1 Al (M9 l))] (λ_ h=>h) E E kU
def u8_of(n:Nat):IntKind.u8.wrap (n:Int)=((UInt8.ofNat n).toNat:Int):=by
 rw[IntKind.wrap_u8];simp
def lW{x:Int}(h0:0<=x)(h1:x<18446744073709551616):IntKind.u64.wrap x=x:=by rw[IntKind.wrap_u64];omega
def Ael(ip:Nat)(h:ip<4294967296):Sp 204 [A9 ip] (Bi (D7 ip)):=cT F204 ntmps204 λF hF=>by
 conv=>whnf
 refine Aq E Ap ?_ E;refine zH (λz=>SV.val (.int .u64 z)) ?_;have e:IntKind.u64.wrap (ip:Int)=ip:=lW z_ z_;rw[e];have hb:=bits_or_u64_nat 2199023255552 ip y_ z_;rw[show ((2199023255552:Nat):Int)=2199023255552 from rfl]at hb;rw[hb,D7,yE];have h2:=xS (i:=32) (b:=ip) z_ 512;rw[show 2^32*512=2199023255552 from rfl]at h2;rw[<-h2]
def tagIsS(d s:Nat)(t:Int)(body:List UInt8)(ht:t≠33024):Sp 177 [Azm d s t body] (Ab false):=cT F177 ntmps177 λF hF=>by
 conv=>whnf
 refine Aq E Ap ?_ E;exact zH Ab (zT.2 ht).symm
def A1l(v:Nat)(hv:v<9223372036854775808):bits .or .i64 (IntKind.i64.wrap (0*2^min (Int.toNat 12) IntKind.i64.bits)) (v:Int)=v:=by
 have h:=Er 0 v y_ hv;rw[Nat.zero_or]at h;exact h
def A07(d s t v:Nat)(body:List UInt8)(ht:t≠33024)(ht2:t<=65535)(hv:v<=4094)(hb:body.length<=1500):Sp 121 [Azm d s t body,Aa v,Aa 0] (.tup [Azm d s 33024 ([UInt8.ofNat (v/256),UInt8.ofNat v,UInt8.ofNat (t/256),UInt8.ofNat t]++body),Aa 0]):=cT F121 ntmps121 λF hF=>by
 have hor:=A1l v z_;have tb1:=I4 v;have tb2:=I4 t
 conv=>whnf
 refine c0 (tagIsS d s t body z_) F177 ?_
 (refine oF ?_;refine bF ?_)
 refine⟨λh=>zX (zO h) z_,λ_=>?_⟩
 (refine oF ?_;refine bF ?_;refine bF ?_)
 refine⟨λh=>zX (zO h) z_,λ_=>?_⟩;refine oO ?_;refine⟨λh=>zX (zO h) z_,λ_=>?_⟩;refine oO ?_;refine⟨by omega,?_⟩
 conv=>whnf
 rw[hor];refine⟨by omega,?_⟩
 conv=>whnf
 refine⟨by omega,?_⟩
 conv=>whnf
 refine Cc (Ah Γ.toTy 70 E E E E E (.lit (e:=Al) (l:=[UInt8.ofNat (v/256),UInt8.ofNat v,UInt8.ofNat (t/256),UInt8.ofNat t]) E ?_) .sl qq kO kO) j_ E ?_
 .have h1:=List.cons.inj tb1;have h2:=List.cons.inj tb2;have h3:=List.cons.inj h1.2;have h4:=List.cons.inj h2.2;simp only[xZ,vS];rw[h1.1,h3.1,h2.1,h4.1]
 refine gM ?_;exact Aj 70 E dN
end Go.Sy.Zaa
