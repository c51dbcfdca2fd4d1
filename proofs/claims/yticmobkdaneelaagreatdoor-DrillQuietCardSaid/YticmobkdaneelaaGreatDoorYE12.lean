/- Parts of a proof. -/
import Derived.Test.YticmobkdaneelaaGreatDoorYE9
set_option linter.all false
set_option linter.unusedVariables false
set_option linter.unusedSimpArgs false
set_option linter.deprecated false
namespace Go.Sy.YticmobkdaneelaaGreatDoor
def Alg{α:Type}{l:List α}{i:Nat}{d:α}(h:i<l.length):l.getD i d=l[i]:=by simp[List.getD,h]
def Apl{n:Nat}(h:n≤65535):He n=n:=by
 unfold He;split<;>omega
def Atq{n:Nat}(h:65535<n):He (n/65536+n%65536)=He n∧n/65536+n%65536<n:=by
 unfold He;rw[zD q_,zD q_];omega
def Ayx(a x:Nat)(hx:x≤65535):He (a+x)=if 65535<He a+x then He a+x-65535 else He a+x:=by
 unfold He;split<;>split<;>split<;>omega
def Apm(n:Nat):He n≤65535:=by
 unfold He;split<;>omega
def Mb(l:List UInt8):Nat→Nat
 |0=>0
 |j+1=>Mb l j+((l.getD (2*j) 0).toNat*256+(l.getD (2*j+1) 0).toNat)
def Auq(l:List UInt8):∀j,Mb l j≤65535*j
 |0=>yG _
 |j+1=>by
  have ih:=Auq l j;have h1:=(l.getD (2*j) 0).toNat_lt;have h2:=(l.getD (2*j+1) 0).toNat_lt;rw[Mb];omega
def Qj(l:List UInt8):Nat:=65535-He (Mb l (l.length/2))
def ip0(to:Nat):List UInt8:=be 2 0x4500++be 2 20++be 2 0++be 2 0++be 2 0x4011++be 2 0++be 4 1++be 4 to
def S9(to:Nat):(ip0 to).length=20:=by simp[ip0,Cv]
def Eg(n:Nat):(UInt8.ofNat n).toNat=n%256:=by simp
def A5y(to:Nat)(h:to<4294967296):Qj (ip0 to)=65535-He (0x4500+20+0x4011+1+to/65536+to%65536):=by
 have e:Mb (ip0 to) 10=0x4500+20+0x4011+1+to/65536+to%65536:=by
  simp only[Mb,ip0,be,xS,wC,List.getD_cons_zero,List.getD_cons_succ,Nat.reduceMul,Nat.reduceAdd,Nat.mul_zero,Nat.mul_one,Eg,Nat.reducePow,Nat.pow_zero,Nat.pow_one,Nat.div_one];omega
 rw[Qj,S9,show 20/2=10 from rfl,e]
def A5x(to:Nat)(h:to<4294967296):((ip0 to).set 10 (UInt8.ofNat (Qj (ip0 to)/256))).set 11 (UInt8.ofNat (Qj (ip0 to)))=ipL to:=by
 rw[A5y to h];simp only[ipL,ip0,be,xS,wC,tM,uD,Nat.reducePow,Nat.pow_zero,Nat.pow_one,Nat.div_one]
open Go.Proofs Go.Proofs.Tryz
attribute [local irreducible] Go.Sy.G Go.Sy.DR
set_option maxRecDepth 100000
set_option maxHeartbeats 4000000
def K9(a b:Nat)(ha:a<9223372036854775808)(hb:b<9223372036854775808):bits .and .i64 (a:Int) (b:Int)=((a&&&b:Nat):Int):=by
 have hx:a&&&b<2^63:=Nat.lt_of_le_of_lt Nat.and_le_left ha;have h1:(BitVec.ofInt 64 (a:Int)).toNat=a:=by
  rw[BitVec.ofInt_natCast,BitVec.toNat_ofNat];exact xH q_
 have h2:(BitVec.ofInt 64 (b:Int)).toNat=b:=by
  rw[BitVec.ofInt_natCast,BitVec.toNat_ofNat];exact xH q_
 show IntKind.i64.wrap ((BitVec.ofInt 64 (a:Int)&&&BitVec.ofInt 64 (b:Int)).toNat:Int)=_;rw[BitVec.toNat_and,h1,h2,IntKind.wrap_i64];omega
def Et(a b:Nat)(ha:a<9223372036854775808)(hb:b<9223372036854775808):bits .or .i64 (a:Int) (b:Int)=((a|||b:Nat):Int):=by
 have hx:a|||b<2^63:=Nat.or_lt_two_pow q_ q_;have h1:(BitVec.ofInt 64 (a:Int)).toNat=a:=by
  rw[BitVec.ofInt_natCast,BitVec.toNat_ofNat];exact xH q_
 have h2:(BitVec.ofInt 64 (b:Int)).toNat=b:=by
  rw[BitVec.ofInt_natCast,BitVec.toNat_ofNat];exact xH q_
 show IntKind.i64.wrap ((BitVec.ofInt 64 (a:Int)|||BitVec.ofInt 64 (b:Int)).toNat:Int)=_;rw[BitVec.toNat_or,h1,h2,IntKind.wrap_i64];omega
def Aux(n k:Nat)(hk:k<64):(n:Int).fdiv (2^(min (Int.toNat (k:Int)) IntKind.i64.bits))=((n/2^k:Nat):Int):=by
 have h1:min (Int.toNat (k:Int)) IntKind.i64.bits=k:=by simp[IntKind.bits];omega
 rw[h1,xW _ (by exact Int.pow_nonneg j_)];simp
def A6e(n:Nat)(h:n<9223372036854775808):bits .and .i64 (n:Int) 65535=((n%65536:Nat):Int):=by
 have:=K9 n 65535 h j_;rw[show ((65535:Nat):Int)=65535 from rfl]at this;rw[this];have h2:=uE n 16;rw[show 2^16-1=65535 from rfl,show 2^16=65536 from rfl]at h2;rw[h2]
def Ay6(n:Nat)(h:n<9223372036854775808):Sq 386 [.ptr 0 0] [(0,.box [Aa n])] (.tup []) [(0,.box [Aa (n/65536+n%65536:Nat)])]:=cT F386 ntmps386 λF hF=>by
 have e1:(n:Int).fdiv (2^(min (Int.toNat 16) IntKind.i64.bits))=((n/65536:Nat):Int):=Aux n 16 j_;have e2:=A6e n h
 conv=>whnf
 first|(refine⟨by omega,?_⟩;(conv=>whnf))|skip
 rw[e1,e2];refine iW ?_;exact A6 E .nil [] [(0,.box [Aa (n/65536+n%65536:Nat)])] (λ_ h=>h) E E kU
def A0g(n:Nat)(h:n<9223372036854775808):Sp 380 [Aa n] (Aa (He n)):=cT F380 ntmps380 λF hF=>by
 conv=>whnf
 refine Vr (α:={m:Nat // He m=He n∧m≤n}) (λm=>[(3,.clo (.func 386) [] [.ptr 1 0]),(1,.ptr 1 0)]) (λm=>[(1,.box [Aa m.1])]) (λm=>m.1) ⟨n,E,yG _⟩ []
  kU ?_
 rintro ⟨m,h1,h2⟩;dsimp only;refine oO ?_;constructor<;>intro h3
 ·have sy:65535<m:=by have:=zK h3;omega
  obtain ⟨g1,g2⟩:=Atq sy;refine oO ?_;refine Af (Ap [(0,1)] (Aq E E F386) (Ay6 m q_) E ⟨E,Y⟩ E ⟨.inl E,Y⟩) E E ?_;refine oO ?_;exact Xk (α:={m:Nat // He m=He n∧m≤n}) (x:=⟨m,h1,h2⟩) ⟨m/65536+m%65536,by rw[g1,h1],by omega⟩ [] g2 kU
 ·have sy:m≤65535:=by have:=zQ h3;omega
  have e:He n=m:=by rw[←h1,Apl sy]
  refine oO ?_;refine At E (.cons .tmp .nil) ?_ E;exact zH (λz:Nat=>Aa z) e
def I1(a b:UInt8):bits .or .i64 (IntKind.i64.wrap ((IntKind.i64.wrap (a.toNat:Int))*2^min (Int.toNat 8) IntKind.i64.bits)) (IntKind.i64.wrap (b.toNat:Int))=((a.toNat*256+b.toNat:Nat):Int):=by
 have h1:=a.toNat_lt;have h2:=b.toNat_lt;have e1:IntKind.i64.wrap (a.toNat:Int)=(a.toNat:Int):=by rw[IntKind.wrap_i64];omega
 have e2:IntKind.i64.wrap (b.toNat:Int)=(b.toNat:Int):=by rw[IntKind.wrap_i64];omega
 rw[e1,e2];have h3:IntKind.i64.wrap ((a.toNat:Int)*2^min (Int.toNat 8) IntKind.i64.bits)=((a.toNat*256:Nat):Int):=by
  show IntKind.i64.wrap ((a.toNat:Int)*256)=_;rw[IntKind.wrap_i64];omega
 rw[h3,Et _ _ q_ q_];congr 1;have h:=xQ (i:=8) (b:=b.toNat) q_ a.toNat;rw[vB a.toNat 256];exact h.symm
def Auv(l:List UInt8)(hl:l.length<100000)(h2:l.length%2=0):Sp 340 [.sl 1 Al l] (Aa (He (Mb l (l.length/2)))):=cT F340 ntmps340 λF hF=>by
 conv=>whnf
 refine A5 (l.length/2) (λj=>[(0,.sl 1 Al l),(3,Aa (Mb l j)),(4,Aa (2*(j:Int)))]) (λ_=>[]) [] kU ?_;intro j hj;have hw:=Auq l j;refine gF ?_;constructor<;>intro h
 ·have ab:2*j+1<l.length:=qA h;have hs:Mb l (j+1)=Mb l j+((l[2*j]'q_).toNat*256+(l[2*j+1]'ab).toNat):=by
   rw[Mb,Alg (show 2*j<l.length by omega),Alg ab]
  have e1:l[(2*(j:Int)).toNat]'q_=l[2*j]'q_:=by congr 1
  have e2:l[(2*(j:Int)+1).toNat]'q_=l[2*j+1]'ab:=by congr 1
  have hp:=I1 (l[2*j]'q_) (l[2*j+1]'ab);have em:=(l[2*j]'q_).toNat_lt;have du:=(l[2*j+1]'ab).toNat_lt;rw[←e1,←e2]at hp hs;rw[←e1]at em;rw[←e2]at du;refine oO ?_;refine⟨E,by omega,by omega,?_⟩
  conv=>whnf
  refine⟨by omega,?_⟩
  conv=>whnf
  refine iW ?_;refine⟨E,by omega,by omega,?_⟩
  conv=>whnf
  refine⟨(by rw[hp];unfold I64;omega),?_⟩
  conv=>whnf
  refine kW ?_;refine iW ?_;refine Ay [] q_ ⟨⟨E,E,zH (λz=>SV.val (.int .i64 z)) ?_,E,zH (λz=>SV.val (.int .i64 z)) ?_,E,Y⟩,Y,E,E⟩
  ·rw[hp,hs];omega
  ·omega
 have cg:j=l.length/2:=by
  have:=zQ h;omega
 have jz:¬bits .and .i64 (l.length:Int) 1=1:=by
  have:=K9 l.length 1 q_ j_;rw[show ((1:Nat):Int)=1 from rfl]at this;rw[this,Nat.and_one_is_mod,h2];decide
 have hd:=A0g (Mb l j) q_;rw[cg]at hd⊢;clear cg;refine oO ?_;refine⟨λh=>zY (zK h) jz,λ_=>?_⟩;refine oO ?_;refine c0 hd F380 ?_;exact gE
def A0f(l:List UInt8)(hl:l.length<100000)(h2:l.length%2=0):Sp 285 [.sl 1 Al l] (Aa (Qj l)):=cT F285 ntmps285 λF hF=>by
 have ha:=Auv l hl h2;have hle:=Apm (Mb l (l.length/2))
 conv=>whnf
 refine c0 ha F340 ?_;refine gF ?_;refine At E (.cons .tmp .nil) ?_ E;refine zH Aa ?_;rw[Qj];omega
def Ave(n:Nat):SV:=Aa n
def K3(l:List Nat):List UInt8:=l.flatMap λn=>[UInt8.ofNat (n/256),UInt8.ofNat n]
def Ahh(l:List Nat):(K3 l).length=2*l.length:=by
 induction l with
 |nil=>rfl
 |cons a l ih=>simp only[K3,vI,zW,yL,xM]at ih⊢;omega
def Anx(l:List Nat)(n:Nat):K3 (l++[n])=K3 l++[UInt8.ofNat (n/256),UInt8.ofNat n]:=by simp[K3]
def Ua(a b:Int)(h:0≤a∧a≤b):Sp 283 [Aa a,Aa b] (Ab true):=cT F283 ntmps283 λF hF=>by
 conv=>whnf
 refine⟨λ_=>?_,λh2=>zY (zQ h2) q_⟩;refine oO ?_;refine At E (.cons .tmp .nil) ?_ E;exact zH Ab (zO h.2).symm
def Ao2(l:List Nat)(hl:l.length<100000):Sq 284 [.val (.slice none 0 0),.sl 1 Ave l] [] (.osl 0) [(0,.row 1 Al (K3 l))]:=cT F284 ntmps284 λF hF=>by
 conv=>whnf
 refine B7 0 1000 1 Al E E ?_;refine A5 l.length (λj=>[(0,.osl 1000),(7,.sl 1 Ave l),(8,Aa l.length),(9,Aa j)]) (λj=>[(1000,.row 1 Al (K3 (l.take j)))]) [] kU ?_;intro j hj;have bh:=Ahh (l.take j);refine oO ?_;constructor<;>intro h
 ·have ab:j<l.length:=by simpa using h
  have e1:l[(j:Int).toNat]'q_=l[j]:=rfl;have af:K3 (l.take (j+1))=K3 (l.take j)++[UInt8.ofNat (l[j]/256),UInt8.ofNat l[j]]:=by
   rw[yD ab,Anx]
  obtain ⟨n,hn⟩:∃n,l[j]=n:=⟨_,rfl⟩
  rw[hn]at e1 af;have iq:=H4 n;refine oO ?_;refine⟨E,by omega,by omega,?_⟩;rw[e1]
  conv=>whnf
  refine⟨by omega,?_⟩
  conv=>whnf
  refine Af (Ag Γ.toTy 20 E E E E E (.row E) (.lit (e:=Al) (l:=[UInt8.ofNat (n/256),UInt8.ofNat n]) E iq) y_ (by simp[bh];omega) (by simp[bh];omega)) E E ?_;refine gF ?_;exact Ay [(1000,20)] ab ⟨⟨E,E,E,E,E,E,E,E,Y⟩,⟨.inl (zH (Ob.row 1 Al) af),E,Y⟩,E,E⟩
 ·have cg:j=l.length:=by
   have:¬j<l.length:=by simpa using h
   omega
  subst cg;rw[yN];refine oO ?_;exact done E (.cons .tmp .nil) [(0,1000)] [(0,.row 1 Al (K3 l))] (λ_ h=>h) E E kU
def Ayo(to:Nat):K3 [17664,20,0,0,16401,0,0,1,to/65536,to]=ip0 to:=by
 simp only[K3,ip0,be,vI,List.flatMap_nil,xS,wC,Nat.reducePow,Nat.pow_zero,Nat.pow_one,Nat.div_one,uP,Nat.reduceMul,Nat.reduceDiv]
def pktSV(to:Nat):SV:=.agg [Aa 0,Aa 0,Aa 64,Aa 17,Bb 1,Bb to,.val (.slice none 0 0)]
def ipPutS(to:Nat)(eh:to<4294967296):Sq 211 [pktSV to] [] (.tup [.osl 0,Aa 0]) [(0,.row 1 Al (ipL to))]:=cT F211 ntmps211 λF hF=>by
 have hs:=A0f (ip0 to) (by rw[S9];decide) (by rw[S9]);have a7:=A5x to eh;have gq:=S9 to;have j0:=Ayo to;have oy:=Ao2 [17664,20,0,0,16401,0,0,1,to/65536,to] y_;have mw:Qj (ip0 to)≤65535:=Nat.sub_le _ _;have iq:=H4 (Qj (ip0 to));rw[j0]at oy;generalize ip0 to=b at *;generalize Qj b=s at *
 conv=>whnf
 refine D8 ⟨⟨_,_,F283⟩,Ua 0 255 j_⟩ E E E E E E ?_;refine oF ?_;refine D8 ⟨⟨_,_,F283⟩,Ua 64 255 j_⟩ E E E E E E ?_;refine oF ?_;refine D8 ⟨⟨_,_,F283⟩,Ua 17 255 j_⟩ E E E E E E ?_;refine oF ?_;refine D8 ⟨⟨_,_,F283⟩,Ua 0 65535 j_⟩ E E E E E E ?_
 (refine oF ?_;refine bF ?_)
 refine⟨by unfold I64;decide,?_⟩
 conv=>whnf
 refine⟨by omega,?_⟩
 conv=>whnf
 refine⟨by omega,?_⟩
 conv=>whnf
 refine⟨by omega,?_⟩
 conv=>whnf
 have w1:IntKind.i64.wrap ((to:Int).fdiv (2^(min (Int.toNat 16) IntKind.u32.bits)))=((to/65536:Nat):Int):=by
  show IntKind.i64.wrap ((to:Int).fdiv 65536)=_;rw[xW _ j_,IntKind.wrap_i64];omega
 have w2:IntKind.i64.wrap (to:Int)=to:=by rw[IntKind.wrap_i64];omega
 refine Ag4 68 (e:=Ave) (l:=[17664,20,0,0,16401,0,0,1,to/65536,to]) E ?_ ?_
 ·show _=[SV.val _,SV.val _,SV.val _,SV.val _,SV.val _,SV.val _,SV.val _,SV.val _,SV.val (.int .i64 (IntKind.i64.wrap ((to:Int).fdiv (2^(min (Int.toNat 16) IntKind.u32.bits))))),SV.val (.int .i64 (IntKind.i64.wrap (to:Int)))];rw[w1,w2];rfl
 refine Aj 68 E ?_;refine Af (Ad [(0,69)] E F284 oy E Y E ⟨.inr E,Y⟩) E E ?_;refine oO ?_;refine Aqe [69] hs F285 E (.cons (.row E E) .nil) E E E ?_;refine oO ?_;have em:=(List.cons.inj iq).1;have du:=(List.cons.inj (List.cons.inj iq).2).1;refine⟨by omega,?_⟩
 conv=>whnf
 refine⟨by decide,by rw[gq];decide,?_⟩
 conv=>whnf
 refine⟨E,by rw[gq];decide,UInt8.ofNat (s/256),zH (λz=>[z]) em,E,?_⟩
 conv=>whnf
 refine⟨by decide,by simp[gq],?_⟩
 conv=>whnf
 refine⟨E,by simp[gq],UInt8.ofNat s,zH (λz=>[z]) du,E,?_⟩
 conv=>whnf
 refine Af (Ag Γ.toTy 84 E E E E E (.row E) .nil j_ (by simp[gq]) (by simp[gq])) E E ?_;refine oO ?_;refine done E (.cons .tmp (.cons .tmp .nil)) [(0,84)] [(0,.row 1 Al (ipL to))] (λ_ h=>h) E E ⟨Y,⟨.inl (zH (Ob.row 1 Al) ?_),E,Y⟩,E,E⟩;rw[←a7,xC];rfl
def u8_of(n:Nat):IntKind.u8.wrap (n:Int)=((UInt8.ofNat n).toNat:Int):=by
 rw[IntKind.wrap_u8];simp
def Ad9{x:Int}(h0:0≤x)(h1:x<18446744073709551616):IntKind.u64.wrap x=x:=by rw[IntKind.wrap_u64];omega
def Aja(ip:Nat)(h:ip<4294967296):Sp 210 [Bb ip] (A2 (D5 ip)):=cT F210 ntmps210 λF hF=>by
 conv=>whnf
 refine At E (.cons .tmp .nil) ?_ E;refine zH (λz=>SV.val (.int .u64 z)) ?_;have e:IntKind.u64.wrap (ip:Int)=ip:=Ad9 q_ q_;rw[e];have hb:=bits_or_u64_nat 2199023255552 ip j_ q_;rw[show ((2199023255552:Nat):Int)=2199023255552 from rfl]at hb;rw[hb,D5,zU];have h2:=xQ (i:=32) (b:=ip) q_ 512;rw[show 2^32*512=2199023255552 from rfl]at h2;rw[←h2]
def tagIsS(d s:Nat)(t:Int)(body:List UInt8)(ht:t≠33024):Sp 212 [A3h d s t body] (Ab false):=cT F212 ntmps212 λF hF=>by
 conv=>whnf
 refine At E (.cons .tmp .nil) ?_ E;exact zH Ab (zR.2 ht).symm
def A5d(v:Nat)(hv:v<9223372036854775808):bits .or .i64 (IntKind.i64.wrap (0*2^min (Int.toNat 12) IntKind.i64.bits)) (v:Int)=v:=by
 have h:=Et 0 v j_ hv;rw[Nat.zero_or]at h;exact h
def Auu(d s t v:Nat)(body:List UInt8)(ht:t≠33024)(y1:t≤65535)(hv:v≤4094)(hb:body.length≤1500):Sp 147 [A3h d s t body,Aa v,Aa 0] (.tup [A3h d s 33024 ([UInt8.ofNat (v/256),UInt8.ofNat v,UInt8.ofNat (t/256),UInt8.ofNat t]++body),Aa 0]):=cT F147 ntmps147 λF hF=>by
 have hor:=A5d v q_;have tb1:=H4 v;have tb2:=H4 t
 conv=>whnf
 refine c0 (tagIsS d s t body q_) F212 ?_
 (refine oF ?_;refine bF ?_)
 refine⟨λh=>zY (zK h) q_,λ_=>?_⟩
 (refine oF ?_;refine bF ?_;refine bF ?_)
 refine⟨λh=>zY (zK h) q_,λ_=>?_⟩;refine oO ?_;refine⟨λh=>zY (zK h) q_,λ_=>?_⟩;refine oO ?_;refine⟨by omega,?_⟩
 conv=>whnf
 rw[hor];refine⟨by omega,?_⟩
 conv=>whnf
 refine⟨by omega,?_⟩
 conv=>whnf
 refine Bw (Ag Γ.toTy 70 E E E E E (.lit (e:=Al) (l:=[UInt8.ofNat (v/256),UInt8.ofNat v,UInt8.ofNat (t/256),UInt8.ofNat t]) E ?_) .sl y_ (by simp;omega) (by simp;omega)) z_ E ?_
 ·have h1:=List.cons.inj tb1;have h2:=List.cons.inj tb2;have h3:=List.cons.inj h1.2;have h4:=List.cons.inj h2.2;simp only[xV,vG];rw[h1.1,h3.1,h2.1,h4.1]
 refine gH ?_;refine Aj 70 E ?_;exact dN
end Go.Sy.YticmobkdaneelaaGreatDoor
