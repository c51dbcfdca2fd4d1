/- Parts of a proof. -/
import Derived.Test.YtodbnbfjhjcanaaGreatDoorXA13
set_option maxHeartbeats 4000000
set_option linter.all false
namespace Go.Sy.Zaa
section
variable {α:Type}
def Aqi(p:α->Bool):List α->Nat
 |[]=>0
 |a::l=>if Aqi p l=l.length/\p a=true then l.length+1 else Aqi p l
def insE(lt:α->α->Bool)(x:α)(l:List α):List α:=l.take (l.length-Aqi (lt x) l)++x::l.drop (l.length-Aqi (lt x) l)
def Aih(lt:α->α->Bool):List α->List α->List α
 |out,[]=>out
 |out,x::l=>Aih lt (insE lt x out) l
def A24(lt:α->α->Bool)(l:List α):List α:=Aih lt [] l
end
section
variable {α:Type}
def bs(lt:α->α->Bool)(s:Nat)(l:List α):List α :=
 if h:s=0\/l.length<=s then A24 lt l else A24 lt (l.take s)++bs lt s (l.drop s)
termination_by l.length
decreasing_by
 simp only[yP];omega
end
section
variable {α:Type}
end
section
variable {α β:Type}
structure CmpOK(c:α->α->Int):Prop where
 anti:∀x y,c x y<0↔0<c y x
 trans:∀x y z,c x y<=0->c y z<=0->c x z<=0/\(c x z=0->c x y=0/\c y z=0)
theorem CmpOK.self{c:α->α->Int}(h:CmpOK c)(x:α):c x x=0:=by
 have:=h.anti x x;omega
theorem CmpOK.zero{c:α->α->Int}(h:CmpOK c){x y:α}(hx:c x y=0):c y x=0:=by
 have h1:=h.anti x y;have h2:=h.anti y x;omega
theorem CmpOK.alike{c:α->α->Int}(h:CmpOK c){x y z:α}(h1:c x y=0)(h2:c y z=0):c x z=0:=by
 have a:=(h.trans x y z z_ z_).1;have b:=(h.trans z y x (by rw[h.zero h2];omega) (by rw[h.zero h1];omega)).1;have d:=h.anti x z;have e:=h.anti z x;omega
def dR(a b:Int):Int:=if a≠0 then a else b
theorem CmpOK.then{c d:α->α->Int}(hc:CmpOK c)(hd:CmpOK d):CmpOK (λx y=>dR (c x y) (d x y)) where
 anti x y:=by
  have h1:=hc.anti x y;have h2:=hc.anti y x;have h3:=hd.anti x y;unfold dR;by_cases h:c x y=0
  .rw[zD z_,zD z_];exact h3
  .rw[zE h,zE z_];exact h1
 trans x y z:=by
  unfold dR;intro h1 h2;have t:=hc.trans x y z;by_cases pg:c x y=0
  .rw[zD z_]at h1;by_cases ly:c y z=0
   .rw[zD z_]at h2;have hxz:=hc.alike pg ly;rw[zD z_,zD z_,zD z_];exact hd.trans x y z h1 h2
   .rw[zE ly]at h2;have t:=t z_ h2;have h0:c x z≠0:=λe=>ly (t.2 e).2
    rw[zE h0];exact⟨t.1,λe=>zX e h0⟩
  .rw[zE pg]at h1;have ly:c y z<=0:=by
    by_cases ly:c y z=0
    .omega
    .rw[zE ly]at h2;exact h2
   have t:=t h1 ly;have h0:c x z≠0:=λe=>pg (t.2 e).1
   rw[zE h0];exact⟨t.1,λe=>zX e h0⟩
def Io(c:α->α->Int):List α->List α->Int
 |[],[]=>0
 |[],_::_=>-1
 |_::_,[]=>1
 |x::a,y::b=>dR (c x y) (Io c a b)
theorem Abi{c:α->α->Int}(h:CmpOK c):∀(a b:List α),Io c a b<0↔0<Io c b a
 |[],[]=>by simp[Io]
 |[],_::_=>by simp[Io]
 |_::_,[]=>by simp[Io]
 |x::a,y::b=>by
  have ih:=Abi h a b;have h1:=h.anti x y;have h2:=h.anti y x;rw[Io,Io];unfold dR;by_cases h0:c x y=0
  .rw[zD z_,zD z_];exact ih
  .rw[zE h0,zE z_];exact h1
theorem fE{c:α->α->Int}(h:CmpOK c):∀(a b d:List α),Io c a b<=0->Io c b d<=0->Io c a d<=0/\(Io c a d=0->Io c a b=0/\Io c b d=0)
 |[],[],[],_,_=>by simp[Io]
 |[],[],_::_,_,_=>by simp[Io]
 |[],_::_,[],_,h2=>by simp[Io]at h2
 |[],_::_,_::_,_,_=>by simp[Io]
 |_::_,[],_,h1,_=>by simp[Io]at h1
 |_::_,_::_,[],_,h2=>by simp[Io]at h2
 |x::a,y::b,z::d,h1,h2=>by
  have ih:=fE h a b d;rw[Io]at h1 h2|-;rw[Io,Io];unfold dR at h1 h2|-;have t:=h.trans x y z;by_cases pg:c x y=0
  .rw[zD z_]at h1;by_cases ly:c y z=0
   .rw[zD z_]at h2;have hxz:=h.alike pg ly;rw[zD z_,zD z_,zD z_];exact ih h1 h2
   .rw[zE ly]at h2;have t:=t z_ h2;have h0:c x z≠0:=λe=>ly (t.2 e).2
    rw[zE h0];exact⟨t.1,λe=>zX e h0⟩
  .rw[zE pg]at h1;have ly:c y z<=0:=by
    by_cases ly:c y z=0
    .omega
    .rw[zE ly]at h2;exact h2
   have t:=t h1 ly;have h0:c x z≠0:=λe=>pg (t.2 e).1
   rw[zE h0];exact⟨t.1,λe=>zX e h0⟩
theorem CmpOK.list{c:α->α->Int}(h:CmpOK c):CmpOK (Io c):=⟨Abi h,fE h⟩
end
open Go.Proofs Go.Proofs.Tryz
structure LineM where
 row:Int
 kind:Int
 dev:ByteArray
 port:ByteArray
 peer:ByteArray
 far:ByteArray
 name:ByteArray
 mac:Int
 addr:Int
 bits:Int
 vlan:Int
 num:Int
 cost:Int
 tagged:List Int
 imports:List Int
 exports:List Int
 addrs:List Int
def Ch(l:LineM):List SV:=[Aa l.row,Aa l.kind,Ar l.dev,Ar l.port,Ar l.peer,Ar l.far,Ar l.name,Bi l.mac,A9 l.addr,Aa l.bits,Aa l.vlan,Aa l.num,Aa l.cost,.sl 1 Aa l.tagged,.sl 1 Aa l.imports,.sl 1 Aa l.exports,.sl 1 A9 l.addrs]
def A3(l:LineM):SV:=.agg [Aa l.row,Aa l.kind,Ar l.dev,Ar l.port,Ar l.peer,Ar l.far,Ar l.name,Bi l.mac,A9 l.addr,Aa l.bits,Aa l.vlan,Aa l.num,Aa l.cost,.sl 1 Aa l.tagged,.sl 1 Aa l.imports,.sl 1 Aa l.exports,.sl 1 A9 l.addrs]
def Axn(x:Int)(l:List Int):orI (x::l)=dR x (orI l):=by
 rw[orI];unfold dR;split<;>simp_all
theorem CmpOK.const{α:Type}:CmpOK (λ_ _:α=>(0:Int)):=⟨λ_ _=>by simp,λ_ _ _ _ _=>by simp⟩
theorem CmpOK.or{α:Type}{c:α->α->Int}{d:α->α->List Int}(hc:CmpOK c)(hd:CmpOK (λx y=>orI (d x y))):CmpOK (λx y=>orI (c x y::d x y)):=by
 have h:=hc.then hd;simp only[Axn];exact h
attribute [local irreducible]G DR
set_option maxRecDepth 100000
def F139:Fun prog 139 Tryz.f139 (Abp Tryz.f139):=⟨func139,rfl,by kernel_rfl⟩
def F221:Fun prog 221 Tryz.f221 (Abp Tryz.f221):=⟨func221,rfl,by kernel_rfl⟩
def nK(s p:ByteArray):Sp 261 [Ar s,Ar p] (Ar (mkT (Lib.trimPrefix s.data.toList p.data.toList))) :=
 Spec.of_calls λk w vs hi hr _=>by
  simp only[RdL]at hr;obtain ⟨v,r,rfl,h3,u,r',rfl,h4,rfl⟩:=hr;have h3':v=.string s:=by simpa only [Ar,Rd] using h3
  have h4':u=.string p:=by simpa only [Ar,Rd] using h4
  subst h3' h4';exact(Tryz.strings_TrimPrefix s p w).mono λe w' ⟨he,hw⟩=>⟨he,hw▸RowKit.Below.refl _ _⟩
def Aon(s:ByteArray)(c:UInt8)(m:Int)(hm:Lib.indexByte s.data.toList c=m):Sp 221 [Ar s,Ar ⟨#[c]⟩] (Aa m) :=
 Spec.of_calls λk w vs hi hr _=>by
  subst hm;simp only[RdL]at hr;obtain ⟨v,r,rfl,h3,u,r',rfl,h4,rfl⟩:=hr;have h3':v=.string s:=by simpa only [Ar,Rd] using h3
  have h4':u=.string ⟨#[c]⟩:=by simpa only [Ar,Rd] using h4
  subst h3' h4';exact(Tryz.stringslite_Index_one s c w).mono λe w' ⟨he,hw⟩=>⟨he,hw▸RowKit.Below.refl _ _⟩
def cutT(c:UInt8)(s:ByteArray):ByteArray×ByteArray×Bool :=
 if 0<=Lib.indexByte s.data.toList c then (s.extract 0 (Ly c s.data.toList),s.extract (Ly c s.data.toList+1) s.size,true) else (s,⟨#[]⟩,false)
def T3(l:List UInt8)(c:UInt8):Lib.indexByte l c<l.length:=by
 induction l with
 |nil=>simp[Lib.indexByte]
 |cons b l ih=>
  unfold Lib.indexByte;rw[yL];split
  .omega
  split
  .omega
  .omega
def Ayq(s:ByteArray)(c:UInt8)(hs:s.size<=1000000000):Sp 139 [Ar s,Ar ⟨#[c]⟩] (.tup [Ar (cutT c s).1,Ar (cutT c s).2.1,Ab (cutT c s).2.2]):=cT F139 ntmps139 λF hF=>by
 have aa:=cutT.eq_1 c s;generalize cutT c s=res at *;have ab:=T3 s.data.toList c;have bg:s.data.toList.length=s.size:=rfl;have hid:Ly c s.data.toList=(Lib.indexByte s.data.toList c).toNat:=rfl;obtain ⟨m,tn⟩:=kE (Lib.indexByte s.data.toList c);have q:=Aon s c m tn;rw[tn]at aa ab hid;refine gP q F221 ?_;refine gK ?_ ?_<;>intro h
 .have h0:0<=m:=zO h;rw[zE h0,hid]at aa;have e1:(m+1).toNat=m.toNat+1:=by omega
  have tt:(⟨#[c]⟩:ByteArray).size=1:=rfl;subst aa;refine fU ?_;refine⟨⟨by omega,by omega,by omega⟩,?_⟩;refine fW ?_;refine⟨by show I64 (m+1);unfold I64;omega,?_⟩;refine fW ?_;refine⟨⟨by omega,by omega,by omega⟩,?_⟩;refine fW ?_;refine⟨j_,?_⟩;refine fW ?_;refine Aq E (.cons .tmp (.cons .tmp Ap)) ?_ E;show SV.tup [Ar _,Ar (s.extract (m.toNat+1) s.size),_]=SV.tup [Ar _,Ar (s.extract (m+1).toNat _),_];rw[e1];rfl
 .have h0:¬0<=m:=zQ h;rw[zD h0]at aa;subst aa;exact gD
def Zl(s:ByteArray)(c:UInt8)(hs:s.size<=1000000000):Sp 68 [Ar s,Ar ⟨#[c]⟩] (.tup [Ar (cutT c s).1,Ar (cutT c s).2.1,Ab (cutT c s).2.2]):=cT F68 ntmps68 λF hF=>by
 have q:=Ayq s c hs;generalize cutT c s=res at *;refine gP q F139 ?_;exact gD
def Xj(l:List UInt8):Int:=l.foldl (λn c=>10*n+((c.toNat:Int)-48)) 0
def Ajp(s:ByteArray):Bool:=s.data.toList.head?==some 45
def Mg(s:ByteArray):List UInt8:=if Ajp s=true then s.data.toList.drop 1 else s.data.toList
def numV(s:ByteArray):Int:=if Ajp s=true then 0-Xj (Mg s) else Xj (Mg s)
def numR(s:ByteArray)(lo hi:Int):Int×Bool :=
 if (Mg s).length<1\/10<(Mg s).length then (0,false) else if (Mg s).all K7=false then (0,false)
 else if numV s<lo\/hi<numV s then (0,false) else if (Ajh (numV s)==s)=true then (numV s,true) else (0,false)
def Ae1(l:List UInt8)(c:UInt8):Xj (l++[c])=10*Xj l+((c.toNat:Int)-48):=by
 rw[Xj,xO];rfl
def Arh:∀(k:Nat) (l:List UInt8),l.length=k->(∀c∈l,K7 c=true)->0<=Xj l/\Xj l<10^k
 |0,l,hl,_=>by
  rw[vH.1 hl];exact⟨xN _,by decide⟩
 |k+1,l,hl,h=>by
  have ag:l≠[]:=λe=>by rw[e]at hl;cases hl
  have e:=uN ag;have h1:=Arh k l.dropLast (by rw[uX];omega) λc hc=>h c (List.dropLast_subset l hc)
  have h2:=h _ (List.getLast_mem ag);simp only[K7,zG,zJ]at h2;rw[<-e,Ae1,Int.pow_succ];omega
def A2j{l:List UInt8}(hl:l.length<=10)(h:∀c∈l,K7 c=true):0<=Xj l/\Xj l<10000000000:=by
 have h1:=Arh _ l rfl h;refine⟨h1.1,Int.lt_of_lt_of_le h1.2 ?_⟩;have h2:(10:Nat)^l.length<=10^10:=wY y_ hl;have h3:((10:Nat)^l.length:Int)<=((10^10:Nat):Int):=by exact_mod_cast h2
 simpa using h3
def Av3(s:ByteArray):Lib.trimPrefix s.data.toList [45]=Mg s:=by
 unfold Lib.trimPrefix Mg Ajp;cases s.data.toList with
 |nil=>simp[Lib.hasPrefix]
 |cons c l=>
  by_cases hc:c=45
  .subst hc;simp[Lib.hasPrefix]
  .simp[Lib.hasPrefix,hc,Ne.symm hc]
def lV{s:ByteArray}{i:Nat}(h:i<s.data.toList.length):Bw s i=s.data.toList[i]:=by
 rw[Bw,wF,zR h];rfl
def Avw{α:Type}{p:α->Bool}{l:List α}{j:Nat}(hI:Ek (λ_ x=>p x) l j):∀c∈l.take j,p c=true:=by
 intro c hc;obtain ⟨i,hi,rfl⟩:=yY.1 hc;rw[zW]at hi;rw[wH];exact hI i z_ z_
def dL{α:Type}{p:α->Bool}{l:List α}{j:Nat}(hI:Ek (λ_ x=>p x) l j)(hj:l.length<=j):l.all p=true:=by
 rw[yU];intro x hx;obtain ⟨i,hi,rfl⟩:=yY.1 hx;exact hI i hi z_
def all_at'{α:Type}{p:α->Bool}{l:List α}{j:Nat}(hj:j<l.length)(h:p l[j]=false):l.all p=false:=by
 cases ha:l.all p
 .rfl
 .rw[yU]at ha;rw[ha _ (zI hj)]at h;cases h
def u8_sub2{c:UInt8}(h:K7 c=true):IntKind.i64.wrap (IntKind.u8.wrap ((c.toNat:Int)-48))=(c.toNat:Int)-48:=by
 simp only[K7,zG,zJ]at h;rw[IntKind.wrap_u8,IntKind.wrap_i64];omega
def neg_digs{s:ByteArray}(h:Ajp s=true):(Mg s).length+1=s.size/\∀j,j<(Mg s).length->Bw s (1+j)=(Mg s).getD j 0:=by
 have bg:s.data.toList.length=s.size:=rfl;rw[Mg,zE h];rw[Ajp]at h;cases hd:s.data.toList with
 |nil=>rw[hd]at h;cases h
 |cons c l=>
  rw[hd]at bg;refine⟨by simp at bg|-;omega,λj hj=>?_⟩;rw[Bw,hd,tI];rfl
def pos_digs{s:ByteArray}(h:Ajp s=false):(Mg s).length=s.size/\∀j,j<(Mg s).length->Bw s j=(Mg s).getD j 0:=by
 rw[Mg,zD (by simp[h])];exact⟨E,λj hj=>rfl⟩
def Ajj(s:ByteArray)(lo hi:Int):Sp 206 [Ar s,Aa lo,Aa hi] (.tup [Aa (numR s lo hi).1,Ab (numR s lo hi).2]):=cT F206 ntmps206 λF hF=>by
 have aa:=numR.eq_1 s lo hi;generalize numR s lo hi=res at *;have q:=nK s ⟨#[45]⟩;rw[show (⟨#[45]⟩:ByteArray).data.toList=[45] from rfl,Av3]at q;have hnv:=numV.eq_1 s;have wq:=@neg_digs s;have nh:=@pos_digs s;generalize numV s=nv at *;generalize hD:Mg s=D at *;have hDs:(mkT D).size=D.length:=It D;refine gP q F261 ?_;by_cases h1:D.length<1\/10<D.length
 .rw[zE h1]at aa;subst aa;refine gK ?_ ?_<;>intro h
  .exact gD
  .have h2:1<=D.length:=by
    cases D with
    |nil=>exact zX (show (mkT []==(⟨#[]⟩:ByteArray))=true from rfl) (by rw[show (mkT []==(⟨#[]⟩:ByteArray))=false from h];simp)
    |cons=>simp
   refine gK ?_ ?_<;>intro h
   .exact gD
   .exact zX (zQ h) z_
 rw[zD h1]at aa;have ag:(mkT D==(⟨#[]⟩:ByteArray))=false:=by
  cases he:(mkT D==(⟨#[]⟩:ByteArray))
  .rfl
  .have e:(mkT D).data=(⟨#[]⟩:ByteArray).data:=by simpa using (show ((mkT D).data==(⟨#[]⟩:ByteArray).data)=true from he)
   have:=zH Array.size e;have e2:(mkT D).data.size=D.length:=hDs;rw[e2]at this;have e3:(⟨#[]⟩:ByteArray).data.size=0:=rfl;omega
 refine fU ?_;refine⟨λh=>zX h (by rw[ag];simp),λ_=>?_⟩;refine fU ?_;refine⟨λh=>zX (zO h) z_,λ_=>?_⟩;refine fU ?_;refine A7 D.length (λj=>Ek (λ_ c=>K7 c) D j) (λj=>[(0,Ar s),(1,Aa lo),(2,Aa hi),(8,Ar (mkT D)),(9,Aa (Xj (D.take j))),(21,Aa D.length),(22,Aa j)]) (λ_=>[]) [] (Bh _ _)
  ⟨⟨rfl,rfl,rfl,rfl,rfl,rfl,rfl,rfl,rfl,rfl,zH (λz:Nat=>SV.val (.int .i64 z)) hDs.symm,rfl,rfl,rfl,trivial⟩,trivial,rfl,rfl⟩ ?_
 intro j hj hI;have hv:=A2j (l:=D.take j) (by rw[zW];omega) (Avw hI);refine gK ?_ ?_<;>intro h
 .have ab:j<D.length:=qA h;have hb:Bw (mkT D) (j:Int).toNat=D[j]:=by
   have:j<(mkT D).data.toList.length:=by rw[Kv];exact ab
   rw[yE,lV this];simp[mkT]
  have cu:=λh=>@all_at' _ K7 D j ab h
  have eo:=λh=>Bc (p:=λ_ c=>K7 c) hI ab h
  have ai:Xj (D.take (j+1))=10*Xj (D.take j)+((D[j].toNat:Int)-48):=by rw[yA ab,Ae1]
  have hu:=@u8_sub2 D[j];generalize D[j]=c at *;generalize Xj (D.take j)=v at *;have lg:=c.toNat_lt;refine fU ?_;refine⟨by omega,by omega,?_⟩;rw[hb];refine fW ?_;constructor<;>intro h2
  .have h3:c.toNat<48:=by have:=zO h2;omega
   rw[zE (cu (by rw[K7,zL z_];rfl))]at aa;subst aa;exact gD
  have h2:=zQ h2;refine fU ?_;refine⟨by omega,by omega,?_⟩;rw[hb];refine fW ?_;constructor<;>intro h3
  .have h3:57<c.toNat:=by have:=zO h3;omega
   rw[zE (cu (by rw[K7,zL (by omega:¬c.toNat<=57),wS]))]at aa;subst aa;exact gD
  have h3:=zQ h3;have hdg:K7 c=true:=by rw[K7,zK z_,zK z_];rfl
  have hu:=hu hdg;refine fU ?_;refine⟨by show I64 (10*v);unfold I64;omega,?_⟩;refine fW ?_;refine⟨by omega,by omega,?_⟩;rw[hb];refine fW ?_;rw[hu];refine⟨by show I64 (10*v+((c.toNat:Int)-48));unfold I64;omega,?_⟩;refine gO ?_;exact A6 [] hI z_ (eo hdg) ⟨⟨E,E,E,E,E,E,E,E,zH Aa ai,E,E,E,E,E,q_⟩,q_,E,E⟩
 .have cq:j=D.length:=qB h;subst cq;rw[zD (by rw[dL hI (yG _)];simp)]at aa;rw[yM]at hv|-;have fin:∀nv:Int,nv=(if Ajp s=true then 0-Xj D else Xj D)->(-10000000000<nv/\nv<10000000000)/\Ahp nv:=λnv h=>by
   unfold Ahp;split at h<;>omega
  have fn:=fin nv hnv;have q2:=Atk nv fn.2;have my:((mkT D).size:Int)=D.length:=by rw[hDs]
  cases hn:Ajp s
  .rw[hn,zD qq]at hnv;have h4:=(nh hn).1;rw[<-hnv];refine fU ?_;refine⟨λh=>zX (zO h) z_,λ_=>?_⟩;refine gK ?_ ?_<;>intro h
   .rw[zE (.inl (zO h))]at aa;subst aa;exact gD
   have h5:=zQ h;refine gK ?_ ?_<;>intro h
   .rw[zE (.inr (zO h))]at aa;subst aa;exact gD
   have h6:=zQ h;rw[zD z_]at aa;refine gN q2 F262 ?_;cases he:(Ajh nv==s)
   .rw[he,zD qq]at aa;subst aa;refine fU ?_;refine⟨λ_=>?_,λh=>zX h (by rw[he];simp)⟩;exact gD
   .rw[he,zE rfl]at aa;subst aa;refine fU ?_;refine⟨λh=>zX h (by rw[he];simp),λ_=>?_⟩;exact gD
  .rw[hn,zE rfl]at hnv;have h4:=(wq hn).1;have hw:IntKind.i64.wrap (0-Xj D)=nv:=by rw[IntKind.wrap_i64];omega
   refine fU ?_;refine⟨λ_=>?_,λh=>zX (zQ h) z_⟩;refine fU ?_;rw[hw];constructor<;>intro h
   .rw[zE (.inl (zO h))]at aa;subst aa;exact gD
   have h5:=zQ h;refine gK ?_ ?_<;>intro h
   .rw[zE (.inr (zO h))]at aa;subst aa;exact gD
   have h6:=zQ h;rw[zD z_]at aa;refine gN q2 F262 ?_;cases he:(Ajh nv==s)
   .rw[he,zD qq]at aa;subst aa;refine fU ?_;refine⟨λ_=>?_,λh=>zX h (by rw[he];simp)⟩;exact gD
   .rw[he,zE rfl]at aa;subst aa;refine fU ?_;refine⟨λh=>zX h (by rw[he];simp),λ_=>?_⟩;exact gD
def Kz:∀(l:List UInt8) (c:UInt8),-1<=Lib.indexByte l c
 |[],_=>by simp[Lib.indexByte]
 |b::l,c=>by
  unfold Lib.indexByte;have:=Kz l c;split
  .omega
  split
  .omega
  .omega
def Hf:List UInt8->List UInt8->List ByteArray
 |cur,[]=>if cur=[] then [] else [mkT cur]
 |cur,c::r=>if c=10 then mkT cur::Hf [] r else Hf (cur++[c]) r
def rowsT(b:List UInt8):List ByteArray×Int :=
 if 20000<b.length then ([],3) else if 400<(Hf [] b).length then ([],3) else (Hf [] b,0)
def eC:∀(l cur:List UInt8),Lib.indexByte l 10=-1->Hf cur l=if cur++l=[] then [] else [mkT (cur++l)]
 |[],cur,_=>by rw[Hf,xG]
 |c::l,cur,h=>by
  unfold Lib.indexByte at h;by_cases hc:(c==10)=true
  .rw[zE hc]at h;omega
  rw[zD hc]at h;have hi:Lib.indexByte l 10=-1:=by
   by_cases h1:(Lib.indexByte l 10 == -1)=true
   .simpa using h1
   .rw[zD h1]at h;have:=Kz l 10;omega
  rw[Hf,zD (kS hc),eC l _ hi];simp
def eB:∀(l cur:List UInt8),0<=Lib.indexByte l 10->Hf cur l=mkT (cur++l.take (Lib.indexByte l 10).toNat)::Hf [] (l.drop ((Lib.indexByte l 10).toNat+1))
 |[],cur,h=>by simp[Lib.indexByte]at h
 |c::l,cur,h=>by
  unfold Lib.indexByte at h|-;by_cases hc:(c==10)=true
  .rw[zE hc,Hf,zE (kS hc)];simp
  rw[zD hc]at h|-;by_cases h1:(Lib.indexByte l 10 == -1)=true
  .rw[zE h1]at h;omega
  rw[zD h1]at h|-;have:=Kz l 10;have h2:0<=Lib.indexByte l 10:=by
   have h3:Lib.indexByte l 10≠-1:=kS h1;omega
  have e:(Lib.indexByte l 10+1).toNat=(Lib.indexByte l 10).toNat+1:=by omega
  rw[Hf,zD (kS hc),eB l _ h2,e];simp
def Ana{l:List UInt8}(h:l≠[]):Hf [] l=(cutT 10 (mkT l)).1::Hf [] (cutT 10 (mkT l)).2.1.data.toList/\(cutT 10 (mkT l)).2.1.data.toList.length<l.length:=by
 have ic:=xU.2 h;have ab:=T3 l 10;have wv:=Kz l 10;have e0:(mkT l).size=l.length:=It l;rw[cutT,Kv];split
 .rename_i h0;dsimp only;rw[eB l [] h0,Ex,Ex,Kv,e0,yM];refine⟨E,?_⟩;rw[yP];omega
 .rename_i h0;dsimp only;rw[eC l [] z_,wC,zD h];exact⟨E,ic⟩
def Atp(l:List UInt8):(mkT l == ⟨#[]⟩)=decide (l=[]):=by
 cases l with
 |nil=>rfl
 |cons c l=>
  rw[zL qq];cases he:(mkT (c::l)==(⟨#[]⟩:ByteArray))
  .rfl
  .have e:(mkT (c::l)).data=(⟨#[]⟩:ByteArray).data:=by simpa using (show ((mkT (c::l)).data==(⟨#[]⟩:ByteArray).data)=true from he)
   have:=zH Array.size e;simp[mkT]at this
def Ad8(b:List UInt8)(hb:b.length<=1000000):Sp 36 [.sl 1 Al b] (.tup [.sl 1 Ar (rowsT b).1,Aa (rowsT b).2]):=cT F36 ntmps36 λF hF=>by
 have aa:=rowsT.eq_1 b;generalize rowsT b=res at *;refine fW ?_;constructor<;>intro h
 .rw[zE (qA h)]at aa;subst aa;refine fU ?_;exact Ao 2 1 Ar E gD
 rw[zD (qB h)]at aa;refine fU ?_;refine Ai (Hv Γ.toTy (bs:=b) E E E E E E E .sl) E E ?_;refine B6 4 1000 1 Ar E E (fU ?_);refine Ci (λx:List ByteArray×List UInt8=>Hf [] b=x.1++Hf [] x.2/\x.1.length+x.2.length<=b.length) (λx=>[(4,.osl 1000),(5,Ar (mkT x.2))]) (λx=>[(1000,.row 1 Ar x.1)]) (λx=>x.2.length) ([],b) [] ⟨E,by simp⟩
  kU ?_
 rintro ⟨out,rest⟩ ⟨hI,hlen⟩;dsimp only at hI hlen|-;have sy:=Atp rest;refine fU ?_;by_cases hr:rest=[]
 .rw[zK hr]at sy;refine⟨λh=>zX h (by rw[sy];simp),λ_=>?_⟩;have em:Hf [] b=out:=by rw[hI,hr];simp[Hf]
  rw[em]at aa;refine gK ?_ ?_<;>intro h
  .rw[zE (qA h)]at aa;subst aa;refine fU ?_;exact Ao 2 1 Ar E gD
  .rw[zD (qB h)]at aa;subst aa;exact Aj 1000 E gD
 .rw[zL hr]at sy;refine⟨λ_=>?_,λh=>zX h (by rw[sy];simp)⟩;obtain ⟨hc,ab⟩:=Ana hr;have q:=Zl (mkT rest) 10 (by rw[It];omega);obtain ⟨⟨row,rs,more⟩,hct⟩:∃p,cutT 10 (mkT rest)=p:=⟨_,rfl⟩
  rw[hct]at q hc ab;dsimp only at q hc ab;have hrz:rs.data.toList.length=rs.size:=rfl;refine gN q F68 ?_;refine fU ?_;refine Ai (Ah Γ.toTy 23 E E E E E (.row E) (.lit (e:=Ar) (l:=[row]) E E) qq kO kO) E E (fU ?_);refine Ay (out++[row],rs.data.toList) [(1000,23)] ⟨by rw[hI,hc];simp,by simp;omega⟩ (by dsimp only;omega) ⟨⟨E,E,zH Ar (Ku rs),E,q_⟩,⟨.inl E,E,q_⟩,E,E⟩
def Jt(d:UInt8):List UInt8->List UInt8->List ByteArray
 |cur,[]=>[mkT cur]
 |cur,c::r=>if c=d then mkT cur::Jt d [] r else Jt d (cur++[c]) r
def Tc(d:UInt8):∀(l cur:List UInt8),d∉l->Jt d cur l=[mkT (cur++l)]
 |[],cur,_=>by rw[Jt,xG]
 |c::l,cur,h=>by
  simp only[yH,vW]at h;rw[Jt,zD (Ne.symm h.1),Tc d l _ h.2];simp
def Tb(d:UInt8):∀(l cur:List UInt8),d∈l->Jt d cur l=mkT (cur++l.take (Ly d l))::Jt d [] (l.drop (Ly d l+1))
 |[],cur,h=>by simp at h
 |c::l,cur,h=>by
  by_cases hc:c=d
  .subst hc;rw[Jt,zE rfl,Ly];simp[Lib.indexByte]
  .have h2:d∈l:=by
    simp only[yH]at h;exact h.resolve_left (Ne.symm hc)
   have h3:=(Ke h2).1;have e:Ly d (c::l)=Ly d l+1:=by
    have e1:Lib.indexByte (c::l) d=Lib.indexByte l d+1:=by
     rw[Lib.indexByte.eq_def];dsimp only;rw[zD (kS hc),zD kO]
    rw[Ly,Ly,e1];omega
   rw[Jt,zD hc,Tb d l _ h2,e];simp
def U8(d:UInt8)(l:List UInt8):∀j,C9 d l (j+1)=C9 d (l.drop (Ly d l+1)) j
 |0=>rfl
 |j+1=>by
  rw[C9,U8 d l j];rfl
def Adp(d:UInt8):∀(k:Nat) (l:List UInt8),l.length<=k->Cy d (mkT l)=Jt d [] l
 |0,l,h=>by
  rw[vH.1 (by omega:l.length=0)];simp[Cy,Jt,C9,mkT]
 |k+1,l,h=>by
  by_cases hd:d∈l
  .have h1:=T7 hd;have h2:=(Ke hd).2;have h3:(l.drop (Ly d l+1)).length<=k:=by rw[yP];omega
   rw[Tb d l [] hd,<-Adp d k _ h3];simp only[Cy,Kv];rw[<-h1,List.range_succ_eq_map,xZ,List.map_map,wB,wC,U8];congr 2;apply tB;intro j _;show mkT (Vh d l (j+1))=_;rw[Vh,Vh,U8]
  .have h1:l.count d=0:=List.count_eq_zero.2 hd;rw[Tc d l [] hd];simp[Cy,Kv,h1,C9]
def Ado(d:UInt8)(s:ByteArray):Cy d s=Jt d [] s.data.toList:=by
 rw[<-Adp d _ _ (yG _),Ku]
def digI(c:UInt8):Int:=if 48<=c.toNat/\c.toNat<=57 then (c.toNat:Int)-48 else if 97<=c.toNat/\c.toNat<=102 then (c.toNat:Int)-87 else 16
def lS(c:UInt8):0<=digI c/\digI c<=16:=by
 unfold digI;split
 .omega
 split
 .omega
 .omega
end Go.Sy.Zaa
namespace Go.Sy.Zaa
open Go.Proofs Go.Proofs.Tryz
def Lr(a b:ByteArray):(a==b)=true↔a=b:=by
 cases a with
 |mk a=>
  cases b with
  |mk b=>
   show (a==b)=true↔_;simp
instance:LawfulBEq ByteArray where
 eq_of_beq h:=(Lr _ _).1 h
 rfl:=(Lr _ _).2 rfl
def Ayt(c:UInt8):Bool:=decide (97<=c.toNat)&&decide (c.toNat<=122)
def A26:List UInt8->Bool
 |[]=>false
 |c::l=>Ayt c&&l.all λc=>Ayt c||K7 c
def A1(s:ByteArray):Bool:=A26 s.data.toList&&decide (s.size<=12)
def aG(s:ByteArray)(i:Nat):Bool:=decide (digI (Bw s (3*i))<=15)&&decide (digI (Bw s (3*i+1))<=15)&&(decide (5<=i)||decide ((Bw s (3*i+2)).toNat=58))
def Xh(s:ByteArray):Nat->Int
 |0=>0
 |i+1=>Xh s i*256+digI (Bw s (3*i))*16+digI (Bw s (3*i+1))
def macR(s:ByteArray):Int×Bool:=if s.size=17/\(List.range 6).all (aG s)=true then (Xh s 6,true) else (0,false)
def Ms(m:Int):Bool:=decide (m%281474976710656/4294967296=512)
def statB(m:Int):Bool:=decide (m<=281474976710655)&&!(Ms m)&&!(E1 m.toNat)
def I6(one:ByteArray->Int×Bool):List Int->List ByteArray->List Int×Bool
 |out,[]=>(out,true)
 |out,p::r=>if (one p).2=false\/out.length=16\/(∃x,out.getLast? = some x/\(one p).1<=x) then ([],false) else I6 one (out++[(one p).1]) r
def Ii(one:ByteArray->Int×Bool)(s:ByteArray):List Int×Bool:=I6 one [] (Cy 44 s)
def A2m:ByteArray:=⟨#[45]⟩
def listR(a7:Int)(s:ByteArray):List Int×Bool:=if s=A2m then ([],true) else Ii (λp=>numR p 1 a7) s
def D6(s:ByteArray):List Int×Bool:=Ii Dy s
def prefixR(s:ByteArray):(Int×Int)×Bool :=
 if (cutT 47 s).2.2=false\/(Dy (cutT 47 s).1).2=false\/(smallT (cutT 47 s).2.1 32).2=false then ((0,0),false) else (((Dy (cutT 47 s).1).1,(smallT (cutT 47 s).2.1 32).1),true)
def subnetB(a bits:Int):Bool:=decide (1<=bits)&&decide (bits<=30)&&decide (a≠D9 a bits)&&decide (a≠H4 a bits)
def Bt:List (Bool×Int)->Int
 |[]=>0
 |(b,e)::l=>if b=true then e else Bt l
def Au(cur:Int)(b:Bool)(e:Int):Int:=if b=true/\cur=0 then e else cur
def kindL(s:ByteArray):Int :=
 if s=⟨#[100,101,118,105,99,101]⟩ then 1 else if s=⟨#[112,111,114,116]⟩ then 2 else if s=⟨#[108,105,110,107]⟩ then 3 else if s=⟨#[115,116,97,116,105,99]⟩ then 4
 else if s=⟨#[118,116,101,112]⟩ then 5 else if s=⟨#[118,110,105]⟩ then 6 else if s=⟨#[102,108,111,111,100]⟩ then 7 else if s=⟨#[118,114,102]⟩ then 8 else if s=⟨#[105,114,98]⟩ then 9 else 0
def Hy:ByteArray:=⟨#[97,99,99,101,115,115]⟩
def Hd:ByteArray:=⟨#[116,114,117,110,107]⟩
def wdT(w:List ByteArray)(i:Nat):ByteArray:=(w[i]?).getD ⟨#[]⟩
def manyB(k:Int)(w:List ByteArray):Bool :=
 if k=0 then false
 else if k=2 then (if w.length<6 then false else if wdT w 4=Hy then decide (w.length=6) else if wdT w 4=Hd then decide (w.length=7) else decide (w.length<=7))
 else if k=3\/k=4\/k=8\/k=9 then decide (w.length=5) else if k=5 then decide (w.length=3) else decide (w.length=4)
def membersB(vlan:Int)(tagged:List Int):Bool:=(decide (0<vlan)||!tagged.isEmpty)&&!(tagged.contains vlan)
def lineZ:LineM:=⟨0,0,⟨#[]⟩,⟨#[]⟩,⟨#[]⟩,⟨#[]⟩,⟨#[]⟩,0,0,0,0,0,0,[],[],[],[]⟩
def C0(s:ByteArray):Int×Bool:=numR s 1 4094
def S6(s:ByteArray):Int×Bool:=numR s 1 16777215
def Eb(w:List ByteArray):Int×List Int×List (Bool×Int) :=
 if wdT w 4=Hy then ((C0 (wdT w 5)).1,[],[(!(C0 (wdT w 5)).2,21)])
 else if wdT w 4=Hd then
  (if wdT w 5=A2m then (0,(listR 4094 (wdT w 6)).1,[(!(listR 4094 (wdT w 6)).2,21)])
   else ((C0 (wdT w 5)).1,(listR 4094 (wdT w 6)).1,[(!(C0 (wdT w 5)).2,21),(!(listR 4094 (wdT w 6)).2,21)]))
 else (0,[],[])
def B8(w:List ByteArray)(row:Int):LineM×List (Bool×Int) :=
 let n:=λi=>(!(A1 (wdT w i)),(20:Int))
 let k:=kindL (wdT w 0)
 if k=1 then ({lineZ with row:=row,kind:=1,dev:=wdT w 1,num:=(numR (wdT w 2) 0 65535).1,mac:=(macR (wdT w 3)).1},[n 1,(!(numR (wdT w 2) 0 65535).2,21),(!((macR (wdT w 3)).2&&statB (macR (wdT w 3)).1),21)])
 else if k=2 then ({ lineZ with row:=row,kind:=2,dev:=wdT w 1,port:=wdT w 2,cost:=(numR (wdT w 3) 1 65535).1,vlan:=(Eb w).1,tagged:=(Eb w).2.1 },
  [n 1,n 2,(!(numR (wdT w 3) 1 65535).2,21),(decide (wdT w 4≠Hy) && decide (wdT w 4≠Hd),20)]++(Eb w).2.2++[(!(membersB (Eb w).1 (Eb w).2.1),21)])
 else if k=3 then ({lineZ with row:=row,kind:=3,dev:=wdT w 1,port:=wdT w 2,peer:=wdT w 3,far:=wdT w 4},[n 1,n 2,n 3,n 4])
 else if k=4 then ({lineZ with row:=row,kind:=4,dev:=wdT w 1,vlan:=(C0 (wdT w 2)).1,mac:=(macR (wdT w 3)).1,port:=wdT w 4},[n 1,(!(C0 (wdT w 2)).2,21),(!((macR (wdT w 3)).2&&statB (macR (wdT w 3)).1),21),n 4])
 else if k=5 then ({lineZ with row:=row,kind:=5,dev:=wdT w 1,addr:=(Dy (wdT w 2)).1},[n 1,(!((Dy (wdT w 2)).2&&decide ((Dy (wdT w 2)).1≠0)),21)])
 else if k=6 then ({lineZ with row:=row,kind:=6,dev:=wdT w 1,vlan:=(C0 (wdT w 2)).1,num:=(S6 (wdT w 3)).1},[n 1,(!(C0 (wdT w 2)).2,21),(!(S6 (wdT w 3)).2,21)])
 else if k=7 then ({lineZ with row:=row,kind:=7,dev:=wdT w 1,num:=(S6 (wdT w 2)).1,addrs:=(D6 (wdT w 3)).1},[n 1,(!(S6 (wdT w 2)).2,21),(!((D6 (wdT w 3)).2&&decide ((D6 (wdT w 3)).1.head? ≠ some 0)),21)])
 else if k=8 then ({lineZ with row:=row,kind:=8,dev:=wdT w 1,name:=wdT w 2,imports:=(listR 65535 (wdT w 3)).1,exports:=(listR 65535 (wdT w 4)).1},[n 1,n 2,(!(listR 65535 (wdT w 3)).2,21),(!(listR 65535 (wdT w 4)).2,21)])
 else ({ lineZ with row:=row,kind:=9,dev:=wdT w 1,vlan:=(C0 (wdT w 2)).1,name:=wdT w 3,addr:=(prefixR (wdT w 4)).1.1,bits:=(prefixR (wdT w 4)).1.2 },
  [n 1,(!(C0 (wdT w 2)).2,21),n 3,(!((prefixR (wdT w 4)).2 && subnetB (prefixR (wdT w 4)).1.1 (prefixR (wdT w 4)).1.2),21)])
def Cm(w:List ByteArray)(row:Int):LineM×Int :=
 if w=[]\/manyB (kindL (wdT w 0)) w=false then (lineZ,22) else if Bt (B8 w row).2≠0 then (lineZ,Bt (B8 w row).2) else ((B8 w row).1,0)
def Jh(cur:List UInt8):List ByteArray:=if cur=[] then [] else [mkT cur]
def E6:List UInt8->List UInt8->List ByteArray
 |cur,[]=>Jh cur
 |cur,c::r=>if c=35 then Jh cur else if c=32\/c=9 then Jh cur++E6 [] r else E6 (cur++[c]) r
def Ahr(c:UInt8):Bool:=decide (32<c.toNat)&&decide (c.toNat<=126)&&decide (c.toNat≠35)
def wordB(s:ByteArray):Bool:=decide (0<s.size)&&decide (s.size<=40)&&s.data.toList.all Ahr
def wordsT(row:ByteArray):List ByteArray×Int:=if (E6 [] row.data.toList).all wordB=true then (E6 [] row.data.toList,0) else ([],20)
def L6:Nat->List ByteArray->List LineM->List LineM×Int×Int
 |_,[],out=>(out,0,0)
 |i,r::rs,out=>
  if (wordsT r).2≠0 then ([],(i:Int)+1,(wordsT r).2) else if (wordsT r).1=[] then L6 (i+1) rs out
  else if (Cm (wordsT r).1 ((i:Int)+1)).2≠0 then ([],(i:Int)+1,(Cm (wordsT r).1 ((i:Int)+1)).2) else L6 (i+1) rs (out++[(Cm (wordsT r).1 ((i:Int)+1)).1])
def textT(b:List UInt8):List LineM×Int×Int:=if (rowsT b).2≠0 then ([],0,(rowsT b).2) else L6 0 (rowsT b).1 []
def M0(a b:LineM):Bool :=
 a.row == b.row && (a.kind == b.kind && (a.dev == b.dev && (a.port == b.port && (a.peer == b.peer && (a.far == b.far && (a.name == b.name && (a.mac == b.mac && (a.addr == b.addr && (a.bits == b.bits &&
 (a.vlan == b.vlan && (a.num == b.num && (a.cost == b.cost && (a.tagged == b.tagged && (a.imports == b.imports && (a.exports == b.exports && a.addrs == b.addrs)))))))))))))))
def Cq(n lo hi:Int):Bool:=decide (lo<=n)&&decide (n<=hi)
abbrev Em(l:List Int)(hi:Int):Bool:=U3 l hi
def K6(l:List Int):Bool:=(List.range l.length).all (λi=>decide (l.getD i 0≠0)&&(i==0||decide (l.getD (i-1) 0<l.getD i 0)))&&(decide (0<l.length)&&decide (l.length<=16))
def Bn(l:LineM):LineM×Bool :=
 let u:LineM:={lineZ with row:=l.row,kind:=l.kind,dev:=l.dev}
 if l.kind=1 then ({u with num:=l.num,mac:=l.mac},Cq l.num 0 65535&&statB l.mac)
 else if l.kind=2 then ({u with port:=l.port,cost:=l.cost,vlan:=l.vlan,tagged:=l.tagged},A1 l.port&&(Cq l.cost 1 65535&&(Cq l.vlan 0 4094&&(Em l.tagged 4094&&membersB l.vlan l.tagged))))
 else if l.kind=3 then ({u with port:=l.port,peer:=l.peer,far:=l.far},A1 l.port&&(A1 l.peer&&A1 l.far))
 else if l.kind=4 then ({u with vlan:=l.vlan,mac:=l.mac,port:=l.port},Cq l.vlan 1 4094&&(statB l.mac&&A1 l.port))
 else if l.kind=5 then ({u with addr:=l.addr},decide (l.addr≠0))
 else if l.kind=6 then ({u with vlan:=l.vlan,num:=l.num},Cq l.vlan 1 4094&&Cq l.num 1 16777215)
 else if l.kind=7 then ({u with num:=l.num,addrs:=l.addrs},Cq l.num 1 16777215&&K6 l.addrs)
 else if l.kind=8 then ({u with name:=l.name,imports:=l.imports,exports:=l.exports},A1 l.name&&(Em l.imports 65535&&Em l.exports 65535))
 else if l.kind=9 then ({u with vlan:=l.vlan,name:=l.name,addr:=l.addr,bits:=l.bits},Cq l.vlan 1 4094&&(A1 l.name&&subnetB l.addr l.bits))
 else (u,false)
def Cn(l:LineM):Bool:=(Bn l).2&&(A1 l.dev&&M0 (Bn l).1 l)
def Aqx{s:ByteArray}{lo hi v:Int}(h:numR s lo hi=(v,true)):lo<=v/\v<=hi:=by
 unfold numR at h
 repeat' split at h
 all_goals first|(simp at h;done)|(simp only[Prod.mk.injEq,and_true]at h;omega)
def Ir{s:ByteArray}{lo hi:Int}(h:(numR s lo hi).2=true):lo<=(numR s lo hi).1/\(numR s lo hi).1<=hi:=Aqx (v:=(numR s lo hi).1) (by rw[<-h])
def Aqa(l:List Int):Prop:=l.Pairwise (·<·)
def Sm(one:ByteArray->Int×Bool):∀(ps:List ByteArray) (out r:List Int),I6 one out ps=(r,true)->Aqa out->out.length<=16 ->
  Aqa r/\r.length<=16/\r.length=out.length+ps.length/\∀x∈r,x∈out\/∃p∈ps,one p=(x,true)
 |[],out,r,h,h1,h2=>by
  rw[I6]at h;simp only[Prod.mk.injEq,and_true]at h;subst h;exact⟨h1,h2,by simp,λx hx=>.inl hx⟩
 |p::ps,out,r,h,h1,h2=>by
  rw[I6]at h;split at h
  .simp at h
  .rename_i hn;simp only[vW]at hn;obtain ⟨n1,n2,n3⟩:=hn;have hr:Aqa (out++[(one p).1]):=by
    refine tV.2 ⟨h1,List.pairwise_singleton _ _,λy hy z hz=>?_⟩;simp only[zZ]at hz;subst hz;cases hl:out.getLast? with
    |none=>rw[List.getLast?_eq_none_iff]at hl;subst hl;cases hy
    |some w=>
     have ab:¬(one p).1<=w:=λhh=>n3 ⟨w,hl,hh⟩
     obtain ⟨c,rfl⟩:∃c,out=c++[w]:=by
      have ag:out≠[]:=λe=>by rw[e]at hy;cases hy
      refine⟨out.dropLast,?_⟩;have:=uN ag;rw[List.getLast?_eq_some_getLast ag]at hl;simp only[Option.some.injEq]at hl;rw[<-hl];exact this.symm
     rcases yI.1 hy with hy|hy
     .have:=(tV.1 h1).2.2 y hy w qq;omega
     .simp only[zZ]at hy;omega
   obtain ⟨a,b,c,d⟩:=Sm one ps _ r h hr (by rw[zU];simp;omega);refine⟨a,b,by rw[c];simp;omega,λx hx=>?_⟩;rcases d x hx with hx|⟨q,hq,e⟩
   .rcases yI.1 hx with hx|hx
    .exact .inl hx
    .simp only[zZ]at hx;refine .inr ⟨p,by simp,?_⟩;rw[hx];have:(one p).2=true:=kS n1;rw[<-this]
   .exact .inr ⟨q,by simp[hq],e⟩
def Adv{l:List Int}(h:∀i (hi:i+1<l.length),l[i]<l[i+1]):Aqa l:=by
 unfold Aqa;rw[vM];intro i j hi hj cy
 induction j with
 |zero=>omega
 |succ j ih=>
  by_cases e:i=j
  .subst e;exact h i hj
  .have:=ih z_ z_;have:=h j hj;omega
def X8:∀(l:List (Bool×Int)),(∀x∈l,x.2≠0)->Bt l=0->∀x∈l,x.1=false
 |[],_,_,x,hx=>by cases hx
 |(b,e)::l,h,h0,x,hx=>by
  rw[Bt]at h0;cases b with
  |true=>rw[zE rfl]at h0;exact zX h0 (h (true,e) qq)
  |false=>
   rw[zD qq]at h0;rcases yH.1 hx with hx|hx
   .rw[hx]
   .exact X8 l (λy hy=>h y (by simp[hy])) h0 x hx
def rising_iff{l:List Int}{lo hi:Int}:Jv l lo hi=true↔Aqa l/\(∀x∈l,lo<=x/\x<=hi)/\0<l.length/\l.length<=16:=by
 have hg:∀i (h:i<l.length),nth l (i:Int)=l[i]:=λi h=>Ag (i:=(i:Int)) h
 rw[Jv,zG,zG,zJ,zJ,allB_iff];constructor
 .rintro ⟨⟨h1,h2⟩,h⟩;refine⟨Adv λi hi=>?_,λx hx=>?_,h1,h2⟩
  .have:=h (i+1) hi;simp only[Xr,zG,yQ,zJ,yJ]at this;rw[show (((i+1:Nat):Int)-1)=(i:Int) by omega,hg i z_]at this;omega
  .obtain ⟨i,hi,rfl⟩:=yY.1 hx;have:=h i hi;simp only[Xr,zG,zJ]at this;exact this.1
 .rintro ⟨h,h1,h2⟩;refine⟨h2,λi hi=>?_⟩;have hx:=h1 _ (zI hi);simp only[Xr,zG,yQ,zJ,yJ];refine⟨hx,?_⟩;by_cases h0:i=0
  .exact .inl h0
  .right;rw[show ((i:Int)-1)=((i-1:Nat):Int) by omega,hg (i-1) z_];exact vM.1 h (i-1) i z_ hi z_
def listOK_iff{l:List Int}{hi:Int}:Em l hi=true↔l=[]\/Jv l 1 hi=true:=by
 rw[Em,U3,yQ,zJ,vH]
def Avg{l:List Int}(hn:∀x∈l,0<=x):K6 l=true↔Aqa l/\(∀x∈l,x≠0)/\0<l.length/\l.length<=16:=by
 have hg:∀i (h:i<l.length),l.getD i 0=l[i]:=λi h=>by rw[wF,zR h];rfl
 rw[K6,zG,zG,zJ,zJ,yU];constructor
 .rintro ⟨h,h1,h2⟩;refine⟨Adv λi hi=>?_,λx hx=>?_,h1,h2⟩
  .have:=h (i+1) (xA.2 hi);rw[Nat.add_sub_cancel,hg _ hi,hg i z_]at this;simp only[zG,yQ,zJ,yJ]at this;omega
  .obtain ⟨i,hi,rfl⟩:=yY.1 hx;have:=h i (xA.2 hi);rw[hg i hi]at this;simp only[zG,zJ]at this;exact this.1
 .rintro ⟨h,h1,h2⟩;refine⟨λi hi=>?_,h2⟩;have hi:=xA.1 hi;have hx:=h1 _ (zI hi);rw[hg i hi];simp only[zG,yQ,zJ,yJ];refine⟨hx,?_⟩;by_cases h0:i=0
  .exact .inl h0
  .right;rw[hg (i-1) z_];exact vM.1 h (i-1) i z_ hi z_
def A1y{s:ByteArray}{hi:Int}{l:List Int}(h:listR hi s=(l,true)):Em l hi=true:=by
 rw[listR]at h;split at h
 .simp only[Prod.mk.injEq,and_true]at h;subst h;rfl
 .rw[Ii]at h;obtain ⟨a,b,c,d⟩:=Sm _ _ _ _ h List.Pairwise.nil y_;refine listOK_iff.2 (.inr (rising_iff.2 ⟨a,λx hx=>?_,?_,b⟩))
  .rcases d x hx with hx|⟨p,_,hp⟩
   .cases hx
   .exact Aqx hp
  .rw[c,Lm];simp
def L4(s:ByteArray):0<=(Dy s).1:=by
 rw[Dy];split
 .dsimp only;generalize Cy 46 s=l;cases hl:l.reverse with
  |nil=>
   have:l=[]:=kS hl;subst this;exact xN _
  |cons x r=>
   have:l=r.reverse++[x]:=by
    have:=zH List.reverse hl;simpa using this
   rw[this,Za];show 0<=IntKind.u32.wrap _;rw[IntKind.wrap_u32];omega
 .exact xN _
def Uf(s:ByteArray):(Dy s).1<4294967296:=by
 rw[Dy];split
 .dsimp only;generalize Cy 46 s=l;cases hl:l.reverse with
  |nil=>
   have:l=[]:=kS hl;subst this;decide
  |cons x r=>
   have:l=r.reverse++[x]:=by
    have:=zH List.reverse hl;simpa using this
   rw[this,Za];show IntKind.u32.wrap _<_;rw[IntKind.wrap_u32];omega
 .decide
def A0l{s:ByteArray}{l:List Int}(h:D6 s=(l,true))(h0:l.head? ≠ some 0):K6 l=true:=by
 rw[D6,Ii]at h;obtain ⟨a,b,c,d⟩:=Sm _ _ _ _ h List.Pairwise.nil y_;have hn:∀x∈l,0<=x:=λx hx=>by
  rcases d x hx with hx|⟨p,_,hp⟩
  .cases hx
  .have:=L4 p;rw[hp]at this;exact this
 refine(Avg hn).2 ⟨a,λx hx e=>?_,by rw[c,Lm];simp,b⟩;subst e;cases l with
 |nil=>cases hx
 |cons y l=>
  rcases yH.1 hx with hx|hx
  .subst hx;exact h0 rfl
  .have h1:=(vU.1 a).1 0 hx;have h2:=hn y qq;omega
def Ht(a:LineM):M0 a a=true:=by simp[M0]
def Ea(w:List ByteArray)(row:Int):∀x∈(B8 w row).2,x.2≠0:=by
 unfold B8 Eb;dsimp only
 repeat' split
 all_goals simp
def Asg{w:List ByteArray}{row:Int}(h:(Cm w row).2=0):(Cm w row).1=(B8 w row).1/\∀x∈(B8 w row).2,x.1=false:=by
 rw[Cm]at h|-;split at h
 .simp at h
 .rename_i h1;rw[zD h1];split at h
  .rename_i h2;exact zX h h2
  .rename_i h2;rw[zD h2];exact⟨E,X8 _ (Ea w row) z_⟩
def k1:kindL ⟨#[100,101,118,105,99,101]⟩=1:=by decide +kernel
def k2:kindL ⟨#[112,111,114,116]⟩=2:=by decide +kernel
def k3:kindL ⟨#[108,105,110,107]⟩=3:=by decide +kernel
def k4:kindL ⟨#[115,116,97,116,105,99]⟩=4:=by decide +kernel
def k5:kindL ⟨#[118,116,101,112]⟩=5:=by decide +kernel
def k6:kindL ⟨#[118,110,105]⟩=6:=by decide +kernel
def k7:kindL ⟨#[102,108,111,111,100]⟩=7:=by decide +kernel
def k8:kindL ⟨#[118,114,102]⟩=8:=by decide +kernel
def k9:kindL ⟨#[105,114,98]⟩=9:=by decide +kernel
def Afh:Hy≠Hd:=by decide +kernel
def wd0(a:ByteArray)(l:List ByteArray):wdT (a::l) 0=a:=rfl
def st1(d n m:ByteArray)(r:Int):B8 [⟨#[100,101,118,105,99,101]⟩,d,n,m] r=({lineZ with row:=r,kind:=1,dev:=d,num:=(numR n 0 65535).1,mac:=(macR m).1},[(!(A1 d),20),(!(numR n 0 65535).2,21),(!((macR m).2&&statB (macR m).1),21)]):=by
 unfold B8;simp only[wd0,k1];rfl
def st3(d p q f:ByteArray)(r:Int):B8 [⟨#[108,105,110,107]⟩,d,p,q,f] r=({lineZ with row:=r,kind:=3,dev:=d,port:=p,peer:=q,far:=f},[(!(A1 d),20),(!(A1 p),20),(!(A1 q),20),(!(A1 f),20)]):=by
 unfold B8;simp only[wd0,k3];rfl
def st4(d v m p:ByteArray)(r:Int):B8 [⟨#[115,116,97,116,105,99]⟩,d,v,m,p] r=({lineZ with row:=r,kind:=4,dev:=d,vlan:=(C0 v).1,mac:=(macR m).1,port:=p},[(!(A1 d),20),(!(C0 v).2,21),(!((macR m).2&&statB (macR m).1),21),(!(A1 p),20)]):=by
 unfold B8;simp only[wd0,k4];rfl
def within_iff{n lo hi:Int}:Cq n lo hi=true↔lo<=n/\n<=hi:=by simp[Cq]
def Ab9{m:Int}(h:statB m=true):m<281474976710656:=by
 simp only[statB,zG,zJ]at h;omega
def Ux{a b:Int}(h:subnetB a b=true):1<=b/\b<=30:=by
 simp only[subnetB,zG,zJ]at h;omega
structure LineOK(l:LineM):Prop where
 mac:0<=l.mac/\l.mac<18446744073709551616
 addr:0<=l.addr/\l.addr<4294967296
 addrs:∀x∈l.addrs,0<=x/\x<4294967296
def Afl{s:ByteArray}{v:Int}(h:(C0 s).2=true)(e:(C0 s).1=v):Cq v 1 4094=true:=by
 have:=Ir h;exact within_iff.2 (by rw[<-e];exact this)
def Avq{s:ByteArray}{v:Int}(h:(S6 s).2=true)(e:(S6 s).1=v):Cq v 1 16777215=true:=by
 have:=Ir h;exact within_iff.2 (by rw[<-e];exact this)
def lM{α:Type}{p:α×Bool}(h:p.2=true):p=(p.1,true):=by rw[<-h]
attribute [local irreducible]G DR
set_option maxRecDepth 100000
structure LineFin(l:LineM):Prop where
 t:l.tagged.length<=100000
 i:l.imports.length<=100000
 e:l.exports.length<=100000
 a:l.addrs.length<=100000
def Asn{s:ByteArray}(h:s.size=0):s=⟨#[]⟩:=by
 have h2:s.data.toList.length=0:=h;exact Aa5 (yB h2)
def At9(s:ByteArray)(hs:s.size<=1000000):Sp 70 [Ar s] (Ab (wordB s)):=cT F70 ntmps70 λF hF=>by
 have bg:s.data.toList.length=s.size:=rfl;have hw:=wordB.eq_1 s;obtain ⟨r,hr⟩:=kE (wordB s);rw[hr]at hw|-;refine T ?_;refine A7 s.size (λj=>Ek (λ_ c=>Ahr c) s.data.toList j) (λj=>[(0,Ar s),(5,Aa s.size),(6,Aa j)]) (λ_=>[]) [] (Bh _ _) U ?_;intro j hj hI;refine gL ?_ ?_<;>intro h
 .have ab:j<s.data.toList.length:=qA h;have hb:Bw s j=s.data.toList[j]:=lV ab;have cu:=λh=>@all_at' _ Ahr s.data.toList j ab h
  have eo:=λh=>Bc (p:=λ_ c=>Ahr c) hI ab h
  rw[<-hb]at cu eo;clear h;have hx:Ahr (Bw s j)=(decide (32<(Bw s j).toNat)&&decide ((Bw s j).toNat<=126)&&decide ((Bw s j).toNat≠35)):=rfl;by_cases h1:32<(Bw s j).toNat
  .by_cases h2:(Bw s j).toNat<=126
   .by_cases h3:(Bw s j).toNat=35
    .rw[cu (by rw[hx];simp[h3]),wS]at hw;subst hw;exact gA
    .refine T ?_;exact A6 [] hI z_ (eo (by rw[hx];simp[h1,h2,h3])) U
   .rw[cu (by rw[hx];simp[h2]),wS]at hw;subst hw;exact gA
  .rw[cu (by rw[hx];simp[h1]),wS]at hw;subst hw;exact gA
 .have cq:j=s.size:=qB h;subst cq;rw[dL hI (yG _),uJ]at hw;clear h;by_cases h0:s.size=0
  .have hs:=Asn h0;have he:(s==(⟨#[]⟩:ByteArray))=true:=(Lr _ _).2 hs;have hw:r=false:=by rw[hw,h0];rfl
   have du:(!(s==(⟨#[]⟩:ByteArray)))=false:=by rw[he];rfl
   subst hw;exact gA
  .have he:(s==(⟨#[]⟩:ByteArray))=false:=by
    cases he:(s==(⟨#[]⟩:ByteArray))
    .rfl
    .exact zX (by rw[(Lr _ _).1 he];rfl) h0
   have du:(!(s==(⟨#[]⟩:ByteArray)))=true:=by rw[he];rfl
   by_cases h4:s.size<=40
   .have hw:r=true:=by rw[hw];simp[h4];omega
    subst hw;refine T ?_;refine Aq E Ap (zH Ab ?_) E;exact(zK z_).symm
   .have hw:r=false:=by rw[hw];simp[h4]
    subst hw;refine T ?_;refine Aq E Ap (zH Ab ?_) E;exact(zL z_).symm
abbrev strO(row:ByteArray)(f:Nat)(l:List ByteArray):Obs:=[(1,.box [Aa f]),(2,.box [.osl 3]),(3,.row 1 Ar l),(4,.box [Ar row])]
abbrev strN(row:ByteArray)(f:Nat)(l:List ByteArray):Obs:=[(1,.box [Aa f]),(2,.box [.osl 5]),(3,.non),(5,.row 1 Ar l),(4,.box [Ar row])]
def Awf(row:ByteArray)(f i:Nat)(l:List ByteArray)(w5:f<=i)(hi:i<=row.size)(hs:row.size<=1000000)(hl:l.length<=1000000):Sq 140 [Aa i,.ptr 1 0,.ptr 2 0,.ptr 4 0] (strO row f l) (.tup []) (strN row (i+1) (l++Jh ((row.data.toList.take i).drop f))):=cT F140 ntmps140 λF hF=>by
 have bg:row.data.toList.length=row.size:=rfl;have hx:row.extract f i=mkT ((row.data.toList.take i).drop f):=by rw[<-Ex,Ku]
 refine gL ?_ ?_<;>intro h
 .have h1:f<i:=qA h;have ag:(row.data.toList.take i).drop f≠[]:=λe=>by
   have:=zH List.length e;rw[yP,zW]at this;simp at this;omega
  rw[Jh,zD ag,<-hx];refine T ?_;refine⟨⟨by omega,by omega,by omega⟩,?_⟩;refine T ?_;refine Xd (Ah Γ.toTy 14 E E E E E (.row E) (.lit (e:=Ar) (l:=[row.extract f i]) E E) qq kO kO) ?_;refine T ?_;exact A2 E .nil [(5,14)] (strN row (i+1) (l++[row.extract f i])) (λ_ h=>h) E E U
 .have h1:¬f<i:=qB h;have he:(row.data.toList.take i).drop f=[]:=vK (by rw[zW];omega);rw[he,Jh,zE rfl,xG];refine S3 3 1000 E E y_ (T ?_);exact A2 E .nil [(5,1000)] (strN row (i+1) l) (λ_ h=>h) E E U
def Amf(row:ByteArray)(hs:row.size<=100000):Sp 69 [Ar row] (.sl 1 Ar (E6 [] row.data.toList)):=cT F69 ntmps69 λF hF=>by
 have bg:row.data.toList.length=row.size:=rfl;refine T ?_;refine O1 3 0 1000 1 Ar E E E E ?_;refine T ?_;refine Ci (λx:List ByteArray×Nat×Nat=>E6 [] row.data.toList=x.1++E6 ((row.data.toList.take x.2.2).drop x.2.1) (row.data.toList.drop x.2.2)/\x.2.1<=x.2.2/\x.2.2<=row.size/\x.1.length<=x.2.2)
  (λx=>[(1,.ptr 1 0),(3,.ptr 3 0),(5,.clo (.func 140) [] [.ptr 4 0,.ptr 3 0,.ptr 1 0]),(6,Aa x.2.2)]) (λx=>[(1,.box [Ar row]),(3,.box [.osl 1000]),(4,.box [Aa x.2.1]),(1000,.row 1 Ar x.1)]) (λx=>row.size-x.2.2) ([],0,0) [] ⟨rfl,by simp,by simp,by simp⟩ U ?_
 rintro ⟨l,f,i⟩ ⟨hI,w5,his,hlen⟩;dsimp only at hI w5 his hlen|-;have q:=λi w5 hi=>Awf row f i l w5 hi z_ z_
 refine gL ?_ ?_<;>intro h
 .have ab:i<row.size:=qA h;have gn:i<row.data.toList.length:=ab;have hb:Bw row i=row.data.toList[i]:=lV gn;have es:row.data.toList.drop i=row.data.toList[i]::row.data.toList.drop (i+1):=yO gn;have gj:(row.data.toList.take (i+1)).drop f=(row.data.toList.take i).drop f++[row.data.toList[i]]:=by
   rw[yA gn,List.drop_append_of_le_length (by rw[zW];omega)]
  rw[<-hb]at es gj;have q:=q i w5 z_;clear h;rw[es,E6]at hI;have hlf:(l++Jh ((row.data.toList.take i).drop f)).length<=i+1:=by
   rw[Jh];split<;>simp<;>omega
  have e0:(row.data.toList.take (i+1)).drop (i+1)=[]:=vK (by rw[zW];omega);have h35:Bw row i=35↔(Bw row i).toNat=35:=⟨λe=>by rw[e];rfl,λe=>UInt8.toNat_inj.1 e⟩
  have h32:Bw row i=32↔(Bw row i).toNat=32:=⟨λe=>by rw[e];rfl,λe=>UInt8.toNat_inj.1 e⟩
  have h9:Bw row i=9↔(Bw row i).toNat=9:=⟨λe=>by rw[e];rfl,λe=>UInt8.toNat_inj.1 e⟩
  by_cases c1:(Bw row i).toNat=35
  .rw[zE (h35.2 c1)]at hI;rw[hI];refine T ?_;refine X (Av [(1,4),(2,3),(3,1000),(4,1),(5,900)] (Aw E E F140) q E W E V) ?_;exact Aj 900 E gA
  .rw[zD (λe=>c1 (h35.1 e))]at hI;by_cases c2:(Bw row i).toNat=32\/(Bw row i).toNat=9
   .rw[zE (c2.elim (λe=>.inl (h32.2 e)) (λe=>.inr (h9.2 e)))]at hI;by_cases c3:(Bw row i).toNat=32
    .refine T ?_;refine X (Av [(1,4),(2,3),(3,1000),(4,1),(5,900)] (Aw E E F140) q E W E V) ?_;refine Ay (l++Jh ((row.data.toList.take i).drop f),i+1,i+1) [(1000,900)] ⟨?_,yG _,ab,hlf⟩ (by dsimp only;omega) U;dsimp only;rw[hI,xF,e0]
    .refine T ?_;refine X (Av [(1,4),(2,3),(3,1000),(4,1),(5,900)] (Aw E E F140) q E W E V) ?_;refine Ay (l++Jh ((row.data.toList.take i).drop f),i+1,i+1) [(1000,900)] ⟨?_,yG _,ab,hlf⟩ (by dsimp only;omega) U;dsimp only;rw[hI,xF,e0]
   .simp only[vW]at c2;rw[zD (by rw[h32,h9];omega)]at hI;refine T ?_;refine Ay (l,f,i+1) [] ⟨?_,by dsimp only;omega,ab,by dsimp only;omega⟩ (by dsimp only;omega) U;dsimp only;rw[hI,gj]
 .have s4:i=row.size:=qB h;subst s4;have q:=q row.size w5 z_;have fh:row.data.toList.drop row.size=[]:=by rw[<-bg,wR]
  rw[fh,E6]at hI;rw[hI];clear h;refine T ?_;refine X (Av [(1,4),(2,3),(3,1000),(4,1),(5,900)] (Aw E E F140) q E W E V) ?_;exact Aj 900 E gA
def O4:∀(l cur:List UInt8),(E6 cur l).length<=l.length+1
 |[],cur=>by rw[E6,Jh];split<;>simp
 |c::l,cur=>by
  rw[E6];have h1:=O4 l [];have h2:=O4 l (cur++[c]);have h3:(Jh cur).length<=1:=by rw[Jh];split<;>simp
  split
  .simp;omega
  .split
   .simp;omega
   .simp;omega
def S5:∀(l cur:List UInt8),∀s∈E6 cur l,s.size<=cur.length+l.length
 |[],cur,s,hs=>by
  rw[E6,Jh]at hs;split at hs
  .cases hs
  .simp at hs;rw[hs,It];simp
 |c::l,cur,s,hs=>by
  have h3:∀s∈Jh cur,s.size<=cur.length:=λs hs=>by
   rw[Jh]at hs;split at hs
   .cases hs
   .simp at hs;rw[hs,It];exact yG _
  rw[E6]at hs;split at hs
  .have:=h3 s hs;omega
  .split at hs
   .rcases yI.1 hs with hs|hs
    .have:=h3 s hs;omega
    .have:=S5 l [] s hs;simp at this|-;omega
   .have:=S5 l (cur++[c]) s hs;simp at this|-;omega
def Aac(row:ByteArray)(hs:row.size<=100000):Sp 37 [Ar row] (.tup [.sl 1 Ar (wordsT row).1,Aa (wordsT row).2]):=cT F37 ntmps37 λF hF=>by
 have q:=Amf row hs;have aa:=wordsT.eq_1 row;have hlen:=O4 row.data.toList [];have bg:=S5 row.data.toList [];have ov:row.data.toList.length=row.size:=rfl;generalize wordsT row=res at *;generalize E6 [] row.data.toList=l at *;refine gC q F69 ?_;refine A7 l.length (λj=>Ek (λ_ s=>wordB s) l j) (λj=>[(4,.sl 1 Ar l),(9,.sl 1 Ar l),(10,Aa l.length),(11,Aa j)]) (λ_=>[]) [] (Bh _ _) U ?_;intro j hj hI;refine gL ?_ ?_<;>intro h
 .have ab:j<l.length:=qA h;have aq:(j:Int).toNat<l.length:=ab;have cu:=λh=>@all_at' _ wordB l j ab h
  have eo:=λh=>Bc (p:=λ_ s=>wordB s) hI ab h
  have s5:=bg l[j] (zI ab);clear h;refine T ?_;refine C (At9 (l[(j:Int).toNat]'aq) (by rw[show l[(j:Int).toNat]'aq=l[j] from E];simp at s5;omega)) F70 ?_;constructor<;>intro h
  .have hf:wordB l[j]=false:=by simpa using h
   rw[zD (by rw[cu hf];simp)]at aa;subst aa;refine T ?_;exact Ao 2 1 Ar E gA
  .have ht:wordB l[j]=true:=by simpa using h
   refine T ?_;exact A6 [] hI z_ (eo ht) U
 .have cq:j=l.length:=qB h;subst cq;rw[zE (dL hI (yG _))]at aa;subst aa;exact gA
def Xy(i:Nat)(c:UInt8):Bool:=Ayt c||(K7 c&&decide (i≠0))
def Ax4(s:ByteArray):A1 s=(H9 Xy s.data.toList&&(decide (0<s.size)&&decide (s.size<=12))):=by
 have bg:s.data.toList.length=s.size:=rfl;rw[A1,<-bg];cases hl:s.data.toList with
 |nil=>rfl
 |cons c l=>
  have e:H9 Xy (c::l)=(Ayt c&&l.all λc=>Ayt c||K7 c):=by
   rw[wO,allB_iff,zG,yU];constructor
   .intro h;refine⟨by have:=h 0 qq;simpa [Xy] using this,λx hx=>?_⟩;obtain ⟨i,hi,rfl⟩:=yY.1 hx;have:=h (i+1) kO;simpa [Xy] using this
   .rintro ⟨h1,h2⟩ i hi;cases i with
    |zero=>simp[Xy,h1]
    |succ i=>
     have:=h2 (l[i]'(by simp at hi;omega)) (zI _);simpa [Xy] using this
  rw[e,A26];simp
def Ew(s:ByteArray)(hs:s.size<=1000000):Sp 71 [Ar s] (Ab (A1 s)):=cT F71 ntmps71 λF hF=>by
 have bg:s.data.toList.length=s.size:=rfl;have hw:=Ax4 s;obtain ⟨r,hr⟩:=kE (A1 s);rw[hr]at hw|-;refine T ?_;refine A7 s.size (λj=>Ek Xy s.data.toList j) (λj=>[(0,Ar s),(7,Aa s.size),(8,Aa j)]) (λ_=>[]) [] (Bh _ _) U ?_;intro j hj hI;refine gL ?_ ?_<;>intro h
 .have ab:j<s.data.toList.length:=qA h;have hb:Bw s j=s.data.toList[j]:=lV ab;have cu:=λh=>Dd (p:=Xy) ab h
  have eo:=λh=>Bc (p:=Xy) hI ab h
  rw[<-hb]at cu eo;clear h;have hx:Xy j (Bw s j)=((decide (97<=(Bw s j).toNat)&&decide ((Bw s j).toNat<=122))||((decide (48<=(Bw s j).toNat)&&decide ((Bw s j).toNat<=57))&&decide (j≠0))):=rfl;rcases (by omega:(Bw s j).toNat<48\/(48<=(Bw s j).toNat/\(Bw s j).toNat<=57)\/(57<(Bw s j).toNat/\(Bw s j).toNat<97)\/(97<=(Bw s j).toNat/\(Bw s j).toNat<=122)\/122<(Bw s j).toNat) with h|h|h|h|h
  .rw[cu (by rw[hx,zL (by omega:¬97<=(Bw s j).toNat),zL (by omega:¬48<=(Bw s j).toNat)];rfl),yC]at hw;subst hw;exact gA
  .by_cases h0:j=0
   .subst h0;rw[cu (by rw[hx,zL (by omega:¬97<=(Bw s 0).toNat)];simp),yC]at hw;subst hw;exact gA
   .refine T ?_;exact A6 [] hI z_ (eo (by rw[hx];simp[h,h0])) U
  .rw[cu (by rw[hx,zL (by omega:¬97<=(Bw s j).toNat),zL (by omega:¬(Bw s j).toNat<=57)];simp),yC]at hw;subst hw;exact gA
  .refine T ?_;exact A6 [] hI z_ (eo (by rw[hx];simp[h])) U
  .rw[cu (by rw[hx,zL (by omega:¬(Bw s j).toNat<=122),zL (by omega:¬(Bw s j).toNat<=57)];simp),yC]at hw;subst hw;exact gA
 .have cq:j=s.size:=qB h;subst cq;rw[Hc hI (yG _),yD]at hw;clear h;subst hw;by_cases h0:0<s.size
  .refine T ?_;refine⟨λ_=>?_,λh=>zX (zQ h) z_⟩;refine T ?_;refine Aq E Ap (zH Ab ?_) E;rw[zK h0,yD];exact decide_eq_decide.2 z_
  .rw[zL h0,yC];exact gA
def Ad4(c:UInt8):Sp 263 [Al c] (Bi (digI c)):=cT F263 ntmps263 λF hF=>by
 have aa:=digI.eq_1 c;generalize digI c=res at *;have gk:=c.toNat_lt;rcases (by omega:c.toNat<48\/(48<=c.toNat/\c.toNat<=57)\/(57<c.toNat/\c.toNat<97)\/(97<=c.toNat/\c.toNat<=102)\/102<c.toNat) with h|h|h|h|h
 .rw[zD z_,zD z_]at aa;subst aa;exact gA
 .rw[zE z_]at aa;subst aa;refine T ?_;refine Aq E Ap ?_ E;refine zH (λz=>SV.val (.int .u64 z)) (?_:_=IntKind.u64.wrap (IntKind.u8.wrap ((c.toNat:Int)-48)));rw[IntKind.wrap_u8,IntKind.wrap_u64];omega
 .rw[zD z_,zD z_]at aa;subst aa;exact gA
 .rw[zD z_,zE z_]at aa;subst aa;refine T ?_;refine Aq E Ap ?_ E;refine zH (λz=>SV.val (.int .u64 z)) (?_:_=IntKind.u64.wrap (IntKind.u64.wrap (IntKind.u8.wrap ((c.toNat:Int)-97))+10));rw[IntKind.wrap_u8,IntKind.wrap_u64,IntKind.wrap_u64];omega
 .rw[zD z_,zD z_]at aa;subst aa;exact gA
def Yt{s:ByteArray}:∀{j:Nat},(∀i,i<j->aG s i=true)->0<=Xh s j/\Xh s j<256^j
 |0,_=>by simp[Xh]
 |j+1,h=>by
  have ih:=Yt (s:=s) (j:=j) (λi hi=>h i z_);have hj:=h j z_;simp only[aG,zG,zJ]at hj;have d1:=lS (Bw s (3*j));have d2:=lS (Bw s (3*j+1));rw[Xh,Int.pow_succ];omega
def Ayj(m a b:Nat)(hm:m<72057594037927936)(ha:a<16)(hb:b<16):bits .or .u64 (bits .or .u64 (IntKind.u64.wrap ((m:Int)*2^min (Int.toNat 8) IntKind.u64.bits)) (IntKind.u64.wrap ((a:Int)*2^min (Int.toNat 4) IntKind.u64.bits))) (b:Int)=((m*256+a*16+b:Nat):Int):=by
 have e1:IntKind.u64.wrap ((m:Int)*2^min (Int.toNat 8) IntKind.u64.bits)=((m*256:Nat):Int):=by
  show IntKind.u64.wrap ((m:Int)*256)=_;rw[IntKind.wrap_u64];omega
 have e2:IntKind.u64.wrap ((a:Int)*2^min (Int.toNat 4) IntKind.u64.bits)=((a*16:Nat):Int):=by
  show IntKind.u64.wrap ((a:Int)*16)=_;rw[IntKind.wrap_u64];omega
 have o1:=xS (i:=8) (b:=a*16) z_ m;have o2:=xS (i:=4) (b:=b) z_ (m*16+a);have f1:m*256|||a*16=m*256+a*16:=by rw[vE m 256];exact o1.symm
 have f2:(m*256+a*16)|||b=m*256+a*16+b:=by
  have e:m*256+a*16=2^4*(m*16+a):=by omega
  rw[e];exact o2.symm
 rw[e1,e2,bits_or_u64_nat _ _ z_ z_,f1,bits_or_u64_nat _ _ z_ z_,f2]
def macR_no{s:ByteArray}{j:Nat}(hj:j<6)(h:aG s j=false):macR s=(0,false):=by
 rw[macR,zD];rintro ⟨_,h2⟩;rw[yU]at h2;rw[h2 j (xA.2 hj)]at h;cases h
def Ayk(s:ByteArray)(hs:s.size<=1000000):Sp 207 [Ar s] (.tup [Bi (macR s).1,Ab (macR s).2]):=cT F207 ntmps207 λF hF=>by
 have cu:=@macR_no s;have s6:=macR.eq_1 s;generalize macR s=res at *;by_cases h17:s.size=17;rotate_left
 .rw[zD (λe=>h17 e.1)]at s6;subst s6;exact gA
 refine T ?_;refine A7 6 (λj=>∀i,i<j->aG s i=true) (λj=>[(0,Ar s),(4,Bi (Xh s j)),(11,Aa j)]) (λ_=>[]) [] (λi hi=>by omega) U ?_;intro j hj hI;have hmv:=Yt hI;refine gL ?_ ?_<;>intro h
 .have ab:j<6:=qA h;have cu:=cu ab;clear h;have i0:(3*((j:Nat):Int)).toNat=3*j:=by omega
  have i1:(3*((j:Nat):Int)+1).toNat=3*j+1:=by omega
  have i2:(3*((j:Nat):Int)+2).toNat=3*j+2:=by omega
  have hx:aG s j=(decide (digI (Bw s (3*j))<=15)&&decide (digI (Bw s (3*j+1))<=15)&&(decide (5<=j)||decide ((Bw s (3*j+2)).toNat=58))):=rfl;have hv:Xh s (j+1)=Xh s j*256+digI (Bw s (3*j))*16+digI (Bw s (3*j+1)):=rfl;rw[<-i1,<-i2,<-i0]at hx;rw[<-i1,<-i0]at hv;have d1:=lS (Bw s (3*((j:Nat):Int)).toNat);have d2:=lS (Bw s (3*((j:Nat):Int)+1).toNat);have q1:=Ad4 (Bw s (3*((j:Nat):Int)).toNat);have q2:=Ad4 (Bw s (3*((j:Nat):Int)+1).toNat);by_cases c1:digI (Bw s (3*((j:Nat):Int)).toNat)<=15
  .have f1:decide (digI (Bw s (3*((j:Nat):Int)).toNat)>15)=false:=zL z_;by_cases c2:digI (Bw s (3*((j:Nat):Int)+1).toNat)<=15
   .have f2:decide (digI (Bw s (3*((j:Nat):Int)+1).toNat)>15)=false:=zL z_;have hp:(256:Int)^j<=256^5:=by
     have:=wY (n:=256) y_ (show j<=5 by omega)
     exact_mod_cast this
    have br:=Ayj (Xh s j).toNat (digI (Bw s (3*((j:Nat):Int)).toNat)).toNat (digI (Bw s (3*((j:Nat):Int)+1).toNat)).toNat z_ z_ z_;have hst2:((((Xh s j).toNat*256+(digI (Bw s (3*((j:Nat):Int)).toNat)).toNat*16+(digI (Bw s (3*((j:Nat):Int)+1).toNat)).toNat:Nat)):Int)=Xh s (j+1):=by rw[hv];omega
    rw[hst2,yR hmv.1,yR d1.1,yR d2.1]at br;by_cases c3:j<5
    .by_cases c4:(Bw s (3*((j:Nat):Int)+2).toNat).toNat=58
     .have f4:(((Bw s (3*((j:Nat):Int)+2).toNat).toNat:Int) != 58)=false:=by rw[c4];rfl
      have rp:aG s j=true:=by rw[hx,c4];simp[c1,c2]
      refine gB q1 F263 q2 F263 ?_;exact A6 [] hI ab (λ i hi=>by
       by_cases e:i=j
       .rw[e];exact rp
       .exact hI i z_) ⟨⟨E,E,zH Bi br.symm,E,E,E,q_⟩,q_,E,E⟩
     .have f4:(((Bw s (3*((j:Nat):Int)+2).toNat).toNat:Int) != 58)=true:=by
       rw[xC];omega
      have rp:aG s j=false:=by rw[hx,zL c4,zL (by omega:¬5<=j)];simp
      rw[cu rp];refine gB q1 F263 q2 F263 ?_;exact D
    .have rp:aG s j=true:=by rw[hx];simp[c1,c2];omega
     refine gB q1 F263 q2 F263 ?_;exact A6 [] hI ab (λ i hi=>by
      by_cases e:i=j
      .rw[e];exact rp
      .exact hI i z_) ⟨⟨E,E,zH Bi br.symm,E,E,E,q_⟩,q_,E,E⟩
   .have f2:decide (digI (Bw s (3*((j:Nat):Int)+1).toNat)>15)=true:=zK z_;rw[cu (by rw[hx,zL c2];simp)];refine gB q1 F263 q2 F263 ?_;exact D
  .have f1:decide (digI (Bw s (3*((j:Nat):Int)).toNat)>15)=true:=zK z_;rw[cu (by rw[hx,zL c1];rfl)];refine gB q1 F263 q2 F263 ?_;exact D
 .have cq:j=6:=qB h;subst cq;clear h;rw[zE ⟨h17,by rw[yU];intro i hi;exact hI i (xA.1 hi)⟩]at s6;subst s6;exact gA
def Akd(m:Nat)(h:m<18446744073709551616):(((bits .and .u64 (m:Int) 281474976710655).fdiv (2^min (Int.toNat 32) IntKind.u64.bits)) != 512)=!(Ms m):=by
 have e:=bits_and_u64_nat m 281474976710655 h y_;have e2:m&&&281474976710655=m%281474976710656:=uI m 48;have e3:bits .and .u64 (m:Int) 281474976710655=((m%281474976710656:Nat):Int):=by rw[<-e2];exact e
 have e4:((m%281474976710656:Nat):Int).fdiv (2^min (Int.toNat 32) IntKind.u64.bits)=((m%281474976710656/4294967296:Nat):Int):=by
  show ((m%281474976710656:Nat):Int).fdiv 4294967296=_;rw[wP _ y_,Int.natCast_ediv];rfl
 rw[e3,e4,Ms];by_cases hh:m%281474976710656/4294967296=512
 .rw[hh,zK z_];rfl
 .rw[zL z_];simp;omega
def Ay8(m:Int):Int:=if Ms m=true then IntKind.u32.wrap (bits .and .u64 m 281474976710655) else 0
def A14(m:Nat)(h:m<18446744073709551616):Sp 264 [Bi m] (.tup [A9 (Ay8 m),Ab (Ms m)]):=cT F264 ntmps264 λF hF=>by
 have hb:=Akd m h;rw[Ay8];cases hh:Ms m with
 |true=>
  have hb:=hb.trans (by rw[hh];rfl:_=false);rw[zE rfl];exact gA
 |false=>
  have hb:=hb.trans (by rw[hh];rfl:_=true);rw[zD qq];exact gA
def At1(m:Nat)(h:m<18446744073709551616):Sp 179 [Bi m] (Ab (E1 m)):=cT F179 ntmps179 λF hF=>by
 have hb:=Aeo m h;refine T ?_;exact Aq E Ap (zH Ab hb.symm) E
def nM(m:Nat)(h:m<18446744073709551616):Sp 208 [Bi m] (Ab (statB m)):=cT F208 ntmps208 λF hF=>by
 have q1:=A14 m h;have q2:=At1 m h;have hw:=statB.eq_1 (m:Int);rw[yE]at hw;generalize statB (m:Int)=r at *;generalize Ay8 (m:Int)=hv at *;by_cases c1:(m:Int)<=281474976710655
 .rw[zK c1,yD]at hw;have f1:decide ((m:Int)<=281474976710655)=true:=zK c1;cases hh:Ms m with
  |true=>
   rw[hh]at q1 hw;simp at hw;subst hw;refine gC q1 F264 ?_;exact D
  |false=>
   rw[hh]at q1 hw;simp at hw;subst hw;refine gB q1 F264 q2 F179 ?_;exact D
 .rw[zL c1]at hw;have f1:decide ((m:Int)<=281474976710655)=false:=zL c1;simp at hw;subst hw;refine gC q1 F264 ?_;exact D
end Go.Sy.Zaa
