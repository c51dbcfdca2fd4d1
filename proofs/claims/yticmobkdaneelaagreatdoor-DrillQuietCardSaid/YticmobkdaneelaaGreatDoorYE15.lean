/- Parts of a proof. -/
import Derived.Test.YticmobkdaneelaaGreatDoorYE14
set_option linter.all false
set_option linter.unusedVariables false
set_option linter.unusedSimpArgs false
set_option linter.deprecated false
namespace Go.Sy.YticmobkdaneelaaGreatDoor
section
variable {α:Type}
def Aut(p:α→Bool):List α→Nat
 |[]=>0
 |a::l=>if Aut p l=l.length∧p a=true then l.length+1 else Aut p l
def insE(lt:α→α→Bool)(x:α)(l:List α):List α:=l.take (l.length-Aut (lt x) l)++x::l.drop (l.length-Aut (lt x) l)
def Amz(lt:α→α→Bool):List α→List α→List α
 |out,[]=>out
 |out,x::l=>Amz lt (insE lt x out) l
def A6t(lt:α→α→Bool)(l:List α):List α:=Amz lt [] l
end
section
variable {α:Type}
def bs(lt:α→α→Bool)(s:Nat)(l:List α):List α :=
 if h:s=0∨l.length≤s then A6t lt l else A6t lt (l.take s)++bs lt s (l.drop s)
termination_by l.length
decreasing_by
 simp only[yO];omega
end
section
variable {α:Type}
end
section
variable {α β:Type}
structure CmpOK(c:α→α→Int):Prop where
 anti:∀x y,c x y<0↔0<c y x
 trans:∀x y z,c x y≤0→c y z≤0→c x z≤0∧(c x z=0→c x y=0∧c y z=0)
theorem CmpOK.self{c:α→α→Int}(h:CmpOK c)(x:α):c x x=0:=by
 have:=h.anti x x;omega
theorem CmpOK.zero{c:α→α→Int}(h:CmpOK c){x y:α}(hx:c x y=0):c y x=0:=by
 have h1:=h.anti x y;have h2:=h.anti y x;omega
theorem CmpOK.alike{c:α→α→Int}(h:CmpOK c){x y z:α}(h1:c x y=0)(h2:c y z=0):c x z=0:=by
 have a:=(h.trans x y z q_ q_).1;have b:=(h.trans z y x (by rw[h.zero h2];omega) (by rw[h.zero h1];omega)).1;have d:=h.anti x z;have e:=h.anti z x;omega
def Abu(a b:Int):Int:=if a≠0 then a else b
theorem CmpOK.then{c d:α→α→Int}(hc:CmpOK c)(hd:CmpOK d):CmpOK (λx y=>Abu (c x y) (d x y)) where
 anti x y:=by
  have h1:=hc.anti x y;have h2:=hc.anti y x;have h3:=hd.anti x y;unfold Abu;by_cases h:c x y=0
  ·rw[zD q_,zD q_];exact h3
  ·rw[zG h,zG q_];exact h1
 trans x y z:=by
  unfold Abu;intro h1 h2;have t:=hc.trans x y z;by_cases oq:c x y=0
  ·rw[zD q_]at h1;by_cases kz:c y z=0
   ·rw[zD q_]at h2;have hxz:=hc.alike oq kz;rw[zD q_,zD q_,zD q_];exact hd.trans x y z h1 h2
   ·rw[zG kz]at h2;have t:=t q_ h2;have h0:c x z≠0:=λe=>kz (t.2 e).2
    rw[zG h0];exact⟨t.1,λe=>zY e h0⟩
  ·rw[zG oq]at h1;have kz:c y z≤0:=by
    by_cases kz:c y z=0
    ·omega
    ·rw[zG kz]at h2;exact h2
   have t:=t h1 kz;have h0:c x z≠0:=λe=>oq (t.2 e).1
   rw[zG h0];exact⟨t.1,λe=>zY e h0⟩
def Ii(c:α→α→Int):List α→List α→Int
 |[],[]=>0
 |[],_::_=>-1
 |_::_,[]=>1
 |x::a,y::b=>Abu (c x y) (Ii c a b)
theorem Agp{c:α→α→Int}(h:CmpOK c):∀(a b:List α),Ii c a b<0↔0<Ii c b a
 |[],[]=>by simp[Ii]
 |[],_::_=>by simp[Ii]
 |_::_,[]=>by simp[Ii]
 |x::a,y::b=>by
  have ih:=Agp h a b;have h1:=h.anti x y;have h2:=h.anti y x;rw[Ii,Ii];unfold Abu;by_cases h0:c x y=0
  ·rw[zD q_,zD q_];exact ih
  ·rw[zG h0,zG q_];exact h1
theorem Acy{c:α→α→Int}(h:CmpOK c):∀(a b d:List α),Ii c a b≤0→Ii c b d≤0→Ii c a d≤0∧(Ii c a d=0→Ii c a b=0∧Ii c b d=0)
 |[],[],[],_,_=>by simp[Ii]
 |[],[],_::_,_,_=>by simp[Ii]
 |[],_::_,[],_,h2=>by simp[Ii]at h2
 |[],_::_,_::_,_,_=>by simp[Ii]
 |_::_,[],_,h1,_=>by simp[Ii]at h1
 |_::_,_::_,[],_,h2=>by simp[Ii]at h2
 |x::a,y::b,z::d,h1,h2=>by
  have ih:=Acy h a b d;rw[Ii]at h1 h2⊢;rw[Ii,Ii];unfold Abu at h1 h2⊢;have t:=h.trans x y z;by_cases oq:c x y=0
  ·rw[zD q_]at h1;by_cases kz:c y z=0
   ·rw[zD q_]at h2;have hxz:=h.alike oq kz;rw[zD q_,zD q_,zD q_];exact ih h1 h2
   ·rw[zG kz]at h2;have t:=t q_ h2;have h0:c x z≠0:=λe=>kz (t.2 e).2
    rw[zG h0];exact⟨t.1,λe=>zY e h0⟩
  ·rw[zG oq]at h1;have kz:c y z≤0:=by
    by_cases kz:c y z=0
    ·omega
    ·rw[zG kz]at h2;exact h2
   have t:=t h1 kz;have h0:c x z≠0:=λe=>oq (t.2 e).1
   rw[zG h0];exact⟨t.1,λe=>zY e h0⟩
theorem CmpOK.list{c:α→α→Int}(h:CmpOK c):CmpOK (Ii c):=⟨Agp h,Acy h⟩
end
open Go.Proofs Go.Proofs.Tryz
structure LineM where
 row:Int
 kind:Int
 dev:ByteArray
 port:ByteArray
 peer:ByteArray
 far:ByteArray
 name:ByteArray
 mac:Int
 addr:Int
 bits:Int
 vlan:Int
 num:Int
 cost:Int
 tagged:List Int
 imports:List Int
 exports:List Int
 addrs:List Int
def Cf(l:LineM):List SV:=[Aa l.row,Aa l.kind,Aw l.dev,Aw l.port,Aw l.peer,Aw l.far,Aw l.name,A2 l.mac,Bb l.addr,Aa l.bits,Aa l.vlan,Aa l.num,Aa l.cost,.sl 1 Aa l.tagged,.sl 1 Aa l.imports,.sl 1 Aa l.exports,.sl 1 Bb l.addrs]
def A3(l:LineM):SV:=.agg [Aa l.row,Aa l.kind,Aw l.dev,Aw l.port,Aw l.peer,Aw l.far,Aw l.name,A2 l.mac,Bb l.addr,Aa l.bits,Aa l.vlan,Aa l.num,Aa l.cost,.sl 1 Aa l.tagged,.sl 1 Aa l.imports,.sl 1 Aa l.exports,.sl 1 Bb l.addrs]
def A1n(x:Int)(l:List Int):orI (x::l)=Abu x (orI l):=by
 rw[orI];unfold Abu;split<;>simp_all
theorem CmpOK.const{α:Type}:CmpOK (λ_ _:α=>(0:Int)):=⟨λ_ _=>by simp,λ_ _ _ _ _=>by simp⟩
theorem CmpOK.or{α:Type}{c:α→α→Int}{d:α→α→List Int}(hc:CmpOK c)(hd:CmpOK (λx y=>orI (d x y))):CmpOK (λx y=>orI (c x y::d x y)):=by
 have h:=hc.then hd;simp only[A1n];exact h
attribute [local irreducible] Go.Sy.G Go.Sy.DR
set_option maxRecDepth 100000
set_option maxHeartbeats 4000000
def F119:Fun prog 119 Tryz.f119 (Agv Tryz.f119):=⟨func119,rfl,by kernel_rfl⟩
def F167:Fun prog 167 Tryz.f167 (Agv Tryz.f167):=⟨func167,rfl,by kernel_rfl⟩
def Aef(s p:ByteArray):Sp 168 [Aw s,Aw p] (Aw (mkT (Lib.trimPrefix s.data.toList p.data.toList))) :=
 Spec.of_calls λκ w vs hi hr _=>by
  simp only[RdL]at hr;obtain ⟨v,r,rfl,h3,u,r',rfl,h4,rfl⟩:=hr;have h3':v=.string s:=by simpa only [Aw,Rd] using h3
  have h4':u=.string p:=by simpa only [Aw,Rd] using h4
  subst h3' h4';exact(Tryz.strings_TrimPrefix s p w).mono λe w' ⟨he,hw⟩=>⟨he,hw▸RowKit.Below.refl _ _⟩
def As1(s:ByteArray)(c:UInt8)(m:Int)(hm:Lib.indexByte s.data.toList c=m):Sp 167 [Aw s,Aw ⟨#[c]⟩] (Aa m) :=
 Spec.of_calls λκ w vs hi hr _=>by
  subst hm;simp only[RdL]at hr;obtain ⟨v,r,rfl,h3,u,r',rfl,h4,rfl⟩:=hr;have h3':v=.string s:=by simpa only [Aw,Rd] using h3
  have h4':u=.string ⟨#[c]⟩:=by simpa only [Aw,Rd] using h4
  subst h3' h4';exact(Tryz.stringslite_Index_one s c w).mono λe w' ⟨he,hw⟩=>⟨he,hw▸RowKit.Below.refl _ _⟩
def cutT(c:UInt8)(s:ByteArray):ByteArray×ByteArray×Bool :=
 if 0≤Lib.indexByte s.data.toList c then (s.extract 0 (Ls c s.data.toList),s.extract (Ls c s.data.toList+1) s.size,true) else (s,⟨#[]⟩,false)
def Tb(l:List UInt8)(c:UInt8):Lib.indexByte l c<l.length:=by
 induction l with
 |nil=>simp[Lib.indexByte]
 |cons b l ih=>
  unfold Lib.indexByte;rw[yL];split
  ·omega
  split
  ·omega
  ·omega
def A2p(s:ByteArray)(c:UInt8)(hs:s.size≤1000000000):Sp 119 [Aw s,Aw ⟨#[c]⟩] (.tup [Aw (cutT c s).1,Aw (cutT c s).2.1,Ab (cutT c s).2.2]):=cT F119 ntmps119 λF hF=>by
 have aa:=cutT.eq_1 c s;generalize cutT c s=res at *;have ab:=Tb s.data.toList c;have bg:s.data.toList.length=s.size:=rfl;have hid:Ls c s.data.toList=(Lib.indexByte s.data.toList c).toNat:=rfl;obtain ⟨m,sy⟩:∃m,Lib.indexByte s.data.toList c=m:=⟨_,rfl⟩
 have q:=As1 s c m sy;rw[sy]at aa ab hid;refine fW ?_;refine c0 q F167 ?_;refine fU ?_;constructor<;>intro h
 ·have h0:0≤m:=zK h;rw[zG h0,hid]at aa;have e1:(m+1).toNat=m.toNat+1:=by omega
  have rl:(⟨#[c]⟩:ByteArray).size=1:=rfl;subst aa;refine fU ?_;refine⟨⟨by omega,by omega,by omega⟩,?_⟩;refine fW ?_;refine⟨by show I64 (m+1);unfold I64;omega,?_⟩;refine fW ?_;refine⟨⟨by omega,by omega,by omega⟩,?_⟩;refine fW ?_;refine⟨z_,?_⟩;refine fW ?_;refine At E (.cons .tmp (.cons .tmp (.cons .tmp .nil))) ?_ E;show SV.tup [Aw _,Aw (s.extract (m.toNat+1) s.size),_]=SV.tup [Aw _,Aw (s.extract (m+1).toNat _),_];rw[e1];rfl
 ·have h0:¬0≤m:=zQ h;rw[zD h0]at aa;subst aa;exact gC
def Adw(s:ByteArray)(c:UInt8)(hs:s.size≤1000000000):Sp 60 [Aw s,Aw ⟨#[c]⟩] (.tup [Aw (cutT c s).1,Aw (cutT c s).2.1,Ab (cutT c s).2.2]):=cT F60 ntmps60 λF hF=>by
 have q:=A2p s c hs;generalize cutT c s=res at *;refine fW ?_;refine c0 q F119 ?_;exact gC
def Wm(l:List UInt8):Int:=l.foldl (λn c=>10*n+((c.toNat:Int)-48)) 0
def Aoa(s:ByteArray):Bool:=s.data.toList.head?==some 45
def L9(s:ByteArray):List UInt8:=if Aoa s=true then s.data.toList.drop 1 else s.data.toList
def numV(s:ByteArray):Int:=if Aoa s=true then 0-Wm (L9 s) else Wm (L9 s)
def numR(s:ByteArray)(lo hi:Int):Int×Bool :=
 if (L9 s).length<1∨10<(L9 s).length then (0,false) else if (L9 s).all Kv=false then (0,false)
 else if numV s<lo∨hi<numV s then (0,false) else if (An3 (numV s)==s)=true then (numV s,true) else (0,false)
def Ajp(l:List UInt8)(c:UInt8):Wm (l++[c])=10*Wm l+((c.toNat:Int)-48):=by
 rw[Wm,xO];rfl
def Avz:∀(k:Nat) (l:List UInt8),l.length=k→(∀c∈l,Kv c=true)→0≤Wm l∧Wm l<10^k
 |0,l,hl,_=>by
  rw[wW.1 hl];exact⟨xU _,by decide⟩
 |k+1,l,hl,h=>by
  have ag:l≠[]:=λe=>by rw[e]at hl;cases hl
  have e:=uN ag;have h1:=Avz k l.dropLast (by rw[tA];omega) λc hc=>h c (List.dropLast_subset l hc)
  have h2:=h _ (List.getLast_mem ag);simp only[Kv,zE,zJ]at h2;rw[←e,Ajp,Int.pow_succ];omega
def A59{l:List UInt8}(hl:l.length≤10)(h:∀c∈l,Kv c=true):0≤Wm l∧Wm l<10000000000:=by
 have h1:=Avz _ l rfl h;refine⟨h1.1,Int.lt_of_lt_of_le h1.2 ?_⟩;have h2:(10:Nat)^l.length≤10^10:=wY j_ hl;have h3:((10:Nat)^l.length:Int)≤((10^10:Nat):Int):=by exact_mod_cast h2
 simpa using h3
def Az6(s:ByteArray):Lib.trimPrefix s.data.toList [45]=L9 s:=by
 unfold Lib.trimPrefix L9 Aoa;cases s.data.toList with
 |nil=>simp[Lib.hasPrefix]
 |cons c l=>
  by_cases hc:c=45
  ·subst hc;simp[Lib.hasPrefix]
  ·simp[Lib.hasPrefix,hc,Ne.symm hc]
def Ad7{s:ByteArray}{i:Nat}(h:i<s.data.toList.length):Bu s i=s.data.toList[i]:=by
 rw[Bu,wH,zT h];rfl
def Azz{α:Type}{p:α→Bool}{l:List α}{j:Nat}(hI:En (λ_ x=>p x) l j):∀c∈l.take j,p c=true:=by
 intro c hc;obtain ⟨i,hi,rfl⟩:=yY.1 hc;rw[yA]at hi;rw[wA];exact hI i q_ q_
def Abn{α:Type}{p:α→Bool}{l:List α}{j:Nat}(hI:En (λ_ x=>p x) l j)(hj:l.length≤j):l.all p=true:=by
 rw[yZ];intro x hx;obtain ⟨i,hi,rfl⟩:=yY.1 hx;exact hI i hi q_
def all_at'{α:Type}{p:α→Bool}{l:List α}{j:Nat}(hj:j<l.length)(h:p l[j]=false):l.all p=false:=by
 cases ha:l.all p
 ·rfl
 ·rw[yZ]at ha;rw[ha _ (zI hj)]at h;cases h
def u8_sub2{c:UInt8}(h:Kv c=true):IntKind.i64.wrap (IntKind.u8.wrap ((c.toNat:Int)-48))=(c.toNat:Int)-48:=by
 simp only[Kv,zE,zJ]at h;rw[IntKind.wrap_u8,IntKind.wrap_i64];omega
def neg_digs{s:ByteArray}(h:Aoa s=true):(L9 s).length+1=s.size∧∀j,j<(L9 s).length→Bu s (1+j)=(L9 s).getD j 0:=by
 have bg:s.data.toList.length=s.size:=rfl;rw[L9,zG h];rw[Aoa]at h;cases hd:s.data.toList with
 |nil=>rw[hd]at h;cases h
 |cons c l=>
  rw[hd]at bg;refine⟨by simp at bg⊢;omega,λj hj=>?_⟩;rw[Bu,hd,tJ];rfl
def pos_digs{s:ByteArray}(h:Aoa s=false):(L9 s).length=s.size∧∀j,j<(L9 s).length→Bu s j=(L9 s).getD j 0:=by
 rw[L9,zD (by simp[h])];exact⟨E,λj hj=>rfl⟩
def An5(s:ByteArray)(lo hi:Int):Sp 122 [Aw s,Aa lo,Aa hi] (.tup [Aa (numR s lo hi).1,Ab (numR s lo hi).2]):=cT F122 ntmps122 λF hF=>by
 have aa:=numR.eq_1 s lo hi;generalize numR s lo hi=res at *;have q:=Aef s ⟨#[45]⟩;rw[show (⟨#[45]⟩:ByteArray).data.toList=[45] from rfl,Az6]at q;have y5:=numV.eq_1 s;have vj:=@neg_digs s;have ov:=@pos_digs s;generalize numV s=nv at *;generalize hD:L9 s=D at *;have hDs:(mkT D).size=D.length:=Ip D;refine fW ?_;refine c0 q F168 ?_;by_cases h1:D.length<1∨10<D.length
 ·rw[zG h1]at aa;subst aa;refine fU ?_;constructor<;>intro h
  ·exact gC
  ·have h2:1≤D.length:=by
    cases D with
    |nil=>exact zY (show (mkT []==(⟨#[]⟩:ByteArray))=true from rfl) (by rw[show (mkT []==(⟨#[]⟩:ByteArray))=false from h];simp)
    |cons=>simp
   refine fU ?_;constructor<;>intro h
   ·exact gC
   ·exact zY (zQ h) q_
 rw[zD h1]at aa;have ag:(mkT D==(⟨#[]⟩:ByteArray))=false:=by
  cases he:(mkT D==(⟨#[]⟩:ByteArray))
  ·rfl
  ·have e:(mkT D).data=(⟨#[]⟩:ByteArray).data:=by simpa using (show ((mkT D).data==(⟨#[]⟩:ByteArray).data)=true from he)
   have:=zH Array.size e;have e2:(mkT D).data.size=D.length:=hDs;rw[e2]at this;have e3:(⟨#[]⟩:ByteArray).data.size=0:=rfl;omega
 refine fU ?_;refine⟨λh=>zY h (by rw[ag];simp),λ_=>?_⟩;refine fU ?_;refine⟨λh=>zY (zK h) q_,λ_=>?_⟩;refine fU ?_;refine A9 D.length (λj=>En (λ_ c=>Kv c) D j) (λj=>[(0,Aw s),(1,Aa lo),(2,Aa hi),(8,Aw (mkT D)),(9,Aa (Wm (D.take j))),(21,Aa D.length),(22,Aa j)]) (λ_=>[]) [] (Bl _ _)
  ⟨⟨rfl,rfl,rfl,rfl,rfl,rfl,rfl,rfl,rfl,rfl,zH (λz:Nat=>SV.val (.int .i64 z)) hDs.symm,rfl,rfl,rfl,trivial⟩,trivial,rfl,rfl⟩ ?_
 intro j hj hI;have hv:=A59 (l:=D.take j) (by rw[yA];omega) (Azz hI);refine fU ?_;constructor<;>intro h
 ·have ab:j<D.length:=qA h;have hb:Bu (mkT D) (j:Int).toNat=D[j]:=by
   have:j<(mkT D).data.toList.length:=by rw[Kg];exact ab
   rw[zU,Ad7 this];simp[mkT]
  have cu:=λh=>@all_at' _ Kv D j ab h
  have d9:=λh=>Bi (p:=λ_ c=>Kv c) hI ab h
  have af:Wm (D.take (j+1))=10*Wm (D.take j)+((D[j].toNat:Int)-48):=by rw[yD ab,Ajp]
  have hu:=@u8_sub2 D[j];generalize D[j]=c at *;generalize Wm (D.take j)=v at *;have m4:=c.toNat_lt;refine fU ?_;refine⟨by omega,by omega,?_⟩;rw[hb];refine fW ?_;constructor<;>intro h2
  ·have h3:c.toNat<48:=by have:=zK h2;omega
   rw[zG (cu (by rw[Kv,zL q_];rfl))]at aa;subst aa;exact gC
  have h2:=zQ h2;refine fU ?_;refine⟨by omega,by omega,?_⟩;rw[hb];refine fW ?_;constructor<;>intro h3
  ·have h3:57<c.toNat:=by have:=zK h3;omega
   rw[zG (cu (by rw[Kv,zL (by omega:¬c.toNat≤57),wR]))]at aa;subst aa;exact gC
  have h3:=zQ h3;have hdg:Kv c=true:=by rw[Kv,zO q_,zO q_];rfl
  have hu:=hu hdg;refine fU ?_;refine⟨by show I64 (10*v);unfold I64;omega,?_⟩;refine fW ?_;refine⟨by omega,by omega,?_⟩;rw[hb];refine fW ?_;rw[hu];refine⟨by show I64 (10*v+((c.toNat:Int)-48));unfold I64;omega,?_⟩;refine gI ?_;exact A8 [] hI q_ (d9 hdg) ⟨⟨E,E,E,E,E,E,E,E,zH Aa af,E,E,E,E,E,Y⟩,Y,E,E⟩
 ·have dh:j=D.length:=qB h;subst dh;rw[zD (by rw[Abn hI (yG _)];simp)]at aa;rw[yN]at hv⊢;have fin:∀nv:Int,nv=(if Aoa s=true then 0-Wm D else Wm D)→(-10000000000<nv∧nv<10000000000)∧Amb nv:=λnv h=>by
   unfold Amb;split at h<;>omega
  have fn:=fin nv y5;have q2:=Axu nv fn.2;have ly:((mkT D).size:Int)=D.length:=by rw[hDs]
  cases hn:Aoa s
  ·rw[hn,zD y_]at y5;have h4:=(ov hn).1;rw[←y5];refine fU ?_;refine⟨λh=>zY (zK h) q_,λ_=>?_⟩;refine fU ?_;constructor<;>intro h
   ·rw[zG (.inl (zK h))]at aa;subst aa;exact gC
   have h5:=zQ h;refine fU ?_;constructor<;>intro h
   ·rw[zG (.inr (zK h))]at aa;subst aa;exact gC
   have h6:=zQ h;rw[zD q_]at aa;refine fU ?_;refine c0 q2 F169 ?_;cases he:(An3 nv==s)
   ·rw[he,zD y_]at aa;subst aa;refine fU ?_;refine⟨λ_=>?_,λh=>zY h (by rw[he];simp)⟩;exact gC
   ·rw[he,zG rfl]at aa;subst aa;refine fU ?_;refine⟨λh=>zY h (by rw[he];simp),λ_=>?_⟩;exact gC
  ·rw[hn,zG rfl]at y5;have h4:=(vj hn).1;have hw:IntKind.i64.wrap (0-Wm D)=nv:=by rw[IntKind.wrap_i64];omega
   refine fU ?_;refine⟨λ_=>?_,λh=>zY (zQ h) q_⟩;refine fU ?_;rw[hw];constructor<;>intro h
   ·rw[zG (.inl (zK h))]at aa;subst aa;exact gC
   have h5:=zQ h;refine fU ?_;constructor<;>intro h
   ·rw[zG (.inr (zK h))]at aa;subst aa;exact gC
   have h6:=zQ h;rw[zD q_]at aa;refine fU ?_;refine c0 q2 F169 ?_;cases he:(An3 nv==s)
   ·rw[he,zD y_]at aa;subst aa;refine fU ?_;refine⟨λ_=>?_,λh=>zY h (by rw[he];simp)⟩;exact gC
   ·rw[he,zG rfl]at aa;subst aa;refine fU ?_;refine⟨λh=>zY h (by rw[he];simp),λ_=>?_⟩;exact gC
def Kk:∀(l:List UInt8) (c:UInt8),-1≤Lib.indexByte l c
 |[],_=>by simp[Lib.indexByte]
 |b::l,c=>by
  unfold Lib.indexByte;have:=Kk l c;split
  ·omega
  split
  ·omega
  ·omega
def E9:List UInt8→List UInt8→List ByteArray
 |cur,[]=>if cur=[] then [] else [mkT cur]
 |cur,c::r=>if c=10 then mkT cur::E9 [] r else E9 (cur++[c]) r
def rowsT(b:List UInt8):List ByteArray×Int :=
 if 20000<b.length then ([],3) else if 400<(E9 [] b).length then ([],3) else (E9 [] b,0)
def Ab6:∀(l cur:List UInt8),Lib.indexByte l 10=-1→E9 cur l=if cur++l=[] then [] else [mkT (cur++l)]
 |[],cur,_=>by rw[E9,xC]
 |c::l,cur,h=>by
  unfold Lib.indexByte at h;by_cases hc:(c==10)=true
  ·rw[zG hc]at h;omega
  rw[zD hc]at h;have hi:Lib.indexByte l 10=-1:=by
   by_cases h1:(Lib.indexByte l 10 == -1)=true
   ·simpa using h1
   ·rw[zD h1]at h;have:=Kk l 10;omega
  rw[E9,zD (by simpa using hc),Ab6 l _ hi];simp
def Ab5:∀(l cur:List UInt8),0≤Lib.indexByte l 10→E9 cur l=mkT (cur++l.take (Lib.indexByte l 10).toNat)::E9 [] (l.drop ((Lib.indexByte l 10).toNat+1))
 |[],cur,h=>by simp[Lib.indexByte]at h
 |c::l,cur,h=>by
  unfold Lib.indexByte at h⊢;by_cases hc:(c==10)=true
  ·rw[zG hc,E9,zG (by simpa using hc)];simp
  rw[zD hc]at h⊢;by_cases h1:(Lib.indexByte l 10 == -1)=true
  ·rw[zG h1]at h;omega
  rw[zD h1]at h⊢;have:=Kk l 10;have h2:0≤Lib.indexByte l 10:=by
   have h3:Lib.indexByte l 10≠-1:=by simpa using h1
   omega
  have e:(Lib.indexByte l 10+1).toNat=(Lib.indexByte l 10).toNat+1:=by omega
  rw[E9,zD (by simpa using hc),Ab5 l _ h2,e];simp
def Arx{l:List UInt8}(h:l≠[]):E9 [] l=(cutT 10 (mkT l)).1::E9 [] (cutT 10 (mkT l)).2.1.data.toList∧(cutT 10 (mkT l)).2.1.data.toList.length<l.length:=by
 have gl:=xN.2 h;have ab:=Tb l 10;have ve:=Kk l 10;have e0:(mkT l).size=l.length:=Ip l;rw[cutT,Kg];split
 ·rename_i h0;dsimp only;rw[Ab5 l [] h0,Eu,Eu,Kg,e0,yN];refine⟨E,?_⟩;rw[yO];omega
 ·rename_i h0;dsimp only;rw[Ab6 l [] q_,wC,zD h];exact⟨E,gl⟩
def Axz(l:List UInt8):(mkT l == ⟨#[]⟩)=decide (l=[]):=by
 cases l with
 |nil=>rfl
 |cons c l=>
  rw[zL y_];cases he:(mkT (c::l)==(⟨#[]⟩:ByteArray))
  ·rfl
  ·have e:(mkT (c::l)).data=(⟨#[]⟩:ByteArray).data:=by simpa using (show ((mkT (c::l)).data==(⟨#[]⟩:ByteArray).data)=true from he)
   have:=zH Array.size e;simp[mkT]at this
def Ayh(b:List UInt8)(hb:b.length≤1000000):Sp 24 [.sl 1 Al b] (.tup [.sl 1 Aw (rowsT b).1,Aa (rowsT b).2]):=cT F24 ntmps24 λF hF=>by
 have aa:=rowsT.eq_1 b;generalize rowsT b=res at *;refine fW ?_;constructor<;>intro h
 ·rw[zG (qA h)]at aa;subst aa;refine fU ?_;refine Au 2 1 Aw E ?_;exact gC
 rw[zD (qB h)]at aa;refine fU ?_;refine Af (Kn Γ.toTy (bs:=b) E E E E E E E .sl) E E ?_;refine B7 4 1000 1 Aw E E ?_;refine fU ?_;refine C3 (λx:List ByteArray×List UInt8=>E9 [] b=x.1++E9 [] x.2∧x.1.length+x.2.length≤b.length) (λx=>[(4,.osl 1000),(5,Aw (mkT x.2))]) (λx=>[(1000,.row 1 Aw x.1)]) (λx=>x.2.length) ([],b) [] ⟨E,by simp⟩
  kU ?_
 rintro ⟨out,rest⟩ ⟨hI,hlen⟩;dsimp only at hI hlen⊢;have rn:=Axz rest;refine fU ?_;by_cases hr:rest=[]
 ·rw[zO hr]at rn;refine⟨λh=>zY h (by rw[rn];simp),λ_=>?_⟩;have gm:E9 [] b=out:=by rw[hI,hr];simp[E9]
  rw[gm]at aa;refine fU ?_;constructor<;>intro h
  ·rw[zG (qA h)]at aa;subst aa;refine fU ?_;refine Au 2 1 Aw E ?_;exact gC
  ·rw[zD (qB h)]at aa;subst aa;refine Aj 1000 E ?_;exact gC
 ·rw[zL hr]at rn;refine⟨λ_=>?_,λh=>zY h (by rw[rn];simp)⟩;obtain ⟨hc,ab⟩:=Arx hr;have q:=Adw (mkT rest) 10 (by rw[Ip];omega);obtain ⟨⟨row,rs,more⟩,y6⟩:∃p,cutT 10 (mkT rest)=p:=⟨_,rfl⟩
  rw[y6]at q hc ab;dsimp only at q hc ab;have hrz:rs.data.toList.length=rs.size:=rfl;refine fU ?_;refine c0 q F60 ?_;refine fU ?_;refine Af (Ag Γ.toTy 23 E E E E E (.row E) (.lit (e:=Aw) (l:=[row]) E E) y_ (by simp;omega) (by simp;omega)) E E ?_;refine fU ?_;refine Be (out++[row],rs.data.toList) [(1000,23)] ⟨by rw[hI,hc];simp,by simp;omega⟩ (by dsimp only;omega) ⟨⟨E,E,zH Aw (Kf rs),E,Y⟩,⟨.inl E,E,Y⟩,E,E⟩
def Jk(d:UInt8):List UInt8→List UInt8→List ByteArray
 |cur,[]=>[mkT cur]
 |cur,c::r=>if c=d then mkT cur::Jk d [] r else Jk d (cur++[c]) r
def Sf(d:UInt8):∀(l cur:List UInt8),d∉l→Jk d cur l=[mkT (cur++l)]
 |[],cur,_=>by rw[Jk,xC]
 |c::l,cur,h=>by
  simp only[yH,uC]at h;rw[Jk,zD (Ne.symm h.1),Sf d l _ h.2];simp
def Se(d:UInt8):∀(l cur:List UInt8),d∈l→Jk d cur l=mkT (cur++l.take (Ls d l))::Jk d [] (l.drop (Ls d l+1))
 |[],cur,h=>by simp at h
 |c::l,cur,h=>by
  by_cases hc:c=d
  ·subst hc;rw[Jk,zG rfl,Ls];simp[Lib.indexByte]
  ·have h2:d∈l:=by
    simp only[yH]at h;exact h.resolve_left (Ne.symm hc)
   have h3:=(J2 h2).1;have e:Ls d (c::l)=Ls d l+1:=by
    have e1:Lib.indexByte (c::l) d=Lib.indexByte l d+1:=by
     rw[Lib.indexByte.eq_def];dsimp only;rw[zD (by simpa using hc),zD (by simp;omega)]
    rw[Ls,Ls,e1];omega
   rw[Jk,zD hc,Se d l _ h2,e];simp
def Ul(d:UInt8)(l:List UInt8):∀j,Cz d l (j+1)=Cz d (l.drop (Ls d l+1)) j
 |0=>rfl
 |j+1=>by
  rw[Cz,Ul d l j];rfl
def Aih(d:UInt8):∀(k:Nat) (l:List UInt8),l.length≤k→Ct d (mkT l)=Jk d [] l
 |0,l,h=>by
  rw[wW.1 (by omega:l.length=0)];simp[Ct,Jk,Cz,mkT]
 |k+1,l,h=>by
  by_cases hd:d∈l
  ·have h1:=Td hd;have h2:=(J2 hd).2;have h3:(l.drop (Ls d l+1)).length≤k:=by rw[yO];omega
   rw[Se d l [] hd,←Aih d k _ h3];simp only[Ct,Kg];rw[←h1,List.range_succ_eq_map,xV,List.map_map,xS,wC,Ul];congr 2;apply tF;intro j _;show mkT (Ut d l (j+1))=_;rw[Ut,Ut,Ul]
  ·have h1:l.count d=0:=List.count_eq_zero.2 hd;rw[Sf d l [] hd];simp[Ct,Kg,h1,Cz]
def Aig(d:UInt8)(s:ByteArray):Ct d s=Jk d [] s.data.toList:=by
 rw[←Aih d _ _ (yG _),Kf]
def digI(c:UInt8):Int:=if 48≤c.toNat∧c.toNat≤57 then (c.toNat:Int)-48 else if 97≤c.toNat∧c.toNat≤102 then (c.toNat:Int)-87 else 16
def Ad4(c:UInt8):0≤digI c∧digI c≤16:=by
 unfold digI;split
 ·omega
 split
 ·omega
 ·omega
end Go.Sy.YticmobkdaneelaaGreatDoor
namespace Go.Sy.YticmobkdaneelaaGreatDoor
open Go.Proofs Go.Proofs.Tryz
def Lj(a b:ByteArray):(a==b)=true↔a=b:=by
 cases a with
 |mk a=>
  cases b with
  |mk b=>
   show (a==b)=true↔_;simp
instance:LawfulBEq ByteArray where
 eq_of_beq h:=(Lj _ _).1 h
 rfl:=(Lj _ _).2 rfl
def A2r(c:UInt8):Bool:=decide (97≤c.toNat)&&decide (c.toNat≤122)
def A6w:List UInt8→Bool
 |[]=>false
 |c::l=>A2r c&&l.all λc=>A2r c||Kv c
def Bc(s:ByteArray):Bool:=A6w s.data.toList&&decide (s.size≤12)
def Zk(s:ByteArray)(i:Nat):Bool:=decide (digI (Bu s (3*i))≤15)&&decide (digI (Bu s (3*i+1))≤15)&&(decide (5≤i)||decide ((Bu s (3*i+2)).toNat=58))
def Wj(s:ByteArray):Nat→Int
 |0=>0
 |i+1=>Wj s i*256+digI (Bu s (3*i))*16+digI (Bu s (3*i+1))
def macR(s:ByteArray):Int×Bool:=if s.size=17∧(List.range 6).all (Zk s)=true then (Wj s 6,true) else (0,false)
def Mk(m:Int):Bool:=decide (m%281474976710656/4294967296=512)
def statB(m:Int):Bool:=decide (m≤281474976710655)&&!(Mk m)&&!(Ex m.toNat)
def Iw(one:ByteArray→Int×Bool):List Int→List ByteArray→List Int×Bool
 |out,[]=>(out,true)
 |out,p::r=>if (one p).2=false∨out.length=16∨(∃x,out.getLast? = some x∧(one p).1≤x) then ([],false) else Iw one (out++[(one p).1]) r
def Ie(one:ByteArray→Int×Bool)(s:ByteArray):List Int×Bool:=Iw one [] (Ct 44 s)
def A6c:ByteArray:=⟨#[45]⟩
def listR(bd:Int)(s:ByteArray):List Int×Bool:=if s=A6c then ([],true) else Ie (λp=>numR p 1 bd) s
def Ea(s:ByteArray):List Int×Bool:=Ie Dy s
def prefixR(s:ByteArray):(Int×Int)×Bool :=
 if (cutT 47 s).2.2=false∨(Dy (cutT 47 s).1).2=false∨(smallT (cutT 47 s).2.1 32).2=false then ((0,0),false) else (((Dy (cutT 47 s).1).1,(smallT (cutT 47 s).2.1 32).1),true)
def subnetB(a bits:Int):Bool:=decide (1≤bits)&&decide (bits≤30)&&decide (a≠Dg a bits)&&decide (a≠Hz a bits)
def Bs:List (Bool×Int)→Int
 |[]=>0
 |(b,e)::l=>if b=true then e else Bs l
def Av(cur:Int)(b:Bool)(e:Int):Int:=if b=true∧cur=0 then e else cur
def kindL(s:ByteArray):Int :=
 if s=⟨#[100,101,118,105,99,101]⟩ then 1 else if s=⟨#[112,111,114,116]⟩ then 2 else if s=⟨#[108,105,110,107]⟩ then 3 else if s=⟨#[115,116,97,116,105,99]⟩ then 4
 else if s=⟨#[118,116,101,112]⟩ then 5 else if s=⟨#[118,110,105]⟩ then 6 else if s=⟨#[102,108,111,111,100]⟩ then 7 else if s=⟨#[118,114,102]⟩ then 8 else if s=⟨#[105,114,98]⟩ then 9 else 0
def Hu:ByteArray:=⟨#[97,99,99,101,115,115]⟩
def E6:ByteArray:=⟨#[116,114,117,110,107]⟩
def wdT(w:List ByteArray)(i:Nat):ByteArray:=(w[i]?).getD ⟨#[]⟩
def manyB(k:Int)(w:List ByteArray):Bool :=
 if k=0 then false
 else if k=2 then (if w.length<6 then false else if wdT w 4=Hu then decide (w.length=6) else if wdT w 4=E6 then decide (w.length=7) else decide (w.length≤7))
 else if k=3∨k=4∨k=8∨k=9 then decide (w.length=5) else if k=5 then decide (w.length=3) else decide (w.length=4)
def membersB(vlan:Int)(tagged:List Int):Bool:=(decide (0<vlan)||!tagged.isEmpty)&&!(tagged.contains vlan)
def lineZ:LineM:=⟨0,0,⟨#[]⟩,⟨#[]⟩,⟨#[]⟩,⟨#[]⟩,⟨#[]⟩,0,0,0,0,0,0,[],[],[],[]⟩
def Cw(s:ByteArray):Int×Bool:=numR s 1 4094
def Sb(s:ByteArray):Int×Bool:=numR s 1 16777215
def Ef(w:List ByteArray):Int×List Int×List (Bool×Int) :=
 if wdT w 4=Hu then ((Cw (wdT w 5)).1,[],[(!(Cw (wdT w 5)).2,21)])
 else if wdT w 4=E6 then
  (if wdT w 5=A6c then (0,(listR 4094 (wdT w 6)).1,[(!(listR 4094 (wdT w 6)).2,21)])
   else ((Cw (wdT w 5)).1,(listR 4094 (wdT w 6)).1,[(!(Cw (wdT w 5)).2,21),(!(listR 4094 (wdT w 6)).2,21)]))
 else (0,[],[])
def B5(w:List ByteArray)(row:Int):LineM×List (Bool×Int) :=
 let n:=λi=>(!(Bc (wdT w i)),(20:Int))
 let k:=kindL (wdT w 0)
 if k=1 then ({lineZ with row:=row,kind:=1,dev:=wdT w 1,num:=(numR (wdT w 2) 0 65535).1,mac:=(macR (wdT w 3)).1},[n 1,(!(numR (wdT w 2) 0 65535).2,21),(!((macR (wdT w 3)).2&&statB (macR (wdT w 3)).1),21)])
 else if k=2 then ({ lineZ with row:=row,kind:=2,dev:=wdT w 1,port:=wdT w 2,cost:=(numR (wdT w 3) 1 65535).1,vlan:=(Ef w).1,tagged:=(Ef w).2.1 },
  [n 1,n 2,(!(numR (wdT w 3) 1 65535).2,21),(decide (wdT w 4≠Hu) && decide (wdT w 4≠E6),20)]++(Ef w).2.2++[(!(membersB (Ef w).1 (Ef w).2.1),21)])
 else if k=3 then ({lineZ with row:=row,kind:=3,dev:=wdT w 1,port:=wdT w 2,peer:=wdT w 3,far:=wdT w 4},[n 1,n 2,n 3,n 4])
 else if k=4 then ({lineZ with row:=row,kind:=4,dev:=wdT w 1,vlan:=(Cw (wdT w 2)).1,mac:=(macR (wdT w 3)).1,port:=wdT w 4},[n 1,(!(Cw (wdT w 2)).2,21),(!((macR (wdT w 3)).2&&statB (macR (wdT w 3)).1),21),n 4])
 else if k=5 then ({lineZ with row:=row,kind:=5,dev:=wdT w 1,addr:=(Dy (wdT w 2)).1},[n 1,(!((Dy (wdT w 2)).2&&decide ((Dy (wdT w 2)).1≠0)),21)])
 else if k=6 then ({lineZ with row:=row,kind:=6,dev:=wdT w 1,vlan:=(Cw (wdT w 2)).1,num:=(Sb (wdT w 3)).1},[n 1,(!(Cw (wdT w 2)).2,21),(!(Sb (wdT w 3)).2,21)])
 else if k=7 then ({lineZ with row:=row,kind:=7,dev:=wdT w 1,num:=(Sb (wdT w 2)).1,addrs:=(Ea (wdT w 3)).1},[n 1,(!(Sb (wdT w 2)).2,21),(!((Ea (wdT w 3)).2&&decide ((Ea (wdT w 3)).1.head? ≠ some 0)),21)])
 else if k=8 then ({lineZ with row:=row,kind:=8,dev:=wdT w 1,name:=wdT w 2,imports:=(listR 65535 (wdT w 3)).1,exports:=(listR 65535 (wdT w 4)).1},[n 1,n 2,(!(listR 65535 (wdT w 3)).2,21),(!(listR 65535 (wdT w 4)).2,21)])
 else ({ lineZ with row:=row,kind:=9,dev:=wdT w 1,vlan:=(Cw (wdT w 2)).1,name:=wdT w 3,addr:=(prefixR (wdT w 4)).1.1,bits:=(prefixR (wdT w 4)).1.2 },
  [n 1,(!(Cw (wdT w 2)).2,21),n 3,(!((prefixR (wdT w 4)).2 && subnetB (prefixR (wdT w 4)).1.1 (prefixR (wdT w 4)).1.2),21)])
def Ci(w:List ByteArray)(row:Int):LineM×Int :=
 if w=[]∨manyB (kindL (wdT w 0)) w=false then (lineZ,22) else if Bs (B5 w row).2≠0 then (lineZ,Bs (B5 w row).2) else ((B5 w row).1,0)
def I9(cur:List UInt8):List ByteArray:=if cur=[] then [] else [mkT cur]
def E1:List UInt8→List UInt8→List ByteArray
 |cur,[]=>I9 cur
 |cur,c::r=>if c=35 then I9 cur else if c=32∨c=9 then I9 cur++E1 [] r else E1 (cur++[c]) r
def Amc(c:UInt8):Bool:=decide (32<c.toNat)&&decide (c.toNat≤126)&&decide (c.toNat≠35)
def wordB(s:ByteArray):Bool:=decide (0<s.size)&&decide (s.size≤40)&&s.data.toList.all Amc
def wordsT(row:ByteArray):List ByteArray×Int:=if (E1 [] row.data.toList).all wordB=true then (E1 [] row.data.toList,0) else ([],20)
def Lz:Nat→List ByteArray→List LineM→List LineM×Int×Int
 |_,[],out=>(out,0,0)
 |i,r::rs,out=>
  if (wordsT r).2≠0 then ([],(i:Int)+1,(wordsT r).2) else if (wordsT r).1=[] then Lz (i+1) rs out
  else if (Ci (wordsT r).1 ((i:Int)+1)).2≠0 then ([],(i:Int)+1,(Ci (wordsT r).1 ((i:Int)+1)).2) else Lz (i+1) rs (out++[(Ci (wordsT r).1 ((i:Int)+1)).1])
def textT(b:List UInt8):List LineM×Int×Int:=if (rowsT b).2≠0 then ([],0,(rowsT b).2) else Lz 0 (rowsT b).1 []
def Mr(a b:LineM):Bool :=
 a.row == b.row && (a.kind == b.kind && (a.dev == b.dev && (a.port == b.port && (a.peer == b.peer && (a.far == b.far && (a.name == b.name && (a.mac == b.mac && (a.addr == b.addr && (a.bits == b.bits &&
 (a.vlan == b.vlan && (a.num == b.num && (a.cost == b.cost && (a.tagged == b.tagged && (a.imports == b.imports && (a.exports == b.exports && a.addrs == b.addrs)))))))))))))))
def Cm(n lo hi:Int):Bool:=decide (lo≤n)&&decide (n≤hi)
abbrev Ep(l:List Int)(hi:Int):Bool:=Ug l hi
def Kt(l:List Int):Bool:=(List.range l.length).all (λi=>decide (l.getD i 0≠0)&&(i==0||decide (l.getD (i-1) 0<l.getD i 0)))&&(decide (0<l.length)&&decide (l.length≤16))
def Bm(l:LineM):LineM×Bool :=
 let u:LineM:={lineZ with row:=l.row,kind:=l.kind,dev:=l.dev}
 if l.kind=1 then ({u with num:=l.num,mac:=l.mac},Cm l.num 0 65535&&statB l.mac)
 else if l.kind=2 then ({u with port:=l.port,cost:=l.cost,vlan:=l.vlan,tagged:=l.tagged},Bc l.port&&(Cm l.cost 1 65535&&(Cm l.vlan 0 4094&&(Ep l.tagged 4094&&membersB l.vlan l.tagged))))
 else if l.kind=3 then ({u with port:=l.port,peer:=l.peer,far:=l.far},Bc l.port&&(Bc l.peer&&Bc l.far))
 else if l.kind=4 then ({u with vlan:=l.vlan,mac:=l.mac,port:=l.port},Cm l.vlan 1 4094&&(statB l.mac&&Bc l.port))
 else if l.kind=5 then ({u with addr:=l.addr},decide (l.addr≠0))
 else if l.kind=6 then ({u with vlan:=l.vlan,num:=l.num},Cm l.vlan 1 4094&&Cm l.num 1 16777215)
 else if l.kind=7 then ({u with num:=l.num,addrs:=l.addrs},Cm l.num 1 16777215&&Kt l.addrs)
 else if l.kind=8 then ({u with name:=l.name,imports:=l.imports,exports:=l.exports},Bc l.name&&(Ep l.imports 65535&&Ep l.exports 65535))
 else if l.kind=9 then ({u with vlan:=l.vlan,name:=l.name,addr:=l.addr,bits:=l.bits},Cm l.vlan 1 4094&&(Bc l.name&&subnetB l.addr l.bits))
 else (u,false)
def Cj(l:LineM):Bool:=(Bm l).2&&(Bc l.dev&&Mr (Bm l).1 l)
def Avd{s:ByteArray}{lo hi v:Int}(h:numR s lo hi=(v,true)):lo≤v∧v≤hi:=by
 unfold numR at h
 repeat' split at h
 all_goals first|(simp at h;done)|(simp only[Prod.mk.injEq,and_true]at h;omega)
def Im{s:ByteArray}{lo hi:Int}(h:(numR s lo hi).2=true):lo≤(numR s lo hi).1∧(numR s lo hi).1≤hi:=Avd (v:=(numR s lo hi).1) (by rw[←h])
def Auo(l:List Int):Prop:=l.Pairwise (·<·)
def Qy(one:ByteArray→Int×Bool):∀(ps:List ByteArray) (out r:List Int),Iw one out ps=(r,true)→Auo out→out.length≤16 →
  Auo r∧r.length≤16∧r.length=out.length+ps.length∧∀x∈r,x∈out∨∃p∈ps,one p=(x,true)
 |[],out,r,h,h1,h2=>by
  rw[Iw]at h;simp only[Prod.mk.injEq,and_true]at h;subst h;exact⟨h1,h2,by simp,λx hx=>.inl hx⟩
 |p::ps,out,r,h,h1,h2=>by
  rw[Iw]at h;split at h
  ·simp at h
  ·rename_i hn;simp only[uC]at hn;obtain ⟨n1,n2,n3⟩:=hn;have hr:Auo (out++[(one p).1]):=by
    refine tX.2 ⟨h1,List.pairwise_singleton _ _,λy hy z hz=>?_⟩;simp only[yB]at hz;subst hz;cases hl:out.getLast? with
    |none=>rw[List.getLast?_eq_none_iff]at hl;subst hl;cases hy
    |some w=>
     have ab:¬(one p).1≤w:=λhh=>n3 ⟨w,hl,hh⟩
     obtain ⟨c,rfl⟩:∃c,out=c++[w]:=by
      have ag:out≠[]:=λe=>by rw[e]at hy;cases hy
      refine⟨out.dropLast,?_⟩;have:=uN ag;rw[List.getLast?_eq_some_getLast ag]at hl;simp only[Option.some.injEq]at hl;rw[←hl];exact this.symm
     rcases yI.1 hy with hy|hy
     ·have:=(tX.1 h1).2.2 y hy w y_;omega
     ·simp only[yB]at hy;omega
   obtain ⟨a,b,c,d⟩:=Qy one ps _ r h hr (by rw[zW];simp;omega);refine⟨a,b,by rw[c];simp;omega,λx hx=>?_⟩;rcases d x hx with hx|⟨q,hq,e⟩
   ·rcases yI.1 hx with hx|hx
    ·exact .inl hx
    ·simp only[yB]at hx;refine .inr ⟨p,by simp,?_⟩;rw[hx];have:(one p).2=true:=by simpa using n1
     rw[←this]
   ·exact .inr ⟨q,by simp[hq],e⟩
def Aim{l:List Int}(h:∀i (hi:i+1<l.length),l[i]<l[i+1]):Auo l:=by
 unfold Auo;rw[vH];intro i j hi hj br
 induction j with
 |zero=>omega
 |succ j ih=>
  by_cases e:i=j
  ·subst e;exact h i hj
  ·have:=ih q_ q_;have:=h j hj;omega
def Xf:∀(l:List (Bool×Int)),(∀x∈l,x.2≠0)→Bs l=0→∀x∈l,x.1=false
 |[],_,_,x,hx=>by cases hx
 |(b,e)::l,h,h0,x,hx=>by
  rw[Bs]at h0;cases b with
  |true=>rw[zG rfl]at h0;exact zY h0 (h (true,e) y_)
  |false=>
   rw[zD y_]at h0;rcases yH.1 hx with hx|hx
   ·rw[hx]
   ·exact Xf l (λy hy=>h y (by simp[hy])) h0 x hx
def rising_iff{l:List Int}{lo hi:Int}:Hp l lo hi=true↔Auo l∧(∀x∈l,lo≤x∧x≤hi)∧0<l.length∧l.length≤16:=by
 have hg:∀i (h:i<l.length),nth l (i:Int)=l[i]:=λi h=>Ai (i:=(i:Int)) h
 rw[Hp,zE,zE,zJ,zJ,allB_iff];constructor
 ·rintro ⟨⟨h1,h2⟩,h⟩;refine⟨Aim λi hi=>?_,λx hx=>?_,h1,h2⟩
  ·have:=h (i+1) hi;simp only[Uf,zE,yM,zJ,yJ]at this;rw[show (((i+1:Nat):Int)-1)=(i:Int) by omega,hg i q_]at this;omega
  ·obtain ⟨i,hi,rfl⟩:=yY.1 hx;have:=h i hi;simp only[Uf,zE,zJ]at this;exact this.1
 ·rintro ⟨h,h1,h2⟩;refine⟨h2,λi hi=>?_⟩;have hx:=h1 _ (zI hi);simp only[Uf,zE,yM,zJ,yJ];refine⟨hx,?_⟩;by_cases h0:i=0
  ·exact .inl h0
  ·right;rw[show ((i:Int)-1)=((i-1:Nat):Int) by omega,hg (i-1) q_];exact vH.1 h (i-1) i q_ hi q_
def listOK_iff{l:List Int}{hi:Int}:Ep l hi=true↔l=[]∨Hp l 1 hi=true:=by
 rw[Ep,Ug,yM,zJ,wW]
def Azm{l:List Int}(hn:∀x∈l,0≤x):Kt l=true↔Auo l∧(∀x∈l,x≠0)∧0<l.length∧l.length≤16:=by
 have hg:∀i (h:i<l.length),l.getD i 0=l[i]:=λi h=>by rw[wH,zT h];rfl
 rw[Kt,zE,zE,zJ,zJ,yZ];constructor
 ·rintro ⟨h,h1,h2⟩;refine⟨Aim λi hi=>?_,λx hx=>?_,h1,h2⟩
  ·have:=h (i+1) (xA.2 hi);rw[Nat.add_sub_cancel,hg _ hi,hg i q_]at this;simp only[zE,yM,zJ,yJ]at this;omega
  ·obtain ⟨i,hi,rfl⟩:=yY.1 hx;have:=h i (xA.2 hi);rw[hg i hi]at this;simp only[zE,zJ]at this;exact this.1
 ·rintro ⟨h,h1,h2⟩;refine⟨λi hi=>?_,h2⟩;have hi:=xA.1 hi;have hx:=h1 _ (zI hi);rw[hg i hi];simp only[zE,yM,zJ,yJ];refine⟨hx,?_⟩;by_cases h0:i=0
  ·exact .inl h0
  ·right;rw[hg (i-1) q_];exact vH.1 h (i-1) i q_ hi q_
def A5q{s:ByteArray}{hi:Int}{l:List Int}(h:listR hi s=(l,true)):Ep l hi=true:=by
 rw[listR]at h;split at h
 ·simp only[Prod.mk.injEq,and_true]at h;subst h;rfl
 ·rw[Ie]at h;obtain ⟨a,b,c,d⟩:=Qy _ _ _ _ h List.Pairwise.nil j_;refine listOK_iff.2 (.inr (rising_iff.2 ⟨a,λx hx=>?_,?_,b⟩))
  ·rcases d x hx with hx|⟨p,_,hp⟩
   ·cases hx
   ·exact Avd hp
  ·rw[c,Lc];simp
def Lx(s:ByteArray):0≤(Dy s).1:=by
 rw[Dy];split
 ·dsimp only;generalize Ct 46 s=l;cases hl:l.reverse with
  |nil=>
   have:l=[]:=by simpa using hl
   subst this;exact xU _
  |cons x r=>
   have:l=r.reverse++[x]:=by
    have:=zH List.reverse hl;simpa using this
   rw[this,Ym];show 0≤IntKind.u32.wrap _;rw[IntKind.wrap_u32];omega
 ·exact xU _
def Tl(s:ByteArray):(Dy s).1<4294967296:=by
 rw[Dy];split
 ·dsimp only;generalize Ct 46 s=l;cases hl:l.reverse with
  |nil=>
   have:l=[]:=by simpa using hl
   subst this;decide
  |cons x r=>
   have:l=r.reverse++[x]:=by
    have:=zH List.reverse hl;simpa using this
   rw[this,Ym];show IntKind.u32.wrap _<_;rw[IntKind.wrap_u32];omega
 ·decide
def A4g{s:ByteArray}{l:List Int}(h:Ea s=(l,true))(h0:l.head? ≠ some 0):Kt l=true:=by
 rw[Ea,Ie]at h;obtain ⟨a,b,c,d⟩:=Qy _ _ _ _ h List.Pairwise.nil j_;have hn:∀x∈l,0≤x:=λx hx=>by
  rcases d x hx with hx|⟨p,_,hp⟩
  ·cases hx
  ·have:=Lx p;rw[hp]at this;exact this
 refine(Azm hn).2 ⟨a,λx hx e=>?_,by rw[c,Lc];simp,b⟩;subst e;cases l with
 |nil=>cases hx
 |cons y l=>
  rcases yH.1 hx with hx|hx
  ·subst hx;exact h0 rfl
  ·have h1:=(vO.1 a).1 0 hx;have h2:=hn y y_;omega
set_option maxHeartbeats 4000000
def Ho(a:LineM):Mr a a=true:=by simp[Mr]
def Ee(w:List ByteArray)(row:Int):∀x∈(B5 w row).2,x.2≠0:=by
 unfold B5 Ef;dsimp only
 repeat' split
 all_goals simp
def Aws{w:List ByteArray}{row:Int}(h:(Ci w row).2=0):(Ci w row).1=(B5 w row).1∧∀x∈(B5 w row).2,x.1=false:=by
 rw[Ci]at h⊢;split at h
 ·simp at h
 ·rename_i h1;rw[zD h1];split at h
  ·rename_i h2;exact zY h h2
  ·rename_i h2;rw[zD h2];exact⟨E,Xf _ (Ee w row) q_⟩
def k1:kindL ⟨#[100,101,118,105,99,101]⟩=1:=by decide +kernel
def k2:kindL ⟨#[112,111,114,116]⟩=2:=by decide +kernel
def k3:kindL ⟨#[108,105,110,107]⟩=3:=by decide +kernel
def k4:kindL ⟨#[115,116,97,116,105,99]⟩=4:=by decide +kernel
def k5:kindL ⟨#[118,116,101,112]⟩=5:=by decide +kernel
def k6:kindL ⟨#[118,110,105]⟩=6:=by decide +kernel
def k7:kindL ⟨#[102,108,111,111,100]⟩=7:=by decide +kernel
def k8:kindL ⟨#[118,114,102]⟩=8:=by decide +kernel
def k9:kindL ⟨#[105,114,98]⟩=9:=by decide +kernel
def Aj4:Hu≠E6:=by decide +kernel
def wd0(a:ByteArray)(l:List ByteArray):wdT (a::l) 0=a:=rfl
def st1(d n m:ByteArray)(r:Int):B5 [⟨#[100,101,118,105,99,101]⟩,d,n,m] r=({lineZ with row:=r,kind:=1,dev:=d,num:=(numR n 0 65535).1,mac:=(macR m).1},[(!(Bc d),20),(!(numR n 0 65535).2,21),(!((macR m).2&&statB (macR m).1),21)]):=by
 unfold B5;simp only[wd0,k1];rfl
def st3(d p q f:ByteArray)(r:Int):B5 [⟨#[108,105,110,107]⟩,d,p,q,f] r=({lineZ with row:=r,kind:=3,dev:=d,port:=p,peer:=q,far:=f},[(!(Bc d),20),(!(Bc p),20),(!(Bc q),20),(!(Bc f),20)]):=by
 unfold B5;simp only[wd0,k3];rfl
def st4(d v m p:ByteArray)(r:Int):B5 [⟨#[115,116,97,116,105,99]⟩,d,v,m,p] r=({lineZ with row:=r,kind:=4,dev:=d,vlan:=(Cw v).1,mac:=(macR m).1,port:=p},[(!(Bc d),20),(!(Cw v).2,21),(!((macR m).2&&statB (macR m).1),21),(!(Bc p),20)]):=by
 unfold B5;simp only[wd0,k4];rfl
def within_iff{n lo hi:Int}:Cm n lo hi=true↔lo≤n∧n≤hi:=by simp[Cm]
def Ag5{m:Int}(h:statB m=true):m<281474976710656:=by
 simp only[statB,zE,zJ]at h;omega
def T7{a b:Int}(h:subnetB a b=true):1≤b∧b≤30:=by
 simp only[subnetB,zE,zJ]at h;omega
structure LineOK(l:LineM):Prop where
 mac:0≤l.mac∧l.mac<18446744073709551616
 addr:0≤l.addr∧l.addr<4294967296
 addrs:∀x∈l.addrs,0≤x∧x<4294967296
def Aka{s:ByteArray}{v:Int}(h:(Cw s).2=true)(e:(Cw s).1=v):Cm v 1 4094=true:=by
 have:=Im h;exact within_iff.2 (by rw[←e];exact this)
def Azt{s:ByteArray}{v:Int}(h:(Sb s).2=true)(e:(Sb s).1=v):Cm v 1 16777215=true:=by
 have:=Im h;exact within_iff.2 (by rw[←e];exact this)
def Ady{α:Type}{p:α×Bool}(h:p.2=true):p=(p.1,true):=by rw[←h]
attribute [local irreducible] Go.Sy.G Go.Sy.DR
set_option maxRecDepth 100000
structure LineFin(l:LineM):Prop where
 t:l.tagged.length≤100000
 i:l.imports.length≤100000
 e:l.exports.length≤100000
 a:l.addrs.length≤100000
def Aw0{s:ByteArray}(h:s.size=0):s=⟨#[]⟩:=by
 have h2:s.data.toList.length=0:=h;exact Agc (zZ h2)
def Ayg(s:ByteArray)(hs:s.size≤1000000):Sp 62 [Aw s] (Ab (wordB s)):=cT F62 ntmps62 λF hF=>by
 have bg:s.data.toList.length=s.size:=rfl;have hw:=wordB.eq_1 s;obtain ⟨r,hr⟩:∃r,wordB s=r:=⟨_,rfl⟩
 rw[hr]at hw⊢;refine T ?_;refine A9 s.size (λj=>En (λ_ c=>Amc c) s.data.toList j) (λj=>[(0,Aw s),(5,Aa s.size),(6,Aa j)]) (λ_=>[]) [] (Bl _ _) U ?_;intro j hj hI;refine T ?_;constructor<;>intro h
 ·have ab:j<s.data.toList.length:=qA h;have hb:Bu s j=s.data.toList[j]:=Ad7 ab;have cu:=λh=>@all_at' _ Amc s.data.toList j ab h
  have d9:=λh=>Bi (p:=λ_ c=>Amc c) hI ab h
  rw[←hb]at cu d9;clear h;have hx:Amc (Bu s j)=(decide (32<(Bu s j).toNat)&&decide ((Bu s j).toNat≤126)&&decide ((Bu s j).toNat≠35)):=rfl;by_cases h1:32<(Bu s j).toNat
  ·by_cases h2:(Bu s j).toNat≤126
   ·by_cases h3:(Bu s j).toNat=35
    ·rw[cu (by rw[hx];simp[h3]),wR]at hw;subst hw;exact gA
    ·refine T ?_;exact A8 [] hI q_ (d9 (by rw[hx];simp[h1,h2,h3])) U
   ·rw[cu (by rw[hx];simp[h2]),wR]at hw;subst hw;exact gA
  ·rw[cu (by rw[hx];simp[h1]),wR]at hw;subst hw;exact gA
 ·have dh:j=s.size:=qB h;subst dh;rw[Abn hI (yG _),uG]at hw;clear h;by_cases h0:s.size=0
  ·have hs:=Aw0 h0;have he:(s==(⟨#[]⟩:ByteArray))=true:=(Lj _ _).2 hs;have hw:r=false:=by rw[hw,h0];rfl
   have dr:(!(s==(⟨#[]⟩:ByteArray)))=false:=by rw[he];rfl
   subst hw;exact gA
  ·have he:(s==(⟨#[]⟩:ByteArray))=false:=by
    cases he:(s==(⟨#[]⟩:ByteArray))
    ·rfl
    ·exact zY (by rw[(Lj _ _).1 he];rfl) h0
   have dr:(!(s==(⟨#[]⟩:ByteArray)))=true:=by rw[he];rfl
   by_cases h4:s.size≤40
   ·have hw:r=true:=by rw[hw];simp[h4];omega
    subst hw;refine T ?_;refine At E (.cons .tmp .nil) (zH Ab ?_) E;exact(zO q_).symm
   ·have hw:r=false:=by rw[hw];simp[h4]
    subst hw;refine T ?_;refine At E (.cons .tmp .nil) (zH Ab ?_) E;exact(zL q_).symm
abbrev strO(row:ByteArray)(f:Nat)(l:List ByteArray):Obs:=[(1,.box [Aa f]),(2,.box [.osl 3]),(3,.row 1 Aw l),(4,.box [Aw row])]
abbrev strN(row:ByteArray)(f:Nat)(l:List ByteArray):Obs:=[(1,.box [Aa f]),(2,.box [.osl 5]),(3,.non),(5,.row 1 Aw l),(4,.box [Aw row])]
def A0i(row:ByteArray)(f i:Nat)(l:List ByteArray)(vm:f≤i)(hi:i≤row.size)(hs:row.size≤1000000)(hl:l.length≤1000000):Sq 120 [Aa i,.ptr 1 0,.ptr 2 0,.ptr 4 0] (strO row f l) (.tup []) (strN row (i+1) (l++I9 ((row.data.toList.take i).drop f))):=cT F120 ntmps120 λF hF=>by
 have bg:row.data.toList.length=row.size:=rfl;have hx:row.extract f i=mkT ((row.data.toList.take i).drop f):=by rw[←Eu,Kf]
 refine T ?_;constructor<;>intro h
 ·have h1:f<i:=qA h;have ag:(row.data.toList.take i).drop f≠[]:=λe=>by
   have:=zH List.length e;rw[yO,yA]at this;simp at this;omega
  rw[I9,zD ag,←hx];refine T ?_;refine⟨⟨by omega,by omega,by omega⟩,?_⟩;refine T ?_;refine Xd (Ag Γ.toTy 14 E E E E E (.row E) (.lit (e:=Aw) (l:=[row.extract f i]) E E) y_ (by simp;omega) (by simp;omega)) ?_;refine T ?_;exact A6 E .nil [(5,14)] (strN row (i+1) (l++[row.extract f i])) (λ_ h=>h) E E U
 ·have h1:¬f<i:=qB h;have he:(row.data.toList.take i).drop f=[]:=uQ (by rw[yA];omega);rw[he,I9,zG rfl,xC];refine Vq 3 1000 E E j_ ?_;refine T ?_;exact A6 E .nil [(5,1000)] (strN row (i+1) l) (λ_ h=>h) E E U
def Aq2(row:ByteArray)(hs:row.size≤100000):Sp 61 [Aw row] (.sl 1 Aw (E1 [] row.data.toList)):=cT F61 ntmps61 λF hF=>by
 have bg:row.data.toList.length=row.size:=rfl;refine T ?_;refine Q9 3 0 1000 1 Aw E E E E ?_;refine T ?_;refine C3 (λx:List ByteArray×Nat×Nat=>E1 [] row.data.toList=x.1++E1 ((row.data.toList.take x.2.2).drop x.2.1) (row.data.toList.drop x.2.2)∧x.2.1≤x.2.2∧x.2.2≤row.size∧x.1.length≤x.2.2)
  (λx=>[(1,.ptr 1 0),(3,.ptr 3 0),(5,.clo (.func 120) [] [.ptr 4 0,.ptr 3 0,.ptr 1 0]),(6,Aa x.2.2)]) (λx=>[(1,.box [Aw row]),(3,.box [.osl 1000]),(4,.box [Aa x.2.1]),(1000,.row 1 Aw x.1)]) (λx=>row.size-x.2.2) ([],0,0) [] ⟨rfl,by simp,by simp,by simp⟩ U ?_
 rintro ⟨l,f,i⟩ ⟨hI,vm,his,hlen⟩;dsimp only at hI vm his hlen⊢;have q:=λi vm hi=>A0i row f i l vm hi q_ q_
 refine T ?_;constructor<;>intro h
 ·have ab:i<row.size:=qA h;have jx:i<row.data.toList.length:=ab;have hb:Bu row i=row.data.toList[i]:=Ad7 jx;have fy:row.data.toList.drop i=row.data.toList[i]::row.data.toList.drop (i+1):=yP jx;have gh:(row.data.toList.take (i+1)).drop f=(row.data.toList.take i).drop f++[row.data.toList[i]]:=by
   rw[yD jx,List.drop_append_of_le_length (by rw[yA];omega)]
  rw[←hb]at fy gh;have q:=q i vm q_;clear h;rw[fy,E1]at hI;have hlf:(l++I9 ((row.data.toList.take i).drop f)).length≤i+1:=by
   rw[I9];split<;>simp<;>omega
  have e0:(row.data.toList.take (i+1)).drop (i+1)=[]:=uQ (by rw[yA];omega);have h35:Bu row i=35↔(Bu row i).toNat=35:=⟨λe=>by rw[e];rfl,λe=>UInt8.toNat_inj.1 e⟩
  have y0:Bu row i=32↔(Bu row i).toNat=32:=⟨λe=>by rw[e];rfl,λe=>UInt8.toNat_inj.1 e⟩
  have h9:Bu row i=9↔(Bu row i).toNat=9:=⟨λe=>by rw[e];rfl,λe=>UInt8.toNat_inj.1 e⟩
  by_cases c1:(Bu row i).toNat=35
  ·rw[zG (h35.2 c1)]at hI;rw[hI];refine T ?_;refine X (Ap [(1,4),(2,3),(3,1000),(4,1),(5,900)] (Aq E E F120) q E W E V) ?_;refine Aj 900 E ?_;exact gA
  ·rw[zD (λe=>c1 (h35.1 e))]at hI;by_cases c2:(Bu row i).toNat=32∨(Bu row i).toNat=9
   ·rw[zG (c2.elim (λe=>.inl (y0.2 e)) (λe=>.inr (h9.2 e)))]at hI;by_cases c3:(Bu row i).toNat=32
    ·refine T ?_;refine X (Ap [(1,4),(2,3),(3,1000),(4,1),(5,900)] (Aq E E F120) q E W E V) ?_;refine Be (l++I9 ((row.data.toList.take i).drop f),i+1,i+1) [(1000,900)] ⟨?_,yG _,ab,hlf⟩ (by dsimp only;omega) U;dsimp only;rw[hI,xJ,e0]
    ·refine T ?_;refine X (Ap [(1,4),(2,3),(3,1000),(4,1),(5,900)] (Aq E E F120) q E W E V) ?_;refine Be (l++I9 ((row.data.toList.take i).drop f),i+1,i+1) [(1000,900)] ⟨?_,yG _,ab,hlf⟩ (by dsimp only;omega) U;dsimp only;rw[hI,xJ,e0]
   ·simp only[uC]at c2;rw[zD (by rw[y0,h9];omega)]at hI;refine T ?_;refine Be (l,f,i+1) [] ⟨?_,by dsimp only;omega,ab,by dsimp only;omega⟩ (by dsimp only;omega) U;dsimp only;rw[hI,gh]
 ·have rp:i=row.size:=qB h;subst rp;have q:=q row.size vm q_;have ga:row.data.toList.drop row.size=[]:=by rw[←bg,uF]
  rw[ga,E1]at hI;rw[hI];clear h;refine T ?_;refine X (Ap [(1,4),(2,3),(3,1000),(4,1),(5,900)] (Aq E E F120) q E W E V) ?_;refine Aj 900 E ?_;exact gA
def Oh:∀(l cur:List UInt8),(E1 cur l).length≤l.length+1
 |[],cur=>by rw[E1,I9];split<;>simp
 |c::l,cur=>by
  rw[E1];have h1:=Oh l [];have h2:=Oh l (cur++[c]);have h3:(I9 cur).length≤1:=by rw[I9];split<;>simp
  split
  ·simp;omega
  ·split
   ·simp;omega
   ·simp;omega
def Sa:∀(l cur:List UInt8),∀s∈E1 cur l,s.size≤cur.length+l.length
 |[],cur,s,hs=>by
  rw[E1,I9]at hs;split at hs
  ·cases hs
  ·simp at hs;rw[hs,Ip];simp
 |c::l,cur,s,hs=>by
  have h3:∀s∈I9 cur,s.size≤cur.length:=λs hs=>by
   rw[I9]at hs;split at hs
   ·cases hs
   ·simp at hs;rw[hs,Ip];exact yG _
  rw[E1]at hs;split at hs
  ·have:=h3 s hs;omega
  ·split at hs
   ·rcases yI.1 hs with hs|hs
    ·have:=h3 s hs;omega
    ·have:=Sa l [] s hs;simp at this⊢;omega
   ·have:=Sa l (cur++[c]) s hs;simp at this⊢;omega
def As3(row:ByteArray)(hs:row.size≤100000):Sp 25 [Aw row] (.tup [.sl 1 Aw (wordsT row).1,Aa (wordsT row).2]):=cT F25 ntmps25 λF hF=>by
 have q:=Aq2 row hs;have aa:=wordsT.eq_1 row;have hlen:=Oh row.data.toList [];have bg:=Sa row.data.toList [];have rq:row.data.toList.length=row.size:=rfl;generalize wordsT row=res at *;generalize E1 [] row.data.toList=l at *;refine gD q F61 ?_;refine A9 l.length (λj=>En (λ_ s=>wordB s) l j) (λj=>[(4,.sl 1 Aw l),(9,.sl 1 Aw l),(10,Aa l.length),(11,Aa j)]) (λ_=>[]) [] (Bl _ _) U ?_;intro j hj hI;refine T ?_;constructor<;>intro h
 ·have ab:j<l.length:=qA h;have aq:(j:Int).toNat<l.length:=ab;have cu:=λh=>@all_at' _ wordB l j ab h
  have d9:=λh=>Bi (p:=λ_ s=>wordB s) hI ab h
  have ru:=bg l[j] (zI ab);clear h;refine T ?_;refine C (Ayg (l[(j:Int).toNat]'aq) (by rw[show l[(j:Int).toNat]'aq=l[j] from E];simp at ru;omega)) F62 ?_;constructor<;>intro h
  ·have hf:wordB l[j]=false:=by simpa using h
   rw[zD (by rw[cu hf];simp)]at aa;subst aa;refine T ?_;refine Au 2 1 Aw E ?_;exact gA
  ·have ht:wordB l[j]=true:=by simpa using h
   refine T ?_;exact A8 [] hI q_ (d9 ht) U
 ·have dh:j=l.length:=qB h;subst dh;rw[zG (Abn hI (yG _))]at aa;subst aa;exact gA
def W4(i:Nat)(c:UInt8):Bool:=A2r c||(Kv c&&decide (i≠0))
def A13(s:ByteArray):Bc s=(Ik W4 s.data.toList&&(decide (0<s.size)&&decide (s.size≤12))):=by
 have bg:s.data.toList.length=s.size:=rfl;rw[Bc,←bg];cases hl:s.data.toList with
 |nil=>rfl
 |cons c l=>
  have e:Ik W4 (c::l)=(A2r c&&l.all λc=>A2r c||Kv c):=by
   rw[wN,allB_iff,zE,yZ];constructor
   ·intro h;refine⟨by have:=h 0 y_;simpa [W4] using this,λx hx=>?_⟩;obtain ⟨i,hi,rfl⟩:=yY.1 hx;have:=h (i+1) (by simp;omega);simpa [W4] using this
   ·rintro ⟨h1,h2⟩ i hi;cases i with
    |zero=>simp[W4,h1]
    |succ i=>
     have:=h2 (l[i]'(by simp at hi;omega)) (zI _);simpa [W4] using this
  rw[e,A6w];simp
def Kc(s:ByteArray)(hs:s.size≤1000000):Sp 121 [Aw s] (Ab (Bc s)):=cT F121 ntmps121 λF hF=>by
 have bg:s.data.toList.length=s.size:=rfl;have hw:=A13 s;obtain ⟨r,hr⟩:∃r,Bc s=r:=⟨_,rfl⟩
 rw[hr]at hw⊢;refine T ?_;refine A9 s.size (λj=>En W4 s.data.toList j) (λj=>[(0,Aw s),(7,Aa s.size),(8,Aa j)]) (λ_=>[]) [] (Bl _ _) U ?_;intro j hj hI;refine T ?_;constructor<;>intro h
 ·have ab:j<s.data.toList.length:=qA h;have hb:Bu s j=s.data.toList[j]:=Ad7 ab;have cu:=λh=>C8 (p:=W4) ab h
  have d9:=λh=>Bi (p:=W4) hI ab h
  rw[←hb]at cu d9;clear h;have hx:W4 j (Bu s j)=((decide (97≤(Bu s j).toNat)&&decide ((Bu s j).toNat≤122))||((decide (48≤(Bu s j).toNat)&&decide ((Bu s j).toNat≤57))&&decide (j≠0))):=rfl;rcases (by omega:(Bu s j).toNat<48∨(48≤(Bu s j).toNat∧(Bu s j).toNat≤57)∨(57<(Bu s j).toNat∧(Bu s j).toNat<97)∨(97≤(Bu s j).toNat∧(Bu s j).toNat≤122)∨122<(Bu s j).toNat) with h|h|h|h|h
  ·rw[cu (by rw[hx,zL (by omega:¬97≤(Bu s j).toNat),zL (by omega:¬48≤(Bu s j).toNat)];rfl),yE]at hw;subst hw;exact gA
  ·by_cases h0:j=0
   ·subst h0;rw[cu (by rw[hx,zL (by omega:¬97≤(Bu s 0).toNat)];simp),yE]at hw;subst hw;exact gA
   ·refine T ?_;exact A8 [] hI q_ (d9 (by rw[hx];simp[h,h0])) U
  ·rw[cu (by rw[hx,zL (by omega:¬97≤(Bu s j).toNat),zL (by omega:¬(Bu s j).toNat≤57)];simp),yE]at hw;subst hw;exact gA
  ·refine T ?_;exact A8 [] hI q_ (d9 (by rw[hx];simp[h])) U
  ·rw[cu (by rw[hx,zL (by omega:¬(Bu s j).toNat≤122),zL (by omega:¬(Bu s j).toNat≤57)];simp),yE]at hw;subst hw;exact gA
 ·have dh:j=s.size:=qB h;subst dh;rw[E5 hI (yG _),yF]at hw;clear h;subst hw;by_cases h0:0<s.size
  ·refine T ?_;refine⟨λ_=>?_,λh=>zY (zQ h) q_⟩;refine T ?_;refine At E (.cons .tmp .nil) (zH Ab ?_) E;rw[zO h0,yF];exact decide_eq_decide.2 q_
  ·rw[zL h0,yE];exact gA
def Aiv(c:UInt8):Sp 170 [Al c] (A2 (digI c)):=cT F170 ntmps170 λF hF=>by
 have aa:=digI.eq_1 c;generalize digI c=res at *;have gi:=c.toNat_lt;rcases (by omega:c.toNat<48∨(48≤c.toNat∧c.toNat≤57)∨(57<c.toNat∧c.toNat<97)∨(97≤c.toNat∧c.toNat≤102)∨102<c.toNat) with h|h|h|h|h
 ·rw[zD q_,zD q_]at aa;subst aa;exact gA
 ·rw[zG q_]at aa;subst aa;refine T ?_;refine At E (.cons .tmp .nil) ?_ E;refine zH (λz=>SV.val (.int .u64 z)) (?_:_=IntKind.u64.wrap (IntKind.u8.wrap ((c.toNat:Int)-48)));rw[IntKind.wrap_u8,IntKind.wrap_u64];omega
 ·rw[zD q_,zD q_]at aa;subst aa;exact gA
 ·rw[zD q_,zG q_]at aa;subst aa;refine T ?_;refine At E (.cons .tmp .nil) ?_ E;refine zH (λz=>SV.val (.int .u64 z)) (?_:_=IntKind.u64.wrap (IntKind.u64.wrap (IntKind.u8.wrap ((c.toNat:Int)-97))+10));rw[IntKind.wrap_u8,IntKind.wrap_u64,IntKind.wrap_u64];omega
 ·rw[zD q_,zD q_]at aa;subst aa;exact gA
def X0{s:ByteArray}:∀{j:Nat},(∀i,i<j→Zk s i=true)→0≤Wj s j∧Wj s j<256^j
 |0,_=>by simp[Wj]
 |j+1,h=>by
  have ih:=X0 (s:=s) (j:=j) (λi hi=>h i q_);have hj:=h j q_;simp only[Zk,zE,zJ]at hj;have d1:=Ad4 (Bu s (3*j));have d2:=Ad4 (Bu s (3*j+1));rw[Wj,Int.pow_succ];omega
def A2i(m a b:Nat)(hm:m<72057594037927936)(ha:a<16)(hb:b<16):bits .or .u64 (bits .or .u64 (IntKind.u64.wrap ((m:Int)*2^min (Int.toNat 8) IntKind.u64.bits)) (IntKind.u64.wrap ((a:Int)*2^min (Int.toNat 4) IntKind.u64.bits))) (b:Int)=((m*256+a*16+b:Nat):Int):=by
 have e1:IntKind.u64.wrap ((m:Int)*2^min (Int.toNat 8) IntKind.u64.bits)=((m*256:Nat):Int):=by
  show IntKind.u64.wrap ((m:Int)*256)=_;rw[IntKind.wrap_u64];omega
 have e2:IntKind.u64.wrap ((a:Int)*2^min (Int.toNat 4) IntKind.u64.bits)=((a*16:Nat):Int):=by
  show IntKind.u64.wrap ((a:Int)*16)=_;rw[IntKind.wrap_u64];omega
 have o1:=xQ (i:=8) (b:=a*16) q_ m;have o2:=xQ (i:=4) (b:=b) q_ (m*16+a);have f1:m*256|||a*16=m*256+a*16:=by rw[vB m 256];exact o1.symm
 have f2:(m*256+a*16)|||b=m*256+a*16+b:=by
  have e:m*256+a*16=2^4*(m*16+a):=by omega
  rw[e];exact o2.symm
 rw[e1,e2,bits_or_u64_nat _ _ q_ q_,f1,bits_or_u64_nat _ _ q_ q_,f2]
def macR_no{s:ByteArray}{j:Nat}(hj:j<6)(h:Zk s j=false):macR s=(0,false):=by
 rw[macR,zD];rintro ⟨_,h2⟩;rw[yZ]at h2;rw[h2 j (xA.2 hj)]at h;cases h
def A2j(s:ByteArray)(hs:s.size≤1000000):Sp 123 [Aw s] (.tup [A2 (macR s).1,Ab (macR s).2]):=cT F123 ntmps123 λF hF=>by
 have cu:=@macR_no s;have ry:=macR.eq_1 s;generalize macR s=res at *;by_cases h17:s.size=17;rotate_left
 ·rw[zD (λe=>h17 e.1)]at ry;subst ry;exact gA
 refine T ?_;refine A9 6 (λj=>∀i,i<j→Zk s i=true) (λj=>[(0,Aw s),(4,A2 (Wj s j)),(11,Aa j)]) (λ_=>[]) [] (λi hi=>by omega) U ?_;intro j hj hI;have hmv:=X0 hI;refine T ?_;constructor<;>intro h
 ·have ab:j<6:=qA h;have cu:=cu ab;clear h;have i0:(3*((j:Nat):Int)).toNat=3*j:=by omega
  have i1:(3*((j:Nat):Int)+1).toNat=3*j+1:=by omega
  have i2:(3*((j:Nat):Int)+2).toNat=3*j+2:=by omega
  have hx:Zk s j=(decide (digI (Bu s (3*j))≤15)&&decide (digI (Bu s (3*j+1))≤15)&&(decide (5≤j)||decide ((Bu s (3*j+2)).toNat=58))):=rfl;have hv:Wj s (j+1)=Wj s j*256+digI (Bu s (3*j))*16+digI (Bu s (3*j+1)):=rfl;rw[←i1,←i2,←i0]at hx;rw[←i1,←i0]at hv;have d1:=Ad4 (Bu s (3*((j:Nat):Int)).toNat);have d2:=Ad4 (Bu s (3*((j:Nat):Int)+1).toNat);have q1:=Aiv (Bu s (3*((j:Nat):Int)).toNat);have q2:=Aiv (Bu s (3*((j:Nat):Int)+1).toNat);by_cases c1:digI (Bu s (3*((j:Nat):Int)).toNat)≤15
  ·have f1:decide (digI (Bu s (3*((j:Nat):Int)).toNat)>15)=false:=zL q_;by_cases c2:digI (Bu s (3*((j:Nat):Int)+1).toNat)≤15
   ·have f2:decide (digI (Bu s (3*((j:Nat):Int)+1).toNat)>15)=false:=zL q_;have hp:(256:Int)^j≤256^5:=by
     have:=wY (n:=256) j_ (show j≤5 by omega)
     exact_mod_cast this
    have cn:=A2i (Wj s j).toNat (digI (Bu s (3*((j:Nat):Int)).toNat)).toNat (digI (Bu s (3*((j:Nat):Int)+1).toNat)).toNat q_ q_ q_;have hst2:((((Wj s j).toNat*256+(digI (Bu s (3*((j:Nat):Int)).toNat)).toNat*16+(digI (Bu s (3*((j:Nat):Int)+1).toNat)).toNat:Nat)):Int)=Wj s (j+1):=by rw[hv];omega
    rw[hst2,xD hmv.1,xD d1.1,xD d2.1]at cn;by_cases c3:j<5
    ·by_cases c4:(Bu s (3*((j:Nat):Int)+2).toNat).toNat=58
     ·have f4:(((Bu s (3*((j:Nat):Int)+2).toNat).toNat:Int) != 58)=false:=by rw[c4];rfl
      have pw:Zk s j=true:=by rw[hx,c4];simp[c1,c2]
      refine gB q1 F170 q2 F170 ?_;exact A8 [] hI ab (λ i hi=>by
       by_cases e:i=j
       ·rw[e];exact pw
       ·exact hI i q_) ⟨⟨E,E,zH A2 cn.symm,E,E,E,Y⟩,Y,E,E⟩
     ·have f4:(((Bu s (3*((j:Nat):Int)+2).toNat).toNat:Int) != 58)=true:=by
       rw[xG];omega
      have pw:Zk s j=false:=by rw[hx,zL c4,zL (by omega:¬5≤j)];simp
      rw[cu pw];refine gB q1 F170 q2 F170 ?_;exact D
    ·have pw:Zk s j=true:=by rw[hx];simp[c1,c2];omega
     refine gB q1 F170 q2 F170 ?_;exact A8 [] hI ab (λ i hi=>by
      by_cases e:i=j
      ·rw[e];exact pw
      ·exact hI i q_) ⟨⟨E,E,zH A2 cn.symm,E,E,E,Y⟩,Y,E,E⟩
   ·have f2:decide (digI (Bu s (3*((j:Nat):Int)+1).toNat)>15)=true:=zO q_;rw[cu (by rw[hx,zL c2];simp)];refine gB q1 F170 q2 F170 ?_;exact D
  ·have f1:decide (digI (Bu s (3*((j:Nat):Int)).toNat)>15)=true:=zO q_;rw[cu (by rw[hx,zL c1];rfl)];refine gB q1 F170 q2 F170 ?_;exact D
 ·have dh:j=6:=qB h;subst dh;clear h;rw[zG ⟨h17,by rw[yZ];intro i hi;exact hI i (xA.1 hi)⟩]at ry;subst ry;exact gA
def Ao0(m:Nat)(h:m<18446744073709551616):(((bits .and .u64 (m:Int) 281474976710655).fdiv (2^min (Int.toNat 32) IntKind.u64.bits)) != 512)=!(Mk m):=by
 have e:=bits_and_u64_nat m 281474976710655 h j_;have e2:m&&&281474976710655=m%281474976710656:=uE m 48;have e3:bits .and .u64 (m:Int) 281474976710655=((m%281474976710656:Nat):Int):=by rw[←e2];exact e
 have e4:((m%281474976710656:Nat):Int).fdiv (2^min (Int.toNat 32) IntKind.u64.bits)=((m%281474976710656/4294967296:Nat):Int):=by
  show ((m%281474976710656:Nat):Int).fdiv 4294967296=_;rw[xW _ j_,Int.natCast_ediv];rfl
 rw[e3,e4,Mk];by_cases hh:m%281474976710656/4294967296=512
 ·rw[hh,zO q_];rfl
 ·rw[zL q_];simp;omega
def A23(m:Int):Int:=if Mk m=true then IntKind.u32.wrap (bits .and .u64 m 281474976710655) else 0
def A5v(m:Nat)(h:m<18446744073709551616):Sp 171 [A2 m] (.tup [Bb (A23 m),Ab (Mk m)]):=cT F171 ntmps171 λF hF=>by
 have hb:=Ao0 m h;rw[A23];cases hh:Mk m with
 |true=>
  have hb:=hb.trans (by rw[hh];rfl:_=false);rw[zG rfl];exact gA
 |false=>
  have hb:=hb.trans (by rw[hh];rfl:_=true);rw[zD y_];exact gA
def Aya(m:Nat)(h:m<18446744073709551616):Sp 172 [A2 m] (Ab (Ex m)):=cT F172 ntmps172 λF hF=>by
 have hb:=Ajd m h;refine T ?_;exact At E (.cons .tmp .nil) (zH Ab hb.symm) E
def Aei(m:Nat)(h:m<18446744073709551616):Sp 124 [A2 m] (Ab (statB m)):=cT F124 ntmps124 λF hF=>by
 have q1:=A5v m h;have q2:=Aya m h;have hw:=statB.eq_1 (m:Int);rw[zU]at hw;generalize statB (m:Int)=r at *;generalize A23 (m:Int)=hv at *;by_cases c1:(m:Int)≤281474976710655
 ·rw[zO c1,yF]at hw;have f1:decide ((m:Int)≤281474976710655)=true:=zO c1;cases hh:Mk m with
  |true=>
   rw[hh]at q1 hw;simp at hw;subst hw;refine gD q1 F171 ?_;exact D
  |false=>
   rw[hh]at q1 hw;simp at hw;subst hw;refine gB q1 F171 q2 F172 ?_;exact D
 ·rw[zL c1]at hw;have f1:decide ((m:Int)≤281474976710655)=false:=zL c1;simp at hw;subst hw;refine gD q1 F171 ?_;exact D
end Go.Sy.YticmobkdaneelaaGreatDoor
