/-
  M12 M13 N8 N9 N10 M14 I1 I2 I3 I4 N11 V1 I5 V2 V3 V4 V5 X1 D2 M1 M2 M15 A1 A3 A4 A5 R3 R5: parts of a proof, joined by program.
-/
import Derived.Test.YtiijbikecbjdaaaGreatDoorXU5
import Derived.Test.YtiijbikecbjdaaaGreatDoorXU1
import Derived.RangeFuncNested
import Derived.RangeFuncCalls
import Derived.RangeFuncLeaves
import Derived.Shelf.Abstract
import Derived.Shelf.RegionOpen
import Derived.WalkKit
import Derived.OwnWalkIn
import Derived.TacticsInMore
import Derived.LoopNIn
import Derived.LoopIn
import Derived.Test.YtiijbikecbjdaaaGreatDoorProg
import Derived.Test.YtiijbikecbjdaaaGreatDoorXU4
import Derived.Scope
set_option linter.all false
set_option linter.unusedVariables false
set_option linter.unusedSimpArgs false
set_option linter.deprecated false
namespace Go.Sy.YtiijbikecbjdaaaGreatDoor
open Go.Proofs
attribute [local irreducible] Go.Sy.G Go.Sy.DR
set_option maxRecDepth 100000
set_option maxHeartbeats 4000000
theorem F108:Fun Tryz.prog 108 Tryz.f108 (Ae3 Tryz.f108):=⟨Tryz.func108,rfl,by kernel_rfl⟩
theorem F177:Fun Tryz.prog 177 Tryz.f177 (Ae3 Tryz.f177):=⟨Tryz.func177,rfl,by kernel_rfl⟩
theorem Acn (s p:ByteArray):Sp 220 [Ao s,Ao p] (Ao (mkT (Lib.trimPrefix s.data.toList p.data.toList))) :=
 Spec.of_calls λ κ w vs hi hr _=>by
  simp only[RdL]at hr
  obtain ⟨v,r,rfl,h3,u,r',rfl,h4,rfl⟩:=hr
  have h3':v=.string s:=by simpa only [Ao,Rd] using h3
  have h4':u=.string p:=by simpa only [Ao,Rd] using h4
  subst h3' h4'
  exact(Tryz.strings_TrimPrefix s p w).mono λ e w' ⟨he,hw⟩=>⟨he,hw ▸ RowKit.Below.refl _ _⟩
theorem Apm (s:ByteArray) (c:UInt8) (m:Int) (hm:Lib.indexByte s.data.toList c=m):Sp 177 [Ao s,Ao ⟨#[c]⟩] (Aa m) :=
 Spec.of_calls λ κ w vs hi hr _=>by
  subst hm
  simp only[RdL]at hr
  obtain ⟨v,r,rfl,h3,u,r',rfl,h4,rfl⟩:=hr
  have h3':v=.string s:=by simpa only [Ao,Rd] using h3
  have h4':u=.string ⟨#[c]⟩:=by simpa only [Ao,Rd] using h4
  subst h3' h4'
  exact(Tryz.stringslite_Index_one s c w).mono λ e w' ⟨he,hw⟩=>⟨he,hw ▸ RowKit.Below.refl _ _⟩
def cutT (c:UInt8) (s:ByteArray):ByteArray × ByteArray × Bool :=
 if 0≤Lib.indexByte s.data.toList c then (s.extract 0 (Ke c s.data.toList),s.extract (Ke c s.data.toList+1) s.size,true) else (s,⟨#[]⟩,false)
theorem Qh (l:List UInt8) (c:UInt8):Lib.indexByte l c<l.length:=by
 induction l with
 | nil=>simp[Lib.indexByte]
 | cons b l ih =>
  unfold Lib.indexByte
  rw[yN]
  split
  ·omega
  split
  ·omega
  ·omega
theorem Axv (s:ByteArray) (c:UInt8) (hs:s.size≤1000000000):Sp 108 [Ao s,Ao ⟨#[c]⟩] (.tup [Ao (cutT c s).1,Ao (cutT c s).2.1,Ab (cutT c s).2.2]):=cT F108 Tryz.ntmps108 λ F hF=>by
 have hres:=cutT.eq_1 c s
 generalize cutT c s=res at *
 have hlt:=Qh s.data.toList c
 have hsz:s.data.toList.length=s.size:=rfl
 have hid:Ke c s.data.toList=(Lib.indexByte s.data.toList c).toNat:=rfl
 obtain ⟨m,hmm⟩:∃ m,Lib.indexByte s.data.toList c=m:=⟨_,rfl⟩
 have q:=Apm s c m hmm
 rw[hmm]at hres hlt hid
 refine fW ?_
 refine c0 q F177 ?_
 refine fU ?_
 constructor<;>intro h
 ·have h0:0≤m:=zK h
  rw[zE h0,hid]at hres
  have e1:(m+1).toNat=m.toNat+1:=by omega
  have hc1:(⟨#[c]⟩:ByteArray).size=1:=rfl
  subst hres
  refine fU ?_
  refine⟨⟨by omega,by omega,by omega⟩,?_⟩
  refine fW ?_
  refine⟨by show I64 (m+1);unfold I64;omega,?_⟩
  refine fW ?_
  refine⟨⟨by omega,by omega,by omega⟩,?_⟩
  refine fW ?_
  refine⟨z_,?_⟩
  refine fW ?_
  refine Aq E (.cons .tmp (.cons .tmp (.cons .tmp .nil))) ?_ E
  show SV.tup [Ao _,Ao (s.extract (m.toNat+1) s.size),_]=SV.tup [Ao _,Ao (s.extract (m+1).toNat _),_]
  rw[e1]
  rfl
 ·have h0:¬ 0≤m:=zT h
  rw[zD h0]at hres
  subst hres
  refine fU ?_
  exact dN
theorem Wu (s:ByteArray) (c:UInt8) (hs:s.size≤1000000000):Sp 43 [Ao s,Ao ⟨#[c]⟩] (.tup [Ao (cutT c s).1,Ao (cutT c s).2.1,Ab (cutT c s).2.2]):=cT F43 Tryz.ntmps43 λ F hF=>by
 have q:=Axv s c hs
 generalize cutT c s=res at *
 refine fW ?_
 refine c0 q F108 ?_
 refine fU ?_
 exact dN
def Uq (l:List UInt8):Int:=l.foldl (λ n c=>10 * n+((c.toNat:Int)-48)) 0
def Als (s:ByteArray):Bool:=s.data.toList.head? == some 45
def Kw (s:ByteArray):List UInt8:=if Als s=true then s.data.toList.drop 1 else s.data.toList
def numV (s:ByteArray):Int:=if Als s=true then 0-Uq (Kw s) else Uq (Kw s)
def numR (s:ByteArray) (lo hi:Int):Int × Bool :=
 if (Kw s).length<1∨10<(Kw s).length then (0,false) else if (Kw s).all Jp=false then (0,false)
 else if numV s<lo∨hi<numV s then (0,false) else if (Alm (numV s) == s)=true then (numV s,true) else (0,false)
theorem Aho (l:List UInt8) (c:UInt8):Uq (l++[c])=10 * Uq l+((c.toNat:Int)-48):=by
 rw[Uq,xF];rfl
theorem Ar5:∀ (k:Nat) (l:List UInt8),l.length=k→(∀ c∈l,Jp c=true)→0≤Uq l∧Uq l<10 ^ k
 | 0,l,hl,_=>by
  rw[vN.1 hl]
  exact⟨wE _,by decide⟩
 | k+1,l,hl,h=>by
  have hne:l≠[]:=λ e=>by rw[e]at hl;cases hl
  have e:=uE hne
  have h1:=Ar5 k l.dropLast (by rw[uN];omega) λ c hc=>h c (List.dropLast_subset l hc)
  have h2:=h _ (List.getLast_mem hne)
  simp only[Jp,zH,zQ]at h2
  rw[← e,Aho,Int.pow_succ]
  omega
theorem A01 {l:List UInt8} (hl:l.length≤10) (h:∀ c∈l,Jp c=true):0≤Uq l∧Uq l<10000000000:=by
 have h1:=Ar5 _ l rfl h
 refine⟨h1.1,Int.lt_of_lt_of_le h1.2 ?_⟩
 have h2:(10:Nat) ^ l.length≤10 ^ 10:=wS j_ hl
 have h3:((10:Nat) ^ l.length:Int)≤((10 ^ 10:Nat):Int):=by exact_mod_cast h2
 simpa using h3
theorem Avu (s:ByteArray):Lib.trimPrefix s.data.toList [45]=Kw s:=by
 unfold Lib.trimPrefix Kw Als
 cases s.data.toList with
 | nil=>simp[Lib.hasPrefix]
 | cons c l =>
  by_cases hc:c=45
  ·subst hc;simp[Lib.hasPrefix]
  ·simp[Lib.hasPrefix,hc,Ne.symm hc]
theorem Acb {s:ByteArray} {i:Nat} (h:i<s.data.toList.length):Bn s i=s.data.toList[i]:=by
 rw[Bn,xR,zO h];rfl
theorem Avn {α:Type} {p:α→Bool} {l:List α} {j:Nat} (hI:Hc (λ _ x=>p x) l j):∀ c∈l.take j,p c=true:=by
 intro c hc
 obtain ⟨i,hi,rfl⟩:=yY.1 hc
 rw[zX]at hi
 rw[xS]
 exact hI i q_ q_
theorem Zy {α:Type} {p:α→Bool} {l:List α} {j:Nat} (hI:Hc (λ _ x=>p x) l j) (hj:l.length≤j):l.all p=true:=by
 rw[yT]
 intro x hx
 obtain ⟨i,hi,rfl⟩:=yY.1 hx
 exact hI i hi q_
theorem all_at' {α:Type} {p:α→Bool} {l:List α} {j:Nat} (hj:j<l.length) (h:p l[j]=false):l.all p=false:=by
 cases ha:l.all p
 ·rfl
 ·rw[yT]at ha
  rw[ha _ (zJ hj)]at h;cases h
theorem u8_sub2 {c:UInt8} (h:Jp c=true):IntKind.i64.wrap (IntKind.u8.wrap ((c.toNat:Int)-48))=(c.toNat:Int)-48:=by
 simp only[Jp,zH,zQ]at h
 rw[IntKind.wrap_u8,IntKind.wrap_i64];omega
theorem neg_digs {s:ByteArray} (h:Als s=true):(Kw s).length+1=s.size∧∀ j,j<(Kw s).length→Bn s (1+j)=(Kw s).getD j 0:=by
 have hsz:s.data.toList.length=s.size:=rfl
 rw[Kw,zE h]
 rw[Als]at h
 cases hd:s.data.toList with
 | nil=>rw[hd]at h;cases h
 | cons c l =>
  rw[hd]at hsz
  refine⟨by simp at hsz ⊢;omega,λ j hj=>?_⟩
  rw[Bn,hd,uY]
  rfl
theorem pos_digs {s:ByteArray} (h:Als s=false):(Kw s).length=s.size∧∀ j,j<(Kw s).length→Bn s j=(Kw s).getD j 0:=by
 rw[Kw,zD (by simp[h])]
 exact⟨E,λ j hj=>rfl⟩
theorem Alo (s:ByteArray) (lo hi:Int):Sp 162 [Ao s,Aa lo,Aa hi] (.tup [Aa (numR s lo hi).1,Ab (numR s lo hi).2]):=cT F162 Tryz.ntmps162 λ F hF=>by
 have hres:=numR.eq_1 s lo hi
 generalize numR s lo hi=res at *
 have q:=Acn s ⟨#[45]⟩
 rw[show (⟨#[45]⟩:ByteArray).data.toList=[45] from rfl,Avu]at q
 have hnv:=numV.eq_1 s
 have hng:=@neg_digs s
 have hps:=@pos_digs s
 generalize numV s=nv at *
 generalize hD:Kw s=D at *
 have hDs:(mkT D).size=D.length:=Hr D
 refine fW ?_
 refine c0 q F220 ?_
 by_cases h1:D.length<1∨10<D.length
 ·rw[zE h1]at hres
  subst hres
  refine fU ?_
  constructor<;>intro h
  ·refine fU ?_
   exact dN
  ·have h2:1≤D.length:=by
    cases D with
    | nil=>exact yB (show (mkT [] == (⟨#[]⟩:ByteArray))=true from rfl) (by rw[show (mkT [] == (⟨#[]⟩:ByteArray))=false from h];simp)
    | cons=>simp
   refine fU ?_
   constructor<;>intro h
   ·refine fU ?_
    exact dN
   ·exact yB (zT h) q_
 rw[zD h1]at hres
 have hne:(mkT D == (⟨#[]⟩:ByteArray))=false:=by
  cases he:(mkT D == (⟨#[]⟩:ByteArray))
  ·rfl
  ·have e:(mkT D).data=(⟨#[]⟩:ByteArray).data:=by simpa using (show ((mkT D).data == (⟨#[]⟩:ByteArray).data)=true from he)
   have:=zG Array.size e
   have e2:(mkT D).data.size=D.length:=hDs
   rw[e2]at this
   have e3:(⟨#[]⟩:ByteArray).data.size=0:=rfl
   omega
 refine fU ?_
 refine⟨λ h=>yB h (by rw[hne];simp),λ _=>?_⟩
 refine fU ?_
 refine⟨λ h=>yB (zK h) q_,λ _=>?_⟩
 refine fU ?_
 refine A5 D.length (λ j=>Hc (λ _ c=>Jp c) D j) (λ j=>[(0,Ao s),(1,Aa lo),(2,Aa hi),(8,Ao (mkT D)),(9,Aa (Uq (D.take j))),(21,Aa D.length),(22,Aa j)]) (λ _=>[]) [] (Bj _ _)
  ⟨⟨rfl,rfl,rfl,rfl,rfl,rfl,rfl,rfl,rfl,rfl,zG (λ z:Nat=>SV.val (.int .i64 z)) hDs.symm,rfl,rfl,rfl,trivial⟩,trivial,rfl,rfl⟩ ?_
 intro j hj hI
 have hv:=A01 (l:=D.take j) (by rw[zX];omega) (Avn hI)
 refine fU ?_
 constructor<;>intro h
 ·have hlt:j<D.length:=qA h
  have hb:Bn (mkT D) ((j:Nat):Int).toNat=D[j]:=by
   have:j<(mkT D).data.toList.length:=by rw[Je];exact hlt
   rw[yL,Acb this];simp[mkT]
  have hno:=λ h=>@all_at' _ Jp D j hlt h
  have hnx:=λ h=>Bh (p:=λ _ c=>Jp c) hI hlt h
  have hsucc:Uq (D.take (j+1))=10 * Uq (D.take j)+((D[j].toNat:Int)-48):=by rw[zW hlt,Aho]
  have hu:=@u8_sub2 D[j]
  generalize D[j]=c at *
  generalize Uq (D.take j)=v at *
  have hc2:=c.toNat_lt
  refine fU ?_
  refine⟨by omega,by omega,?_⟩
  rw[hb]
  refine fW ?_
  constructor<;>intro h2
  ·have h3:c.toNat<48:=by have:=zK h2;omega
   rw[zE (hno (by rw[Jp,zI q_];rfl))]at hres
   subst hres
   refine fU ?_
   exact dN
  have h2:=zT h2
  refine fU ?_
  refine⟨by omega,by omega,?_⟩
  rw[hb]
  refine fW ?_
  constructor<;>intro h3
  ·have h3:57<c.toNat:=by have:=zK h3;omega
   rw[zE (hno (by rw[Jp,zI (by omega:¬ c.toNat≤57),wL]))]at hres
   subst hres
   refine fU ?_
   exact dN
  have h3:=zT h3
  have hdg:Jp c=true:=by rw[Jp,zR q_,zR q_];rfl
  have hu:=hu hdg
  refine fU ?_
  refine⟨by show I64 (10 * v);unfold I64;omega,?_⟩
  refine fW ?_
  refine⟨by omega,by omega,?_⟩
  rw[hb]
  refine fW ?_
  rw[hu]
  refine⟨by show I64 (10 * v+((c.toNat:Int)-48));unfold I64;omega,?_⟩
  refine fW ?_
  refine iL ?_
  refine fW ?_
  exact A4 [] hI q_ (hnx hdg) ⟨⟨E,E,E,E,E,E,E,E,zG Aa hsucc,E,E,E,E,E,Y⟩,Y,E,E⟩
 ·have hje:j=D.length:=qB h
  subst hje
  rw[zD (by rw[Zy hI (yC _)];simp)]at hres
  rw[yG]at hv ⊢
  have fin:∀ nv:Int,nv=(if Als s=true then 0-Uq D else Uq D)→(-10000000000<nv∧nv<10000000000)∧Ajz nv:=λ nv h=>by
   unfold Ajz
   split at h<;>omega
  have fn:=fin nv hnv
  have q2:=Atw nv fn.2
  have hs2:((mkT D).size:Int)=D.length:=by rw[hDs]
  cases hn:Als s
  ·rw[hn,zD y_]at hnv
   have h4:=(hps hn).1
   rw[← hnv]
   refine fU ?_
   refine⟨λ h=>yB (zK h) q_,λ _=>?_⟩
   refine fU ?_
   constructor<;>intro h
   ·rw[zE (.inl (zK h))]at hres
    subst hres
    refine fU ?_
    exact dN
   have h5:=zT h
   refine fU ?_
   constructor<;>intro h
   ·rw[zE (.inr (zK h))]at hres
    subst hres
    refine fU ?_
    exact dN
   have h6:=zT h
   rw[zD q_]at hres
   refine fU ?_
   refine c0 q2 F221 ?_
   cases he:(Alm nv == s)
   ·rw[he,zD y_]at hres
    subst hres
    refine fU ?_
    refine⟨λ _=>?_,λ h=>yB h (by rw[he];simp)⟩
    refine fU ?_
    exact dN
   ·rw[he,zE rfl]at hres
    subst hres
    refine fU ?_
    refine⟨λ h=>yB h (by rw[he];simp),λ _=>?_⟩
    refine fU ?_
    exact dN
  ·rw[hn,zE rfl]at hnv
   have h4:=(hng hn).1
   have hw:IntKind.i64.wrap (0-Uq D)=nv:=by rw[IntKind.wrap_i64];omega
   refine fU ?_
   refine⟨λ _=>?_,λ h=>yB (zT h) q_⟩
   refine fU ?_
   rw[hw]
   constructor<;>intro h
   ·rw[zE (.inl (zK h))]at hres
    subst hres
    refine fU ?_
    exact dN
   have h5:=zT h
   refine fU ?_
   constructor<;>intro h
   ·rw[zE (.inr (zK h))]at hres
    subst hres
    refine fU ?_
    exact dN
   have h6:=zT h
   rw[zD q_]at hres
   refine fU ?_
   refine c0 q2 F221 ?_
   cases he:(Alm nv == s)
   ·rw[he,zD y_]at hres
    subst hres
    refine fU ?_
    refine⟨λ _=>?_,λ h=>yB h (by rw[he];simp)⟩
    refine fU ?_
    exact dN
   ·rw[he,zE rfl]at hres
    subst hres
    refine fU ?_
    refine⟨λ h=>yB h (by rw[he];simp),λ _=>?_⟩
    refine fU ?_
    exact dN
end Go.Sy.YtiijbikecbjdaaaGreatDoor
namespace Go.Sy.YtiijbikecbjdaaaGreatDoor
open Go.Proofs
attribute [local irreducible] Go.Sy.G Go.Sy.DR
set_option maxRecDepth 20000
set_option maxHeartbeats 4000000
theorem Ii {P:Program} (Γ:Ty P) {o:Oper} {s:SS} {t:TypeId} {ti:TI} {et:TypeId} {sz eb lo hi:Nat} {ez:List Value} {x:Operand} {lx hx:Option Operand} {α:Type} {e:α→SV} {l:List α} (r:List α)
  (h:o.op=.slice t x lx hx none) (ht:Γ.get t=some ti) (hk:ti.k=.slice et sz eb ez) (hxe:ev s x=.sl sz e l) (hlo:BoundIs s lx 0 lo) (hhi:BoundIs s hx l.length hi) (h1:lo≤hi) (h2:hi≤l.length) (hr:(l.take hi).drop lo=r) :
  Good P o s ⟨.sl sz e r,[],[]⟩:=by
 subst hr
 exact Dc Γ h ht hk hxe hlo hhi h1 h2
end Go.Sy.YtiijbikecbjdaaaGreatDoor
namespace Go.Sy.YtiijbikecbjdaaaGreatDoor
open Go.Proofs
attribute [local irreducible] Go.Sy.G Go.Sy.DR
set_option maxRecDepth 100000
set_option maxHeartbeats 4000000
theorem Jh:∀ (l:List UInt8) (c:UInt8),-1≤Lib.indexByte l c
 | [],_=>by simp[Lib.indexByte]
 | b::l,c=>by
  unfold Lib.indexByte
  have:=Jh l c
  split
  ·omega
  split
  ·omega
  ·omega
def Eu:List UInt8→List UInt8→List ByteArray
 | cur,[]=>if cur=[] then [] else [mkT cur]
 | cur,c::r=>if c=10 then mkT cur::Eu [] r else Eu (cur++[c]) r
def rowsT (b:List UInt8):List ByteArray × Int :=
 if 20000<b.length then ([],3) else if 400<(Eu [] b).length then ([],3) else (Eu [] b,0)
theorem Aac:∀ (l cur:List UInt8),Lib.indexByte l 10=-1→Eu cur l=if cur++l=[] then [] else [mkT (cur++l)]
 | [],cur,_=>by rw[Eu,xK]
 | c::l,cur,h=>by
  unfold Lib.indexByte at h
  by_cases hc:(c == 10)=true
  ·rw[zE hc]at h;omega
  rw[zD hc]at h
  have hi:Lib.indexByte l 10=-1:=by
   by_cases h1:(Lib.indexByte l 10 == -1)=true
   ·simpa using h1
   ·rw[zD h1]at h
    have:=Jh l 10
    omega
  rw[Eu,zD (by simpa using hc),Aac l _ hi]
  simp
theorem Aab:∀ (l cur:List UInt8),0≤Lib.indexByte l 10→Eu cur l=mkT (cur++l.take (Lib.indexByte l 10).toNat)::Eu [] (l.drop ((Lib.indexByte l 10).toNat+1))
 | [],cur,h=>by simp[Lib.indexByte]at h
 | c::l,cur,h=>by
  unfold Lib.indexByte at h ⊢
  by_cases hc:(c == 10)=true
  ·rw[zE hc,Eu,zE (by simpa using hc)]
   simp
  rw[zD hc]at h ⊢
  by_cases h1:(Lib.indexByte l 10 == -1)=true
  ·rw[zE h1]at h;omega
  rw[zD h1]at h ⊢
  have:=Jh l 10
  have h2:0≤Lib.indexByte l 10:=by
   have h3:Lib.indexByte l 10≠-1:=by simpa using h1
   omega
  have e:(Lib.indexByte l 10+1).toNat=(Lib.indexByte l 10).toNat+1:=by omega
  rw[Eu,zD (by simpa using hc),Aab l _ h2,e]
  simp
theorem Aoq {l:List UInt8} (h:l≠[]):Eu [] l=(cutT 10 (mkT l)).1::Eu [] (cutT 10 (mkT l)).2.1.data.toList∧(cutT 10 (mkT l)).2.1.data.toList.length<l.length:=by
 have hpos:=xO.2 h
 have hlt:=Qh l 10
 have hge:=Jh l 10
 have e0:(mkT l).size=l.length:=Hr l
 rw[cutT,Je]
 split
 ·rename_i h0
  dsimp only
  rw[Aab l [] h0,Eg,Eg,Je,e0,yG]
  refine⟨E,?_⟩
  rw[yM]
  omega
 ·rename_i h0
  dsimp only
  rw[Aac l [] q_,wG,zD h]
  exact⟨E,hpos⟩
theorem At1 (l:List UInt8):(mkT l == ⟨#[]⟩)=decide (l=[]):=by
 cases l with
 | nil=>rfl
 | cons c l =>
  rw[zI y_]
  cases he:(mkT (c::l) == (⟨#[]⟩:ByteArray))
  ·rfl
  ·have e:(mkT (c::l)).data=(⟨#[]⟩:ByteArray).data:=by simpa using (show ((mkT (c::l)).data == (⟨#[]⟩:ByteArray).data)=true from he)
   have:=zG Array.size e
   simp[mkT]at this
theorem Agz (b:List UInt8) (hb:b.length≤1000000):Sp 21 [.sl 1 Ah b] (.tup [.sl 1 Ao (rowsT b).1,Aa (rowsT b).2]):=cT F21 Tryz.ntmps21 λ F hF=>by
 have hres:=rowsT.eq_1 b
 generalize rowsT b=res at *
 refine fW ?_
 constructor<;>intro h
 ·rw[zE (qA h)]at hres
  subst hres
  refine fU ?_
  refine Am 2 1 Ao E ?_
  refine fU ?_
  exact dN
 rw[zD (qB h)]at hres
 refine fU ?_
 refine Af (Cd Γ.toTy (bs:=b) E E E E E E E .sl) E E ?_
 refine B9 4 1000 1 Ao E E ?_
 refine fU ?_
 refine B6 (λ x:List ByteArray × List UInt8=>Eu [] b=x.1++Eu [] x.2∧x.1.length+x.2.length≤b.length) (λ x=>[(4,.osl 1000),(5,Ao (mkT x.2))]) (λ x=>[(1000,.row 1 Ao x.1)]) (λ x=>x.2.length) ([],b) [] ⟨E,by simp⟩
  ⟨⟨rfl,rfl,rfl,rfl,trivial⟩,⟨.inl rfl,rfl,trivial⟩,rfl,rfl⟩ ?_
 rintro ⟨out,rest⟩ ⟨hI,hlen⟩
 dsimp only at hI hlen ⊢
 have hemp:=At1 rest
 refine fU ?_
 by_cases hr:rest=[]
 ·rw[zR hr]at hemp
  refine⟨λ h=>yB h (by rw[hemp];simp),λ _=>?_⟩
  have hro:Eu [] b=out:=by rw[hI,hr];simp[Eu]
  rw[hro]at hres
  refine fU ?_
  constructor<;>intro h
  ·rw[zE (qA h)]at hres
   subst hres
   refine fU ?_
   refine Am 2 1 Ao E ?_
   refine fU ?_
   exact dN
  ·rw[zD (qB h)]at hres
   subst hres
   refine Ag 1000 E ?_
   refine fU ?_
   exact dN
 ·rw[zI hr]at hemp
  refine⟨λ _=>?_,λ h=>yB h (by rw[hemp];simp)⟩
  obtain ⟨hc,hlt⟩:=Aoq hr
  have q:=Wu (mkT rest) 10 (by rw[Hr];omega)
  obtain ⟨⟨row,rs,more⟩,hct⟩:∃ p,cutT 10 (mkT rest)=p:=⟨_,rfl⟩
  rw[hct]at q hc hlt
  dsimp only at q hc hlt
  have hrz:rs.data.toList.length=rs.size:=rfl
  refine fU ?_
  refine c0 q F43 ?_
  refine fU ?_
  refine Af (Ae Γ.toTy 23 E E E E E (.row E) (.lit (e:=Ao) (l:=[row]) E E) y_ (by simp;omega) (by simp;omega)) E E ?_
  refine fU ?_
  refine Av (out++[row],rs.data.toList) [(1000,23)] ⟨by rw[hI,hc];simp,by simp;omega⟩ (by dsimp only;omega) ⟨⟨E,E,zG Ao (Jd rs),E,Y⟩,⟨.inl E,E,Y⟩,E,E⟩
end Go.Sy.YtiijbikecbjdaaaGreatDoor
namespace Go.Sy.YtiijbikecbjdaaaGreatDoor
section
variable {α:Type}
def Aq5 (p:α→Bool):List α→Nat
 | []=>0
 | a::l=>if Aq5 p l=l.length∧p a=true then l.length+1 else Aq5 p l
def insE (lt:α→α→Bool) (x:α) (l:List α):List α:=l.take (l.length-Aq5 (lt x) l)++x::l.drop (l.length-Aq5 (lt x) l)
def Ako (lt:α→α→Bool):List α→List α→List α
 | out,[]=>out
 | out,x::l=>Ako lt (insE lt x out) l
def A1l (lt:α→α→Bool) (l:List α):List α:=Ako lt [] l
end
end Go.Sy.YtiijbikecbjdaaaGreatDoor
namespace Go.Sy.YtiijbikecbjdaaaGreatDoor
section
variable {α:Type}
def bs (lt:α→α→Bool) (s:Nat) (l:List α):List α :=
 if h:s=0∨l.length≤s then A1l lt l else A1l lt (l.take s)++bs lt s (l.drop s)
termination_by l.length
decreasing_by
 simp only[yM];omega
end
end Go.Sy.YtiijbikecbjdaaaGreatDoor
namespace Go.Sy.YtiijbikecbjdaaaGreatDoor
section
variable {α:Type}
end
end Go.Sy.YtiijbikecbjdaaaGreatDoor
namespace Go.Sy.YtiijbikecbjdaaaGreatDoor
section
variable {α β:Type}
structure CmpOK (c:α→α→Int):Prop where
 anti:∀ x y,c x y<0↔0<c y x
 trans:∀ x y z,c x y≤0→c y z≤0→c x z≤0∧(c x z=0→c x y=0∧c y z=0)
theorem CmpOK.self {c:α→α→Int} (h:CmpOK c) (x:α):c x x=0:=by
 have:=h.anti x x;omega
theorem CmpOK.zero {c:α→α→Int} (h:CmpOK c) {x y:α} (hx:c x y=0):c y x=0:=by
 have h1:=h.anti x y;have h2:=h.anti y x;omega
theorem CmpOK.alike {c:α→α→Int} (h:CmpOK c) {x y z:α} (h1:c x y=0) (h2:c y z=0):c x z=0:=by
 have a:=(h.trans x y z q_ q_).1
 have b:=(h.trans z y x (by rw[h.zero h2];omega) (by rw[h.zero h1];omega)).1
 have d:=h.anti x z
 have e:=h.anti z x
 omega
def Z3 (a b:Int):Int:=if a≠0 then a else b
theorem CmpOK.then {c d:α→α→Int} (hc:CmpOK c) (hd:CmpOK d):CmpOK (λ x y=>Z3 (c x y) (d x y)) where
 anti x y:=by
  have h1:=hc.anti x y
  have h2:=hc.anti y x
  have h3:=hd.anti x y
  unfold Z3
  by_cases h:c x y=0
  ·rw[zD q_,zD q_];exact h3
  ·rw[zE h,zE q_];exact h1
 trans x y z:=by
  unfold Z3
  intro h1 h2
  have t:=hc.trans x y z
  by_cases hxy:c x y=0
  ·rw[zD q_]at h1
   by_cases hyz:c y z=0
   ·rw[zD q_]at h2
    have hxz:=hc.alike hxy hyz
    rw[zD q_,zD q_,zD q_]
    exact hd.trans x y z h1 h2
   ·rw[zE hyz]at h2
    have t:=t q_ h2
    have h0:c x z≠0:=λ e=>hyz (t.2 e).2
    rw[zE h0]
    exact⟨t.1,λ e=>yB e h0⟩
  ·rw[zE hxy]at h1
   have hyz:c y z≤0:=by
    by_cases hyz:c y z=0
    ·omega
    ·rw[zE hyz]at h2;exact h2
   have t:=t h1 hyz
   have h0:c x z≠0:=λ e=>hxy (t.2 e).1
   rw[zE h0]
   exact⟨t.1,λ e=>yB e h0⟩
def Hl (c:α→α→Int):List α→List α→Int
 | [],[]=>0
 | [],_::_=>-1
 | _::_,[]=>1
 | x::a,y::b=>Z3 (c x y) (Hl c a b)
theorem Aex {c:α→α→Int} (h:CmpOK c):∀ (a b:List α),Hl c a b<0↔0<Hl c b a
 | [],[]=>by simp[Hl]
 | [],_::_=>by simp[Hl]
 | _::_,[]=>by simp[Hl]
 | x::a,y::b=>by
  have ih:=Aex h a b
  have h1:=h.anti x y
  have h2:=h.anti y x
  rw[Hl,Hl]
  unfold Z3
  by_cases h0:c x y=0
  ·rw[zD q_,zD q_];exact ih
  ·rw[zE h0,zE q_];exact h1
theorem Aa4 {c:α→α→Int} (h:CmpOK c):∀ (a b d:List α),Hl c a b≤0→Hl c b d≤0→Hl c a d≤0∧(Hl c a d=0→Hl c a b=0∧Hl c b d=0)
 | [],[],[],_,_=>by simp[Hl]
 | [],[],_::_,_,_=>by simp[Hl]
 | [],_::_,[],_,h2=>by simp[Hl]at h2
 | [],_::_,_::_,_,_=>by simp[Hl]
 | _::_,[],_,h1,_=>by simp[Hl]at h1
 | _::_,_::_,[],_,h2=>by simp[Hl]at h2
 | x::a,y::b,z::d,h1,h2=>by
  have ih:=Aa4 h a b d
  rw[Hl]at h1 h2 ⊢
  rw[Hl,Hl]
  unfold Z3 at h1 h2 ⊢
  have t:=h.trans x y z
  by_cases hxy:c x y=0
  ·rw[zD q_]at h1
   by_cases hyz:c y z=0
   ·rw[zD q_]at h2
    have hxz:=h.alike hxy hyz
    rw[zD q_,zD q_,zD q_]
    exact ih h1 h2
   ·rw[zE hyz]at h2
    have t:=t q_ h2
    have h0:c x z≠0:=λ e=>hyz (t.2 e).2
    rw[zE h0]
    exact⟨t.1,λ e=>yB e h0⟩
  ·rw[zE hxy]at h1
   have hyz:c y z≤0:=by
    by_cases hyz:c y z=0
    ·omega
    ·rw[zE hyz]at h2;exact h2
   have t:=t h1 hyz
   have h0:c x z≠0:=λ e=>hxy (t.2 e).1
   rw[zE h0]
   exact⟨t.1,λ e=>yB e h0⟩
theorem CmpOK.list {c:α→α→Int} (h:CmpOK c):CmpOK (Hl c):=⟨Aex h,Aa4 h⟩
end
end Go.Sy.YtiijbikecbjdaaaGreatDoor
namespace Go.Sy.YtiijbikecbjdaaaGreatDoor
open Go.Proofs
attribute [local irreducible] Go.Sy.G Go.Sy.DR
set_option maxRecDepth 20000
set_option maxHeartbeats 4000000
theorem Ag5 (a:Int):Sp 323 [Aa a] (Ab false):=cT F323 Tryz.ntmps323 λ F hF=>by
 conv=>whnf
 exact Aq E (.cons .tmp .nil) (zG Ab y_) E
theorem Ag4 (a:Int):Sp 324 [Bf a] (Ab false):=cT F324 Tryz.ntmps324 λ F hF=>by
 conv=>whnf
 exact Aq E (.cons .tmp .nil) (zG Ab y_) E
def cmpI (a b:Int):Int:=if a<b then -1 else if a>b then 1 else 0
theorem I5 (a b:Int):Sp 264 [Aa a,Aa b] (Aa (cmpI a b)):=cT F264 Tryz.ntmps264 λ F hF=>by
 conv=>whnf
 (repeat' (first | (refine⟨λ h=>?_,λ h=>?_⟩<;>(repeat (first | simp only[zQ]at h | simp only[zY]at h))<;>((refine oO ?_))) | (refine Aq rfl (.cons .tmp .nil) ?_ rfl) | (refine c0 (Ag5 a) F323 ?_;((refine oO ?_))) | (refine c0 (Ag5 b) F323 ?_;((refine oO ?_);repeat((refine aF ?_);(refine oO ?_))))))
 all_goals (refine zG Aa ?_;clear hF;grind [cmpI])
theorem Amy (a b:Int):Sp 265 [Bf a,Bf b] (Aa (cmpI a b)):=cT F265 Tryz.ntmps265 λ F hF=>by
 conv=>whnf
 (repeat' (first | (refine⟨λ h=>?_,λ h=>?_⟩<;>(repeat (first | simp only[zQ]at h | simp only[zY]at h))<;>((refine oO ?_))) | (refine Aq rfl (.cons .tmp .nil) ?_ rfl) | (refine c0 (Ag4 a) F324 ?_;((refine oO ?_))) | (refine c0 (Ag4 b) F324 ?_;((refine oO ?_);repeat((refine aF ?_);(refine oO ?_))))))
 all_goals (refine zG Aa ?_;clear hF;grind [cmpI])
def orI:List Int→Int
 | []=>0
 | x::l=>if x=0 then orI l else x
theorem Adh:∀ {l:List Int} {j:Nat},(∀ i (h:i<l.length),i<j→l[i]=0)→orI l=orI (l.drop j)
 | l,0,_=>rfl
 | [],j+1,_=>rfl
 | x::l,j+1,h=>by
  have h0:=h 0 y_ q_
  simp only[tD]at h0
  rw[orI,zE h0,List.drop_succ_cons]
  exact Adh λ i hi hij=>h (i+1) (by simp;omega) q_
theorem orS (l:List Int) (hl:Ak l):Sp 263 [.sl 1 Aa l] (Aa (orI l)):=cT F263 Tryz.ntmps263 λ F hF=>by
 unfold Ak at hl
 conv=>whnf
 refine A5 l.length (λ j=>∀ i (h:i<l.length),i<j→l[i]=0) (λ j=>[(3,Aa 0),(6,.sl 1 Aa l),(7,Aa l.length),(8,Aa j)]) (λ _=>[]) [] (λ i h hj=>yB hj q_) ⟨⟨E,E,E,E,E,E,E,E,Y⟩,Y,E,E⟩ ?_
 intro j hj hI
 refine oO ?_
 (repeat' (first | (refine⟨λ h=>?_,λ h=>?_⟩<;>(repeat (first | simp only[zQ]at h | simp only[zY]at h | simp only[yQ]at h | simp only[bne_eq_false_iff_eq]at h))<;>((refine oO ?_))) | (refine Aq rfl (.cons .tmp .nil) ?_ rfl) | (refine⟨z_,?_⟩;((conv=>whnf))) | (refine⟨by (omega),by (omega),?_⟩;((conv=>whnf))) | (refine⟨by (unfold I64;omega),?_⟩;((conv=>whnf))) | refine A4 [] hI q_ ?_ ⟨⟨rfl,rfl,rfl,rfl,rfl,rfl,rfl,rfl,trivial⟩,trivial,rfl,rfl⟩))
 all_goals try (refine zG Aa ?_)
 ·have hj2:j<l.length:=by omega
  rw[Adh hI,yJ hj2,orI,zD (by simpa using h)]
  rfl
 ·intro i hi hij
  rcases vG i j with h1 | h1
  ·exact hI i hi h1
  ·have:i=j:=by omega
   subst this
   simpa using h
 ·rw[Adh hI,List.drop_of_length_le q_]
  rfl
theorem O8 (a b:Int) (l:List Int):decide (orI (cmpI a b::l)<0)=if a≠b then decide (a<b) else decide (orI l<0):=by
 rw[orI,cmpI]
 by_cases h1:a<b
 ·simp[h1,show a≠b by omega]
 ·by_cases h2:a>b
  ·simp[h1,h2,show a≠b by omega]
  ·simp[show a=b by omega]
structure Vec where
 (root cost bridge port own:Int)
def Sd (v:Vec):SV:=.agg [Aa v.root,Aa v.cost,Aa v.bridge,Aa v.port,Aa v.own]
def Ag0 (a b:Vec):Bool :=
 if a.root≠b.root then decide (a.root<b.root) else if a.cost≠b.cost then decide (a.cost<b.cost) else if a.bridge≠b.bridge then decide (a.bridge<b.bridge) else
  if a.port≠b.port then decide (a.port<b.port) else decide (a.own<b.own)
theorem lessS (a b:Vec):Sp 327 [Sd a,Sd b] (Ab (Ag0 a b)):=cT F327 Tryz.ntmps327 λ F hF=>by
 conv=>whnf
 (repeat' (first | (refine⟨λ h=>?_,λ h=>?_⟩<;>(repeat (first | simp only[yF]at h | simp only[zL]at h | simp only[zH]at h | simp only[yU]at h))<;>((refine oO ?_))) | (refine Aq rfl (.cons .tmp .nil) ?_ rfl) | (refine⟨z_,?_⟩;((conv=>whnf))) | (refine cD (I5 a.root b.root) F264 ?_;((refine rd z_ ?_);(conv=>whnf))) | (refine cD (I5 a.cost b.cost) F264 ?_;((refine rd z_ ?_);(conv=>whnf))) | (refine cD (I5 a.bridge b.bridge) F264 ?_;((refine rd z_ ?_);(conv=>whnf))) | (refine cD (I5 a.port b.port) F264 ?_;((refine rd z_ ?_);(conv=>whnf))) | (refine cD (I5 a.own b.own) F264 ?_;((refine rd z_ ?_);(conv=>whnf))) | (refine Ayz [33] (orS [cmpI a.root b.root,cmpI a.cost b.cost,cmpI a.bridge b.bridge,cmpI a.port b.port,cmpI a.own b.own] (by simp[Ak])) F263 rfl (.cons (.lit rfl rfl rfl) .nil) rfl z_ rfl ?_;((refine rd z_ ?_);(conv=>whnf)))))
 all_goals (refine zG Ab ?_;clear hF)
 ·grind [Ag0]
 ·rw[O8,O8,O8,O8,O8,Ag0]
  by_cases h1:a.own=b.own
  ·simp[h1,orI]
  ·simp[h1]
end Go.Sy.YtiijbikecbjdaaaGreatDoor
namespace Go.Sy.YtiijbikecbjdaaaGreatDoor
open Go.Proofs
structure LineM where
 row:Int
 kind:Int
 dev:ByteArray
 port:ByteArray
 peer:ByteArray
 far:ByteArray
 name:ByteArray
 mac:Int
 addr:Int
 bits:Int
 vlan:Int
 num:Int
 cost:Int
 tagged:List Int
 imports:List Int
 exports:List Int
 addrs:List Int
def B8 (l:LineM):List SV:=[Aa l.row,Aa l.kind,Ao l.dev,Ao l.port,Ao l.peer,Ao l.far,Ao l.name,Bf l.mac,A6 l.addr,Aa l.bits,Aa l.vlan,Aa l.num,Aa l.cost,.sl 1 Aa l.tagged,.sl 1 Aa l.imports,.sl 1 Aa l.exports,.sl 1 A6 l.addrs]
def A0 (l:LineM):SV:=.agg [Aa l.row,Aa l.kind,Ao l.dev,Ao l.port,Ao l.peer,Ao l.far,Ao l.name,Bf l.mac,A6 l.addr,Aa l.bits,Aa l.vlan,Aa l.num,Aa l.cost,.sl 1 Aa l.tagged,.sl 1 Aa l.imports,.sl 1 Aa l.exports,.sl 1 A6 l.addrs]
theorem Aw7 (x:Int) (l:List Int):orI (x::l)=Z3 x (orI l):=by
 rw[orI];unfold Z3;split<;>simp_all
theorem CmpOK.const {α:Type}:CmpOK (λ _ _:α=>(0:Int)):=⟨λ _ _=>by simp,λ _ _ _ _ _=>by simp⟩
theorem CmpOK.or {α:Type} {c:α→α→Int} {d:α→α→List Int} (hc:CmpOK c) (hd:CmpOK (λ x y=>orI (d x y))):CmpOK (λ x y=>orI (c x y::d x y)):=by
 have h:=hc.then hd
 simp only[Aw7]
 exact h
end Go.Sy.YtiijbikecbjdaaaGreatDoor
namespace Go.Sy.YtiijbikecbjdaaaGreatDoor
open Go.Proofs
attribute [local irreducible] Go.Sy.G Go.Sy.DR
set_option maxRecDepth 20000
set_option maxHeartbeats 4000000
def Tb (lt:Int→Int→Bool) (x:Int):List Int→List Int
 | []=>[x]
 | y::r=>if lt x y then y::Tb lt x r else x::y::r
def Hs (lt:Int→Int→Bool) (l:List Int):List Int:=l.foldl (λ r x=>Tb lt x r) []
def Va (lt:Int→Int→Bool) (l:List Int):List Int:=(Hs lt l).reverse
theorem Zr (lt:Int→Int→Bool) (x:Int):∀ r,(Tb lt x r).Perm (x::r)
 | []=>.refl _
 | y::r=>by
  rw[Tb]
  split
  ·exact((Zr lt x r).cons y).trans (.swap x y r)
  ·exact .refl _
theorem Q0 (lt:Int→Int→Bool):∀ (l r:List Int),(l.foldl (λ r x=>Tb lt x r) r).Perm (l++r)
 | [],r=>.refl _
 | x::l,r=>by
  rw[uD]
  refine(Q0 lt l _).trans ?_
  refine((Zr lt x r).append_left l).trans ?_
  simp
theorem Me (lt:Int→Int→Bool) (l:List Int):(Hs lt l).Perm l:=by
 have:=Q0 lt l []
 simpa [Hs] using this
theorem V6 (lt:Int→Int→Bool) (l:List Int):(Va lt l).Perm l:=(List.reverse_perm _).trans (Me lt l)
theorem Al8 (lt:Int→Int→Bool) (l:List Int) (i:Nat) (h:i<l.length):Hs lt (l.take (i+1))=Tb lt l[i] (Hs lt (l.take i)):=by
 rw[zW h,Hs,xF]
 rfl
mutual
theorem Qg {K:List Nat}:∀ x:SV,x.inn []=true→x.inn K=true
 | .ptr _ _,h=>by simp[SV.inn,M8]at h
 | .rpt _ _ _ _,h=>by simp[SV.inn,M8]at h
 | .osl _,h=>by simp[SV.inn,M8]at h
 | .agg l,h=>by simp only[SV.inn]at h ⊢;exact Tc l h
 | .tup l,h=>by simp only[SV.inn]at h ⊢;exact Tc l h
 | .ifc _ x,h=>by simp only[SV.inn]at h ⊢;exact Qg x h
 | .clo _ f l,h=>by simp only[SV.inn,zH]at h ⊢;exact⟨Tc f h.1,Tc l h.2⟩
 | .top,_=>rfl
 | .val _,_=>rfl
 | .sl _ _ _,_=>rfl
 | .ref _ _ _,_=>rfl
theorem Tc {K:List Nat}:∀ l:List SV,By [] l=true→By K l=true
 | [],_=>rfl
 | x::l,h=>by simp only[By,zH]at h ⊢;exact⟨Qg x h.1,Tc l h.2⟩
end
theorem Ad1 (l:List Int) (c:Int→Int→Int) (Q:Int→Prop) (f:FuncId) (first cap:List SV) (hc:(SV.clo (.func f) first cap).inn []=true) (hf:∀ a b,Q a→Q b→D9 Tryz.prog f (first++[Aa a,Aa b]++cap) (Aa (c a b))) (hQ:∀ a∈l,Q a) (hl:Ak l) :
  Sq 374 [.osl 0,Aa 0,Aa l.length,.clo (.func f) first cap] [(0,.row 1 Aa l)] (.tup []) [(0,.row 1 Aa (Va (λ a b=>decide (c a b<0)) l))]:=cT F374 Tryz.ntmps374 λ F hF=>by
 unfold Ak at hl
 have hin:∀ x y:Int,By [] (first++[Aa x,Aa y]++cap)=true:=λ x y=>Cs hc rfl
 have hc':(SV.clo (.func f) first cap).inn [0]=true:=Qg _ hc
 generalize hlt:(λ a b=>decide (c a b<0))=lt
 conv=>whnf
 (repeat' (refine⟨by (unfold I64;omega),?_⟩;((conv=>whnf))))
 refine A5 l.length (λ _=>True) (λ j=>[(0,.osl 0),(1,Aa 0),(2,Aa l.length),(3,.clo (.func f) first cap),(8,Aa ((j:Int)+1))]) (λ j=>[(0,.row 1 Aa ((Hs lt (l.take (j+1))).reverse++l.drop (j+1)))]) [] Y ⟨⟨E,E,E,E,E,E,A8 _,hc',E,E,Y⟩,⟨.inl (zG (Ob.row 1 Aa) ?_),E,Y⟩,E,E⟩ ?_
 ·cases l with
  | nil=>rfl
  | cons a l=>simp[Hs,Tb]
 intro j hj _
 refine oO ?_
 constructor<;>intro h
 ·have hjl:j+1<l.length:=qA h
  have hdrop:l.drop (j+1)=l[j+1]::l.drop (j+1+1):=yJ hjl
  have htake:=Al8 lt l (j+1) hjl
  have hr:(Hs lt (l.take (j+1))).length=j+1:=by rw[(Me lt _).length_eq];simp;omega
  have hQx:Q l[j+1]:=hQ _ (zJ hjl)
  have hQr:∀ z∈Hs lt (l.take (j+1)),Q z:=λ z hz=>hQ z (wK ((Me lt _).mem_iff.1 hz))
  rw[hdrop]
  generalize l[j+1]=x at htake hQx
  generalize Hs lt (l.take (j+1))=r at htake hr hQr
  generalize hR:l.drop (j+1+1)=R at *
  refine oO ?_
  refine Tv (α:={p:List Int × List Int // Tb lt x r=p.2.reverse++Tb lt x p.1∧p.1.length+p.2.length=j+1∧∀ z∈p.1,Q z}) (λ p=>[(0,.osl 0),(1,Aa 0),(2,Aa l.length),(3,.clo (.func f) first cap),(8,Aa ((j:Int)+1)),(9,Aa p.1.1.length)]) (λ p=>[(0,.row 1 Aa (p.1.1.reverse++x::(p.1.2++R)))]) (λ p=>p.1.1.length) ⟨(r,[]),by simp,by simpa using hr,hQr⟩ []
   ⟨⟨rfl,rfl,rfl,rfl,rfl,rfl,A8 _,hc',rfl,rfl,zG Aa (by rw[hr];omega),rfl,trivial⟩,⟨.inl rfl,rfl,trivial⟩,rfl,rfl⟩ ?_
  rintro ⟨⟨A,B⟩,hp1,hp2,hp3⟩
  simp only at hp1 hp2 hp3
  dsimp only
  cases A with
  | nil =>
   simp only[Tb]at hp1
   (refine rg ?_;(conv=>whnf);refine aF ?_;refine oD ?_)
   refine⟨z_,?_⟩
   ((conv=>whnf);refine aF ?_;refine rg ?_;conv=>whnf)
   refine iW ?_
   refine A4 [] Y q_ Y ⟨⟨E,E,E,E,E,E,A8 _,hc',zG Aa q_,E,Y⟩,⟨.inl (zG (Ob.row 1 Aa) ?_),E,Y⟩,E,E⟩
   show (Hs lt (l.take (j+1+1))).reverse++l.drop (j+1+1)=[].reverse++x::(B++R)
   rw[htake,hp1,hR]
   simp
  | cons y A =>
   have hQy:=hp3 y y_
   refine oO ?_
   refine⟨λ _=>?_,λ h=>yB (zT h) y_⟩
   refine oD ?_
   have e1:((y::A).reverse++x::(B++R))[(((y::A).length:Nat):Int).toNat]'y_=x:=by simp
   have e2:((y::A).reverse++x::(B++R))[((((y::A).length:Nat):Int)-1).toNat]'y_=y:=by simp
   refine⟨by omega,by simp,?_⟩
   conv=>whnf
   refine⟨E,by simp,?_⟩
   rw[e1]
   conv=>whnf
   refine⟨by unfold I64;simp at hp2;simp;omega,?_⟩
   conv=>whnf
   refine⟨by simp,by simp,?_⟩
   conv=>whnf
   refine⟨E,by simp,?_⟩
   rw[e2]
   conv=>whnf
   refine Aqq (hf x y hQx hQy) E E E (by simp only[hin];rfl) z_ E ?_
   refine oD ?_
   refine kW ?_
   constructor<;>intro h2
   ·refine oO ?_
    refine⟨by unfold I64;simp at hp2;simp;omega,?_⟩
    conv=>whnf
    refine⟨by unfold I64;simp at hp2;simp;omega,?_⟩
    conv=>whnf
    refine⟨by simp,by simp,?_⟩
    conv=>whnf
    refine⟨E,by simp,?_⟩
    rw[e2]
    conv=>whnf
    refine⟨by omega,by simp,?_⟩
    conv=>whnf
    refine⟨E,by simp,?_⟩
    rw[e1]
    conv=>whnf
    refine⟨by omega,by simp,?_⟩
    conv=>whnf
    refine⟨E,by simp,y,E,E,?_⟩
    conv=>whnf
    refine⟨by simp,by simp,?_⟩
    conv=>whnf
    refine⟨E,by simp,x,E,E,?_⟩
    conv=>whnf
    refine kW ?_
    refine⟨by unfold I64;simp at hp2;simp;omega,?_⟩
    conv=>whnf
    have hxy:lt x y=true:=by rw[← hlt];exact h2
    refine Vl (α:={p:List Int × List Int // Tb lt x r=p.2.reverse++Tb lt x p.1∧p.1.length+p.2.length=j+1∧∀ z∈p.1,Q z}) (L:=λ p=>[(0,.osl 0),(1,Aa 0),(2,Aa l.length),(3,.clo (.func f) first cap),(8,Aa ((j:Int)+1)),(9,Aa p.1.1.length)]) (O:=λ p=>[(0,.row 1 Aa (p.1.1.reverse++x::(p.1.2++R)))]) (μ:=λ p=>p.1.1.length) (x:=⟨(y::A,B),hp1,hp2,hp3⟩)
     ⟨(A,y::B),by simp only[hp1,Tb,hxy,if_true];simp,by simp at hp2 ⊢;omega,λ z hz=>hp3 z (by simp[hz])⟩ [] y_
     ⟨⟨rfl,rfl,rfl,rfl,rfl,rfl,A8 _,hc',rfl,rfl,zG Aa y_,rfl,trivial⟩,⟨.inl (zG (Ob.row 1 Aa) ?_),rfl,trivial⟩,rfl,rfl⟩
    simp
   ·refine oO ?_
    have hxy:lt x y=false:=by rw[← hlt];exact h2
    refine iW ?_
    refine A4 [] Y q_ Y ⟨⟨E,E,E,E,E,E,A8 _,hc',zG Aa q_,E,Y⟩,⟨.inl (zG (Ob.row 1 Aa) ?_),E,Y⟩,E,E⟩
    show (Hs lt (l.take (j+1+1))).reverse++l.drop (j+1+1)=(y::A).reverse++x::(B++R)
    rw[htake,hp1,hR,Tb,hxy]
    simp
 ·have h:=zT h
  have e:(Hs lt (l.take (j+1))).reverse++l.drop (j+1)=Va lt l:=by
   rw[xC q_,List.drop_of_length_le q_,xK]
   rfl
  rw[e]
  refine oO ?_
  exact A1 E .nil [] [(0,.row 1 Aa (Va lt l))] (λ _ h=>h) E E ⟨Y,⟨.inl E,E,Y⟩,E,E⟩
theorem Az1 (l:List Int) (c:Int→Int→Int) (Q:Int→Prop) (f:FuncId) (first cap:List SV) (hc:(SV.clo (.func f) first cap).inn []=true) (hf:∀ a b,Q a→Q b→D9 Tryz.prog f (first++[Aa a,Aa b]++cap) (Aa (c a b))) (hQ:∀ a∈l,Q a) (hl:l.length<20) :
  Sq 322 [.osl 0,Aa l.length,.clo (.func f) first cap] [(0,.row 1 Aa l)] (.tup []) [(0,.row 1 Aa (Va (λ a b=>decide (c a b<0)) l))]:=cT F322 Tryz.ntmps322 λ F hF=>by
 have hc':(SV.clo (.func f) first cap).inn [0]=true:=Qg _ hc
 have hins:=Ad1 l c Q f first cap hc hf hQ (by unfold Ak;omega)
 generalize Va (λ a b=>decide (c a b<0)) l=l' at hins
 conv=>whnf
 refine A9 0 (λ j=>[(0,.osl 0),(1,Aa l.length),(2,.clo (.func f) first cap),(6,Aa 20),(7,Aa 0),(8,Aa 20)]) (λ _=>[(0,.row 1 Aa l)]) [] ⟨⟨E,E,E,E,A8 _,hc',E,E,E,E,E,E,Y⟩,⟨.inl E,E,Y⟩,E,E⟩ ?_
 intro j hj
 refine oO ?_
 refine⟨λ h=>yB (zK h) q_,λ _=>?_⟩
 refine oO ?_
 refine Af (Ad [] E F374 hins (Io _) ⟨E,Y⟩ (by
  have h0:By [0] [.osl 0,Aa 0,Aa l.length,.clo (.func f) first cap]=true:=by simp only[By,hc'];rfl
  simp only[Lz,Obs.keys,xV,vY,h0];rfl) ⟨.inl rfl,trivial⟩) rfl rfl ?_
 refine oO ?_
 refine A9 0 (λ j=>[(1,Aa l.length),(6,Aa 20)]) (λ _=>[(0,.row 1 Aa l')]) [] ⟨⟨E,E,E,E,Y⟩,⟨.inl E,E,Y⟩,E,E⟩ ?_
 clear hj
 intro j hj
 refine oO ?_
 refine⟨λ h=>yB (zK h) q_,λ _=>?_⟩
 refine oO ?_
 exact A1 E .nil [] [(0,.row 1 Aa l')] (λ _ h=>h) E E ⟨Y,⟨.inl E,E,Y⟩,E,E⟩
theorem Akn (l:List Int) (c:Int→Int→Int) (Q:Int→Prop) (f:FuncId) (first cap:List SV) (hc:(SV.clo (.func f) first cap).inn []=true) (hf:∀ a b,Q a→Q b→D9 Tryz.prog f (first++[Aa a,Aa b]++cap) (Aa (c a b))) (hQ:∀ a∈l,Q a) (hl:l.length<20) :
  Sq 261 [.osl 0,.clo (.func f) first cap] [(0,.row 1 Aa l)] (.tup []) [(0,.row 1 Aa (Va (λ a b=>decide (c a b<0)) l))]:=cT F261 Tryz.ntmps261 λ F hF=>by
 have hc':(SV.clo (.func f) first cap).inn [0]=true:=Qg _ hc
 have hst:=Az1 l c Q f first cap hc hf hQ hl
 generalize Va (λ a b=>decide (c a b<0)) l=l' at hst
 conv=>whnf
 refine Af (Ad [] E F322 hst (Io _) ⟨E,Y⟩ (by
  have h0:By [0] [.osl 0,Aa l.length,.clo (.func f) first cap]=true:=by simp only[By,hc'];rfl
  simp only[Lz,Obs.keys,xV,vY,h0];rfl) ⟨.inl rfl,trivial⟩) rfl rfl ?_
 refine oO ?_
 exact A1 E .nil [] [(0,.row 1 Aa l')] (λ _ h=>h) E E ⟨Y,⟨.inl E,E,Y⟩,E,E⟩
def Afz (n:Net) (a b:Int):Int:=orI [cmpI (nth n.devices a).prio (nth n.devices b).prio,cmpI (nth n.devices a).mac (nth n.devices b).mac]
theorem ranks1 (n:Net) (a b:Int) (ha:0≤a∧a<n.devices.length) (hb:0≤b∧b<n.devices.length):Sp 262 [Aa a,Aa b,.ref 8 (Al n) 0] (Aa (Afz n a b)):=cT F262 Tryz.ntmps262 λ F hF=>by
 have e1:Afz n a b=orI [cmpI (n.devices[a.toNat]'q_).prio (n.devices[b.toNat]'q_).prio,cmpI (n.devices[a.toNat]'q_).mac (n.devices[b.toNat]'q_).mac]:=by
  rw[Afz,Aj q_,Aj q_]
 rw[e1]
 conv=>whnf
 (repeat' (first | (refine Aq rfl (.cons .tmp .nil) ?_ rfl) | (refine⟨z_,?_⟩;((conv=>whnf))) | (refine⟨by (omega),by (omega),?_⟩;((conv=>whnf))) | (refine cD (I5 (n.devices[a.toNat]'q_).prio (n.devices[b.toNat]'q_).prio) F264 ?_;((refine rd z_ ?_);(conv=>whnf))) | (refine cD (Amy (n.devices[a.toNat]'q_).mac (n.devices[b.toNat]'q_).mac) F265 ?_;((refine rd z_ ?_);(conv=>whnf))) | (refine Ayz [28] (orS [cmpI (n.devices[a.toNat]'q_).prio (n.devices[b.toNat]'q_).prio,cmpI (n.devices[a.toNat]'q_).mac (n.devices[b.toNat]'q_).mac] (by simp[Ak])) F263 rfl (.cons (.lit rfl rfl rfl) .nil) rfl z_ rfl ?_;((refine rd z_ ?_);(conv=>whnf)))))
 all_goals rfl
def Xl (m:Nat):List Int:=(List.range m).map λ (i:Nat)=>(i:Int)
theorem Ags (m:Nat):Xl (m+1)=Xl m++[(m:Int)]:=by simp[Xl,wV]
theorem Kb (m:Nat):(Xl m).length=m:=by simp[Xl]
def I9 (ord:List Int):Nat→List Int
 | 0=>List.replicate ord.length 0
 | j+1=>(I9 ord j).set (nth ord j).toNat j
theorem Iq (ord:List Int):∀ j,(I9 ord j).length=ord.length
 | 0=>by simp[I9]
 | j+1=>by simp[I9,Iq ord j]
def E1 (n:Net):List Int:=Va (λ a b=>decide (Afz n a b<0)) (Xl n.devices.length)
def Ev (n:Net):List Int:=I9 (E1 n) n.devices.length
theorem ranksS (n:Net) (hn:n.Fin):Sp 189 [Al n] (.sl 1 Aa (if Ac n then Ev n else [])):=cT F189 Tryz.ntmps189 λ F hF=>by
 have hl:=hn.devices
 unfold Ak at hl
 conv=>whnf
 refine c0 (Ax n hn) F24 ?_
 refine oO ?_
 constructor<;>intro h
 ·have h:Ac n=false:=by simpa using h
  refine oO ?_
  refine Am 2 1 Aa E ?_
  exact Aq E (.cons .tmp .nil) (by rw[h];rfl) E
 have h:Ac n=true:=by simpa using h
 have h8:n.devices.length≤8:=by
  simp only[Ac,Aqb,zH,zQ]at h
  exact h.1.1.1.1.1.1.1.1.1.1.1.1.1.1.1
 rw[h,zE rfl,Ev]
 refine oO ?_
 refine A7 1 8 (Al n) E E E ?_
 refine B9 3 1000 1 Aa E E ?_
 refine A9 n.devices.length (λ j=>[(1,.ref 8 (Al n) 0),(3,.osl 1000),(13,Aa n.devices.length),(14,Aa j)]) (λ j=>[(1000,.row 1 Aa (Xl j))]) [] ⟨⟨E,E,E,E,E,E,E,E,Y⟩,⟨.inl E,E,Y⟩,E,E⟩ ?_
 intro j hj
 refine oO ?_
 constructor<;>intro h2
 ·have hlt:j<n.devices.length:=by simpa using h2
  refine oO ?_
  refine Af (Ae Γ.toTy 20 E E E E E (.row E) (.lit (l:=[(j:Int)]) E E) y_ (by simp[Kb];omega) (by simp[Kb];omega)) E E ?_
  refine oO ?_
  refine iW ?_
  exact A2 [(1000,20)] hlt ⟨⟨E,E,E,E,E,E,E,E,Y⟩,⟨.inl (zG (Ob.row 1 Aa) (Ags j)),E,Y⟩,E,E⟩
 have hjl:j=n.devices.length:=by have:¬ j<n.devices.length:=(by simpa using h2);omega
 subst hjl
 refine oO ?_
 have hsort:=Akn (Xl n.devices.length) (Afz n) (λ a=>0≤a∧a<n.devices.length) 262 [] [.ref 8 (Al n) 0] rfl (λ a b ha hb=>⟨⟨_,_,F262⟩,ranks1 n a b ha hb⟩) (λ a ha=>by
  obtain ⟨i,hi,rfl⟩:=yV.1 ha
  have:=xM.1 hi
  omega) (by rw[Kb];omega)
 have hslen:(E1 n).length=n.devices.length:=by rw[E1,(V6 _ _).length_eq,Kb]
 have hsm:∀ a∈E1 n,0≤a∧a<n.devices.length:=λ a ha=>by
  have:=(V6 _ _).mem_iff.1 ha
  obtain ⟨i,hi,rfl⟩:=yV.1 this
  have:=xM.1 hi
  omega
 change Sy.Spec _ _ _ _ _ [(0,.row 1 Aa (E1 n))]at hsort
 generalize E1 n=sl at hsort hslen hsm
 refine Af (Ad [(0,1000)] E F261 hsort E ⟨E,Y⟩ E ⟨.inl E,Y⟩) E E ?_
 refine oO ?_
 refine Af (Bv Γ.toTy (d:=27) (n:=sl.length) Aa 0 E E E E E E E E q_ q_ E E E) E E ?_
 refine oO ?_
 refine A9 sl.length (λ j=>[(5,.osl 27),(28,.osl 1000),(29,Aa sl.length),(30,Aa j)]) (λ j=>[(1000,.row 1 Aa sl),(27,.row 1 Aa (I9 sl j))]) [] ⟨⟨E,E,E,E,E,E,E,E,Y⟩,⟨.inl E,E,.inl E,E,Y⟩,E,E⟩ ?_
 clear hj h2
 intro j hj
 refine oO ?_
 constructor<;>intro h2
 ·have hlt:j<sl.length:=by simpa using h2
  have hmj:=hsm _ (zJ hlt)
  have hnth:nth sl j=sl[j]:=Aj (by simpa using hlt)
  have hfl:=Iq sl j
  refine oO ?_
  refine⟨by omega,by omega,?_⟩
  conv=>whnf
  refine⟨E,by omega,?_⟩
  conv=>whnf
  refine⟨hmj.1,by rw[hfl];exact(by omega:sl[j].toNat<sl.length),?_⟩
  conv=>whnf
  refine⟨E,by rw[hfl];exact(by omega:sl[j].toNat<sl.length),(j:Int),E,E,?_⟩
  conv=>whnf
  refine iW ?_
  exact A2 [] hlt ⟨⟨E,E,E,E,E,E,E,E,Y⟩,⟨.inl E,E,.inl (zG (Ob.row 1 Aa) (by rw[I9,hnth];rfl)),E,Y⟩,E,E⟩
 have hjl:j=n.devices.length:=by
  have:¬ j<sl.length:=by simpa using h2
  omega
 subst hjl
 refine oO ?_
 refine Ag 27 E ?_
 exact dN
def C9 (n:Net) (a b:Int):Bool :=
 if (nth n.devices a).prio≠(nth n.devices b).prio then decide ((nth n.devices a).prio<(nth n.devices b).prio) else
  if (nth n.devices a).mac≠(nth n.devices b).mac then decide ((nth n.devices a).mac<(nth n.devices b).mac) else decide (a<b)
def M5 (n:Net):List Int:=(List.range n.devices.length).map λ (i:Nat)=>(((List.range n.devices.length).countP λ k=>C9 n (k:Nat) i:Nat):Int)
end Go.Sy.YtiijbikecbjdaaaGreatDoor
namespace Go.Sy.YtiijbikecbjdaaaGreatDoor
theorem key_lt (n:Net) (a b:Int):decide (Afz n a b<0)=if (nth n.devices a).prio≠(nth n.devices b).prio then decide ((nth n.devices a).prio<(nth n.devices b).prio) else
  if (nth n.devices a).mac≠(nth n.devices b).mac then decide ((nth n.devices a).mac<(nth n.devices b).mac) else false:=by
 rw[Afz,O8,O8]
 rfl
theorem Qr (n:Net) (a:Int):C9 n a a=false:=by simp[C9]
theorem Abe (n:Net) {a b c:Int} (h1:C9 n a b=true) (h2:C9 n b c=true):C9 n a c=true:=by
 unfold C9 at *
 generalize nth n.devices a=x at *
 generalize nth n.devices b=y at *
 generalize nth n.devices c=z at *
 grind
theorem Anf (n:Net) {a b:Int} (h1:C9 n a b=true):C9 n b a=false:=by
 cases h:C9 n b a with
 | false=>rfl
 | true=>have:=Abe n h1 h;rw[Qr]at this;cases this
theorem Ag3 (n:Net) {x y:Int} (h:y<x):decide (Afz n x y<0)=C9 n x y:=by
 rw[key_lt]
 unfold C9
 generalize nth n.devices x=p at *
 generalize nth n.devices y=q at *
 grind
theorem A0m (n:Net) {x y:Int} (h:y<x) (hk:C9 n x y=false):C9 n y x=true:=by
 unfold C9 at *
 generalize nth n.devices x=p at *
 generalize nth n.devices y=q at *
 grind
theorem Ag8 (n:Net) (x:Int):∀ (r:List Int),(∀ y∈r,y<x)→r.Pairwise (λ a b=>C9 n b a=true)→(Tb (λ a b=>decide (Afz n a b<0)) x r).Pairwise (λ a b=>C9 n b a=true)
 | [],_,_=>by simp[Tb]
 | y::r,hx,hp=>by
  have hy:=hx y y_
  rw[vK]at hp
  rw[Tb]
  split
  ·rename_i hlt
   rw[Ag3 n hy]at hlt
   rw[vK]
   refine⟨λ z hz=>?_,Ag8 n x r (λ z hz=>hx z (by simp[hz])) hp.2⟩
   rcases yI.1 ((Zr _ x r).mem_iff.1 hz) with rfl | hz
   ·exact hlt
   ·exact hp.1 z hz
  ·rename_i hlt
   rw[Ag3 n hy]at hlt
   have hyx:=A0m n hy (by simpa using hlt)
   rw[vK,vK]
   refine⟨λ z hz=>?_,hp⟩
   rcases yI.1 hz with rfl | hz
   ·exact hyx
   ·exact Abe n (hp.1 z hz) hyx
theorem Aat (n:Net):∀ m,(Hs (λ a b=>decide (Afz n a b<0)) (Xl m)).Pairwise (λ a b=>C9 n b a=true)
 | 0=>by simp[Hs,Xl]
 | m+1=>by
  rw[Ags,Hs,xF]
  refine Ag8 n m _ (λ y hy=>?_) (Aat n m)
  have:=(Me _ _).mem_iff.1 hy
  obtain ⟨i,hi,rfl⟩:=yV.1 this
  have:=xM.1 hi
  omega
theorem Ze (n:Net):(E1 n).Pairwise (λ a b=>C9 n a b=true):=by
 rw[E1,Va,List.pairwise_reverse]
 exact Aat n _
theorem Aib (n:Net):(E1 n).Perm (Xl n.devices.length):=V6 _ _
theorem Amx (n:Net) {l:List Int} (hp:l.Pairwise (λ a b=>C9 n a b=true)) (r:Nat) (hr:r<l.length):l.countP (λ k=>C9 n k l[r])=r:=by
 have hsplit:l=l.take r++l[r]::l.drop (r+1):=by
  rw[← yJ hr,List.take_append_drop]
 have h1:(l.take r).countP (λ k=>C9 n k l[r])=r:=by
  rw[List.countP_eq_length.2 (λ k hk=>?_),zX]
  ·omega
  ·obtain ⟨i,hi,rfl⟩:=yY.1 hk
   simp only[zX]at hi
   rw[xS]
   exact wZ.1 hp i r q_ hr q_
 have h2:(l.drop (r+1)).countP (λ k=>C9 n k l[r])=0:=by
  rw[List.countP_eq_zero]
  intro k hk
  obtain ⟨i,hi,rfl⟩:=yY.1 hk
  simp only[yM]at hi
  rw[vC]
  have:=wZ.1 hp r (r+1+i) hr q_ q_
  simp[Anf n this]
 calc l.countP (λ k=>C9 n k l[r])=(l.take r++l[r]::l.drop (r+1)).countP (λ k=>C9 n k l[r]):=zG _ hsplit
  _=r:=by rw[List.countP_append,List.countP_cons,h1,h2,Qr];simp
theorem W9 (L:List Int) (hn:L.Nodup) (hm:∀ a∈L,0≤a∧a<L.length):∀ (j:Nat),j≤L.length→∀ (r:Nat) (hr:r<L.length),r<j→(I9 L j)[L[r].toNat]? = some (r:Int)
 | 0,_,r,_,h=>by omega
 | j+1,hj,r,hr,h=>by
  have hmr:=hm _ (zJ hr)
  have hlen:=Iq L j
  have hnth:nth L (j:Int)=L[j]:=Aj (by simp;omega)
  rw[I9,hnth,List.getElem?_set]
  split
  ·rename_i he
   have hmj:=hm _ (zJ (show j<L.length by omega))
   have hjr:L[j]=L[r]:=by omega
   have:j=r:=by
    have:=(List.getElem_inj (i:=j) (j:=r) (h₀:=by omega) (h₁:=hr) hn).1 hjr
    exact this
   subst this
   rw[zE q_]
  ·rename_i he
   have hne:r≠j:=λ e=>he (by subst e;rfl)
   exact W9 L hn hm j q_ r hr q_
theorem Apf (m:Nat):(Xl m).Nodup:=by
 rw[Xl]
 exact List.Pairwise.map _ (λ (a b:Nat) (h:a≠b)=>by intro e;exact h q_) List.nodup_range
theorem Ak5 (n:Net):Ev n=M5 n:=by
 have hp:=Aib n
 have hlen:(E1 n).length=n.devices.length:=by rw[hp.length_eq,Kb]
 have hnd:(E1 n).Nodup:=hp.nodup_iff.2 (Apf _)
 have hm:∀ a∈E1 n,0≤a∧a<(E1 n).length:=λ a ha=>by
  obtain ⟨i,hi,rfl⟩:=yV.1 (hp.mem_iff.1 ha)
  have:=xM.1 hi
  omega
 refine List.ext_getElem? λ i=>?_
 rcases vG i n.devices.length with hi | hi
 ·have hin:(i:Int)∈E1 n:=hp.mem_iff.2 (yV.2 ⟨i,xM.2 hi,rfl⟩)
  obtain ⟨r,hr,he⟩:=yY.1 hin
  have h1:=W9 (E1 n) hnd hm n.devices.length q_ r hr q_
  rw[he]at h1
  have h2:=Amx n (Ze n) r hr
  rw[he,hp.countP_eq]at h2
  rw[Ev,M5,uA,vQ hi]
  simp only[yL]at h1
  rw[h1]
  simp only[uC]
  congr 2
  rw[← h2,Xl,List.countP_map]
  rfl
 ·rw[vE,vE]
  ·simp[M5];omega
  ·rw[Ev,Iq];omega
theorem Avd {C:Cx} {k:List KI} {s:SS} (d:Nat) (x:SV) (h:Vw s [] (s.σ d) x) (hg:G C k ⟨upd s.σ d x,s.h⟩):G C k s:=λ κ a w hs =>
 hg κ a w ⟨hs.defers,hs.size,hs.inv,hs.ctx,λ i=>by
  show Rd κ w (upd s.σ d x i) _
  by_cases hi:i=d
  ·subst hi;rw[Bt];exact Vw.rd hs.inv (λ _ hn=>by cases hn) h (hs.slot i)
  ·rw[Ck _ _ hi];exact hs.slot i,hs.obj⟩
end Go.Sy.YtiijbikecbjdaaaGreatDoor
namespace Go.Sy.YtiijbikecbjdaaaGreatDoor
open Go.Proofs
attribute [local irreducible] Go.Sy.G Go.Sy.DR
set_option maxRecDepth 20000
set_option maxHeartbeats 4000000
def H5 (p:Port):Bool:=decide (p.cost<1) || decide (p.cost>65535)
theorem costs1 (p:Port):Sp 260 [A3 p] (Ab (H5 p)):=cT F260 Tryz.ntmps260 λ F hF=>by
 conv=>whnf
 (repeat' (first | (refine⟨λ h=>?_,λ h=>?_⟩<;>(repeat (first | simp only[zQ]at h | simp only[zY]at h))<;>((refine oO ?_))) | (refine Aq rfl (.cons .tmp .nil) ?_ rfl)))
 all_goals (refine zG Ab ?_;clear hF;grind [H5])
theorem Wf (l:List Port) (p:Port→Bool) (f:FuncId) (first cap:List SV) (hc:(SV.clo (.func f) first cap).inn []=true) (hf:∀ x∈l,D9 Tryz.prog f (first++[A3 x]++cap) (Ab (p x))) (hl:Ak l) :
  Sp 259 [.sl 7 A3 l,.clo (.func f) first cap] (Ab (l.any p)):=cT F259 Tryz.ntmps259 λ F hF=>by
 have h0:By [] [.sl 7 A3 l,.clo (.func f) first cap]=true:=by simp only[By,hc];rfl
 conv=>whnf
 refine Kx (Qx l p f first cap hc hf hl) F181 E E (by simp only[h0];rfl) E E ?_
 refine oO ?_
 exact Aq E (.cons .tmp .nil) (zG Ab (Ji _ _).symm) E
def Di (n:Net):Bool:=!(n.ports.any H5)
theorem Ayy (n:Net) (hl:Ak n.ports):Sp 188 [Al n] (Ab (Di n)):=cT F188 Tryz.ntmps188 λ F hF=>by
 conv=>whnf
 refine c0 (Wf n.ports H5 260 [] [] E (λ x _=>⟨⟨_,_,F260⟩,costs1 x⟩) hl) F259 ?_
 refine oO ?_
 exact dN
end Go.Sy.YtiijbikecbjdaaaGreatDoor
namespace Go.Sy.YtiijbikecbjdaaaGreatDoor
open Go.Proofs
attribute [local irreducible] Go.Sy.G Go.Sy.DR
set_option maxRecDepth 100000
set_option maxHeartbeats 4000000
theorem Bi {α:Type} {l:List α} {i:Nat} {d:α} (h:i<l.length):l.getD i d=l[i]:=by simp[List.getD,h]
theorem O2 {n:Net} (h:Ac n=true) {i:Nat} (hi:i<n.ports.length):Ll n i n.ports[i]=true:=by
 simp only[Ac,zH]at h
 exact allB_iff.1 h.1.1.1.1.1.2 i hi
theorem Ac4 {n:Net} (h:Ac n=true) {i:Nat} (hi:i<n.links.length):Xv n i n.links[i]=true:=by
 simp only[Ac,zH]at h
 exact allB_iff.1 h.1.1.1.1.2 i hi
theorem Hf {n:Net} (h:Ac n=true):n.devices.length≤8∧n.ports.length≤40∧n.links.length≤20:=by
 simp only[Ac,Aqb,zH,zQ]at h
 omega
theorem T4 {n:Net} (h:Ac n=true) {i:Nat} (hi:i<n.ports.length):n.ports[i].link=-1∨(0≤n.ports[i].link∧n.ports[i].link<n.links.length):=by
 have:=O2 h hi
 simp only[Ll,An,zH,yO,yF,zQ]at this
 rcases this.2 with h1 | h1
 ·exact .inl h1
 ·exact .inr h1.1
theorem Sx {n:Net} (h:Ac n=true) {i:Nat} (hi:i<n.ports.length):0≤n.ports[i].dev∧n.ports[i].dev<n.devices.length:=by
 have:=O2 h hi
 simp only[Ll,An,zH,zQ]at this
 exact this.1.1.1.1.1.1.1.1
theorem Oa {n:Net} (h:Ac n=true) {i:Nat} (hi:i<n.links.length):(0≤n.links[i].a∧n.links[i].a<n.ports.length)∧0≤n.links[i].b∧n.links[i].b<n.ports.length:=by
 have:=Ac4 h hi
 simp only[Xv,An,zH,zQ]at this
 exact⟨this.1.1.1.1,this.1.1.1.2⟩
def Hn (n:Net) (i:Nat):Int:=(nth n.ports i).dev
def Xi (n:Net) (i:Nat):Int:=(nth n.ports i).cost
theorem Alf {n:Net} (hcost:Di n=true) {i:Nat} (hi:i<n.ports.length):1≤Xi n i∧Xi n i≤65535:=by
 rw[Xi,Aj (l:=n.ports) (i:=(i:Int)) (by simpa using hi)]
 simp only[Di,yX,uM]at hcost
 have:=hcost _ (zJ hi)
 simp only[H5,yO,zQ,uU]at this
 simp only[yL]
 omega
def Ayu (d:Domain):SV:=.agg [Aa d.dev,Aa d.vlan,Aa d.vni,Aa d.irb,Aa d.row,.val (.slice none 0 0)]
theorem Aut {M:Nat→Prop} {w:World} (p:Domain) (hp:p.peers=[]) {v:Value} (h:RdD M w (Ayu p) v):RdD M w (Ap p) v:=by
 simp only[Ayu,Ap,RdD,RdDL,hp]at h ⊢
 obtain ⟨cs,h1,h2,v0,r0,h3,h4,v1,r1,h5,h6,v2,r2,h7,h8,v3,r3,h9,h10,v4,r4,h11,h12,v5,r5,h13,h14,h15⟩:=h
 exact⟨cs,h1,h2,v0,r0,h3,h4,v1,r1,h5,h6,v2,r2,h7,h8,v3,r3,h9,h10,v4,r4,h11,h12,v5,r5,h13,.inl ⟨Y,none,0,h14⟩,h15⟩
def Ij (d:UInt8):List UInt8→List UInt8→List ByteArray
 | cur,[]=>[mkT cur]
 | cur,c::r=>if c=d then mkT cur::Ij d [] r else Ij d (cur++[c]) r
theorem Oy (d:UInt8):∀ (l cur:List UInt8),d∉l→Ij d cur l=[mkT (cur++l)]
 | [],cur,_=>by rw[Ij,xK]
 | c::l,cur,h=>by
  simp only[yI,uU]at h
  rw[Ij,zD (Ne.symm h.1),Oy d l _ h.2]
  simp
theorem Ox (d:UInt8):∀ (l cur:List UInt8),d∈l→Ij d cur l=mkT (cur++l.take (Ke d l))::Ij d [] (l.drop (Ke d l+1))
 | [],cur,h=>by simp at h
 | c::l,cur,h=>by
  by_cases hc:c=d
  ·subst hc
   rw[Ij,zE rfl,Ke]
   simp[Lib.indexByte]
  ·have h2:d∈l:=by
    simp only[yI]at h
    exact h.resolve_left (Ne.symm hc)
   have h3:=(I3 h2).1
   have e:Ke d (c::l)=Ke d l+1:=by
    have e1:Lib.indexByte (c::l) d=Lib.indexByte l d+1:=by
     rw[Lib.indexByte.eq_def]
     dsimp only
     rw[zD (by simpa using hc),zD (by simp;omega)]
    rw[Ke,Ke,e1]
    omega
   rw[Ij,zD hc,Ox d l _ h2,e]
   simp
theorem Ss (d:UInt8) (l:List UInt8):∀ j,Ct d l (j+1)=Ct d (l.drop (Ke d l+1)) j
 | 0=>rfl
 | j+1=>by
  rw[Ct,Ss d l j]
  rfl
theorem Agk (d:UInt8):∀ (k:Nat) (l:List UInt8),l.length≤k→Cp d (mkT l)=Ij d [] l
 | 0,l,h=>by
  rw[vN.1 (by omega:l.length=0)]
  simp[Cp,Ij,Ct,mkT]
 | k+1,l,h=>by
  by_cases hd:d∈l
  ·have h1:=Ql hd
   have h2:=(I3 hd).2
   have h3:(l.drop (Ke d l+1)).length≤k:=by rw[yM];omega
   rw[Ox d l [] hd,← Agk d k _ h3]
   simp only[Cp,Je]
   rw[← h1,List.range_succ_eq_map,xV,List.map_map,wF,wG,Ss]
   congr 2
   apply tQ
   intro j _
   show mkT (S2 d l (j+1))=_
   rw[S2,S2,Ss]
  ·have h1:l.count d=0:=List.count_eq_zero.2 hd
   rw[Oy d l [] hd]
   simp[Cp,Je,h1,Ct]
theorem Agj (d:UInt8) (s:ByteArray):Cp d s=Ij d [] s.data.toList:=by
 rw[← Agk d _ _ (yC _),Jd]
def digI (c:UInt8):Int:=if 48≤c.toNat∧c.toNat≤57 then (c.toNat:Int)-48 else if 97≤c.toNat∧c.toNat≤102 then (c.toNat:Int)-87 else 16
theorem Ab7 (c:UInt8):0≤digI c∧digI c≤16:=by
 unfold digI
 split
 ·omega
 split
 ·omega
 ·omega
end Go.Sy.YtiijbikecbjdaaaGreatDoor
namespace Go.Sy
open Go.RowKit
def Asg {β:Type} (T:Nat→Prop) (J:β→World→Prop):Prop :=
 ∀ s W W' row,J s W→W.grownBy W' row→(∀ r,row=some r→T r)→J s W'
def OwnT {β:Type} (B:Nat) (T:Nat→Prop) (I:β→World→Prop):Prop :=
 ∀ s W W' row,I s W→W.grownBy W' row→(∀ r,row=some r→T r∨(B≤r∧∃ o:Obj,W.heap[r]? = some o∧o.isCells=false))→I s W'
theorem OwnT.putObj {β:Type} {B:Nat} {T:Nat→Prop} {I:β→World→Prop} (h:OwnT B T I) {s:β} {W:World} {l:Nat} {o:Obj} (o':Obj) (hs:I s W) (hB:B≤l) (hl:W.heap[l]? = some o) (ho:o.isCells=false):I s (W.putObj l o') :=
 h s W _ _ hs (grownBy_putObj' W l o') (λ r e=>by cases e;exact .inr ⟨hB,o,hl,ho⟩)
theorem OwnT.alloc {β:Type} {B:Nat} {T:Nat→Prop} {I:β→World→Prop} (h:OwnT B T I) {s:β} {W:World} (o:Obj) (hs:I s W):I s (W.alloc o) :=
 h s W _ none hs ⟨rfl,rfl,rfl,by simp,λ k hk _=>Below.heap_alloc _ _ _ hk⟩ (λ r e=>by cases e)
def Ah0 {α:Type} (F:Fence) (n:Nat) (P:Program) (g:Nat) (lb:Array Value) (encs:α→Array Value) (T:Nat→Prop) (Kp:World→World→Prop) (S Sp:List α→Prop) (N:Nat) (w:World):Prop :=
 ∀ (l:Nat) (J Jx:List α→World→Prop) (W:World),Below w.heap.size w W→Asg T J→Asg T Jx →
  (∀ pre x W1,J pre W1→pre.length<N→YieldAt F (n-1) P l (encs x) W1 λ e W' =>
   (e=.returned (.bool true)∧J (pre++[x]) W'∧Kp W1 W')∨(e=.returned (.bool false)∧Jx (pre++[x]) W')) →
  J [] W →
  CallsIn F n P g (#[.func (.yield l) #[] #[]]++lb) W λ e W'=>(∃ v,e=.returned v)∧((∃ xs,S xs∧J xs W')∨(∃ pre,Sp pre∧Jx pre W'))
theorem Mh {A B:World} {T:Nat→Prop} {row:Option Nat} {k:Nat} {o:Obj} (hg:A.grownBy B row) (hr:∀ r,row=some r→T r) (hk:¬ T k) (h:A.heap[k]? = some o):B.heap[k]? = some o:=by
 obtain ⟨_,_,_,_,h5⟩:=hg
 exact(h5 k (wP.1 h).1 (λ e=>hk (hr k e.symm))).trans h
variable {F:Fence} {n:Nat} {P:Program}
theorem Uj {α:Type} {g:Operand} {ps:Array Tmp} {assign body:Code} {Q:Exit→Act→World→Prop} {a:Act} {w:World}
  (hro:F.round=none) (h1:1≤n) {gf:Nat} {lb:Array Value} (hg:a.eval g=.func (.func gf) #[] lb) (hFg:F.fn gf) (eg:∀ args w,(callFunc gf args).run P w=.ok (.enter gf args) w)
  {encs:α→Array Value} {T:Nat→Prop} {Kp:World→World→Prop} {S Sp:List α→Prop} {N:Nat} {w0:World} (hseq:Ah0 F (n-1) P gf lb encs T Kp S Sp N w0) (hT:∀ b,T b→b<w.heap.size)
  (hKt:∀ {A B C:World},Kp A B→Kp B C→Kp A C) (hKb:∀ (W:World) (l:Nat) (o o':Obj),w.heap.size≤l→W.heap[l]? = some o→o.isCells=false→o.isWalk=false→Kp W (W.putObj l o')) (hb0:Below w0.heap.size w0 w) (hps:∀ x,(encs x).size=ps.size)
  (I:List α→World→Prop) (Ix:Code→List α→World→Prop) (hI:OwnT w.heap.size T I) (hIx:∀ c,OwnT w.heap.size T (Ix c)) (h0:I [] w) (a₁:α→Act)
  (hassign:∀ (l:Nat) (x:α) (W:World) (K:Act→World→Prop),K (a₁ x) W →
   assign.wpIn (F.inRound l) (n-1-1) P (Exit.then K (λ _ _ _=>False)) { tmps:=(ps.zip (encs x)).foldl (λ t (p,v)=>t.setIfInBounds p v) a.tmps,defers:=[] } W)
  (hbody:∀ (l:Nat) (pre:List α) (x:α) (W:World),I pre W→pre.length<N→body.wpIn (F.inRound l) (n-1-1) P (ownPostK Kp I Ix (pre++[x]) W) (a₁ x) W)
  (hdone:∀ (D:Nat) (xs:List α) (W:World),w.heap.size≤D→S xs→I xs W→W.heap[D]? = some (.deferred (some []))→Q .normal { a with defers:={ target:=.collected D,args:=#[] }::a.defers } W)
  (hstop:∀ (D:Nat) (c:Code) (pre:List α) (W:World),w.heap.size≤D→Sp pre→Ix c pre W→W.heap[D]? = some (.deferred (some []))→c.wpIn F n P Q { a with defers:={ target:=.collected D,args:=#[] }::a.defers } W) :
  (Code.rangeFunc g ps assign body).wpIn F n P Q a w:=by
 refine wpIn_rangeFunc ?_
 intro fn hfn
 rw[hro]
 obtain ⟨rec,hrec⟩:∃ rec:LoopState→Option Code→Loop,rec=λ st pe=>{ state:=st,pending:=pe,fn,tmps:=a.tmps,params:=ps,assign,body,defers:=w.heap.size }:=⟨_,rfl⟩
 obtain ⟨W1,hW1⟩:∃ W1,(w.alloc (.deferred (some []))).alloc (.loop (rec .ready none))=W1:=⟨_,rfl⟩
 have hL1:W1.heap[w.heap.size+1]? = some (.loop (rec .ready none)):=by
  rw[← hW1];have:=World.alloc_heap_new (w.alloc (.deferred (some []))) (.loop (rec .ready none));rwa [World.size_alloc]at this
 have hK1:W1.heap[w.heap.size]? = some (.deferred (some [])):=by
  rw[← hW1];exact(Below.heap_alloc _ _ _ y_).trans (World.alloc_heap_new w _)
 have hI1:I [] W1:=by rw[← hW1];exact hI.alloc _ (hI.alloc _ h0)
 have hb1:Below w0.heap.size w0 W1:=by
  rw[← hW1];exact hb0.trans ((((Below.refl _ w).alloc (yC _) _).alloc y_ _).mono hb0.size)
 have nT:∀ k,w.heap.size≤k→¬ T k:=λ k hk h=>Nat.lt_irrefl _ (yS (hT k h) hk)
 refine⟨w.heap.size+1,[{ target:=.collected w.heap.size,args:=#[] }],W1,{ target:=.fn (.func gf) lb,args:=#[.func (.yield (w.heap.size+1)) #[] #[]] },W1,gf,
  #[.func (.yield (w.heap.size+1)) #[] #[]]++lb,W1,?_,?_,?_,?_,λ _=>h1,?_⟩
 ·rw[← hW1,hrec];exact run_enterLoop_outer _ _ _ _ _
 ·simp only[resolve,hg]
  simp[go_sem]
 ·intro f' hf';simp[Target.leads]at hf';subst hf';exact hFg
 ·simp[invoke,go_sem,eg]
 ·refine(hseq (w.heap.size+1)
   (λ pre W=>I pre W∧W.heap[w.heap.size+1]? = some (.loop (rec .ready none))∧W.heap[w.heap.size]? = some (.deferred (some [])))
   (λ pre W=>∃ c,Ix c pre W∧W.heap[w.heap.size+1]? = some (.loop (rec .done (some c)))∧W.heap[w.heap.size]? = some (.deferred (some [])))
   W1 hb1
   (λ s A B row hs hg' hr=>⟨hI s A B row hs.1 hg' (λ r e=>.inl (hr r e)),Mh hg' hr (nT _ q_) hs.2.1,Mh hg' hr (nT _ q_) hs.2.2⟩)
   (λ s A B row hs hg' hr=>by
    obtain ⟨c,hc,hl,hk⟩:=hs
    exact⟨c,hIx c s A B row hc hg' (λ r e=>.inl (hr r e)),Mh hg' hr (nT _ q_) hl,Mh hg' hr (nT _ q_) hk⟩)
   ?_ ⟨hI1,hL1,hK1⟩).mono ?_
  ·rintro pre x W ⟨hi,hl,hk⟩ hlen
   have hlt:w.heap.size+1<W.heap.size:=(wP.1 hl).1
   have hy:=run_yield (P:=P) (args:=encs x) hl (by rw[hrec];exact hps x)
   rw[hrec]at hy
   refine⟨fn,_,assign,body,hy,roundIn_of_wpIn hfn (hassign _ x W _ ⟨_,run_beginRound hl (by rw[hrec]),?_⟩)⟩
   have hl2:(W.putObj (w.heap.size+1) (.loop { rec .ready none with state:=.busy })).heap[w.heap.size+1]? = some (.loop { rec .ready none with state:=.busy }):=World.putObj_heap_same hlt
   have hk2:(W.putObj (w.heap.size+1) (.loop { rec .ready none with state:=.busy })).heap[w.heap.size]? = some (.deferred (some [])):=(World.putObj_heap_other q_).trans hk
   have hw2:Kp W (W.putObj (w.heap.size+1) (.loop { rec .ready none with state:=.busy })):=hKb _ _ _ _ q_ hl rfl rfl
   refine wpIn_mono (hbody _ pre x _ (hI.putObj _ hi (uO _) hl E) hlen) ?_
   have fin:∀ (jump:Option Code) (W3:World),KeepsOthers (W.putObj (w.heap.size+1) (.loop { rec .ready none with state:=.busy })) W3 →
     (Instr.endRound (w.heap.size+1) jump).run P W3=.ok (.bool jump.isNone) (W3.putObj (w.heap.size+1) (.loop (rec (if jump.isNone then .ready else .done) jump))) ∧
     W3.heap[w.heap.size+1]? = some (.loop { rec .ready none with state:=.busy }) ∧
     (W3.putObj (w.heap.size+1) (.loop (rec (if jump.isNone then .ready else .done) jump))).heap[w.heap.size+1]? = some (.loop (rec (if jump.isNone then .ready else .done) jump)) ∧
     (W3.putObj (w.heap.size+1) (.loop (rec (if jump.isNone then .ready else .done) jump))).heap[w.heap.size]? = some (.deferred (some [])):=λ jump W3 hk3=>by
    have hl3:=hk3.same _ _ hl2 rfl
    have:=run_endRound (P:=P) jump hl3
    rw[hrec]at this ⊢
    exact⟨this,by rw[hrec]at hl3;exact hl3,World.putObj_heap_same (wP.1 hl3).1,(World.putObj_heap_other q_).trans (hk3.same _ _ hk2 E)⟩
   rintro e a3 W3 hp
   cases e with
   | normal =>
    obtain ⟨hk3,hkp3,hi3⟩:=hp
    obtain ⟨hr,hl3,hl4,hk4⟩:=fin none W3 hk3
    exact⟨_,_,hr,.inl ⟨E,⟨hI.putObj _ hi3 (uO _) hl3 E,hl4,hk4⟩,hKt (hKt hw2 hkp3) (hKb _ _ _ _ q_ hl3 E E)⟩⟩
   | ret =>
    obtain ⟨hk3,hi3⟩:=hp
    obtain ⟨hr,hl3,hl4,hk4⟩:=fin (some .ret) W3 hk3
    exact⟨_,_,hr,.inr ⟨E,.ret,(hIx _).putObj _ hi3 (uO _) hl3 E,hl4,hk4⟩⟩
   | exit id =>
    obtain ⟨hk3,hi3⟩:=hp
    obtain ⟨hr,hl3,hl4,hk4⟩:=fin (some (.exit id)) W3 hk3
    exact⟨_,_,hr,.inr ⟨E,.exit id,(hIx _).putObj _ hi3 (uO _) hl3 E,hl4,hk4⟩⟩
   | goto t =>
    obtain ⟨hk3,hi3⟩:=hp
    obtain ⟨hr,hl3,hl4,hk4⟩:=fin (some (.goto t)) W3 hk3
    exact⟨_,_,hr,.inr ⟨E,.goto t,(hIx _).putObj _ hi3 (uO _) hl3 E,hl4,hk4⟩⟩
   | panic ch=>exact hp.elim
   | outgrown=>exact hp.elim
  ·rintro e W2 ⟨⟨v,rfl⟩,(⟨xs,hS,hi,hl,hk⟩ | ⟨pre,hSp,c,hi,hl,hk⟩)⟩
   ·exact⟨none,_,by have:=run_endLoop (P:=P) hl (by rw[hrec];simp);rw[hrec]at this;exact this,hdone _ xs _ (yC _) hS (hI.putObj _ hi (uO _) hl E) ((World.putObj_heap_other q_).trans hk)⟩
   ·exact⟨some c,_,by have:=run_endLoop (P:=P) hl (by rw[hrec];simp);rw[hrec]at this;exact this,hstop _ c pre _ (yC _) hSp ((hIx c).putObj _ hi (uO _) hl E) ((World.putObj_heap_other q_).trans hk)⟩
end Go.Sy
namespace Go.Proofs
open Go.RowKit Go.Shelf Go.Sy Go.Sy.YtiijbikecbjdaaaGreatDoor
attribute [local go_sem] Oper.semAt_some
structure SeqBox (W:World) (bp bs bv:Nat) (t:ByteArray):Prop where
 p:W.cell? ⟨bp,0,none⟩=some (.string ⟨#[46]⟩)
 s:W.cell? ⟨bs,0,none⟩=some (.string t)
 v:W.cell? ⟨bv,0,none⟩=some (.int .i64 0)
 f:W.frozen? ⟨bs,0,none⟩=false
def Azg (bp bs bv:Nat) (W W':World):Prop:=W'.heap[bp]? = W.heap[bp]? ∧ W'.heap[bs]? = W.heap[bs]? ∧ W'.heap[bv]? = W.heap[bv]?
theorem SeqBox.keep {W W':World} {bp bs bv:Nat} {t:ByteArray} (h:SeqBox W bp bs bv t) (k:Azg bp bs bv W W'):SeqBox W' bp bs bv t :=
 ⟨(World.cell?_of_block k.1).trans h.p,(World.cell?_of_block k.2.1).trans h.s,(World.cell?_of_block k.2.2).trans h.v,by
  have:W'.frozen? ⟨bs,0,none⟩=W.frozen? ⟨bs,0,none⟩:=by unfold World.frozen?;rw[k.2.1]
  rw[this];exact h.f⟩
theorem Amd:∀ {l:List UInt8} {c:UInt8},c∉l→Lib.indexByte l c=-1
 | [],_,_=>rfl
 | b::l,c,h=>by
  simp only[yI,uU]at h
  rw[Lib.indexByte,zD (by simpa using Ne.symm h.1),Amd h.2]
  rfl
def Axz (bs:Nat) (W:World):Nat:=match W.cell? ⟨bs,0,none⟩ with | some (.string t)=>t.size | _=>0
set_option maxRecDepth 100000 in
set_option maxHeartbeats 4000000 in
theorem Tryz.split_stops (s:ByteArray) (hs:s.size<100000) (n:Nat) (hn:1≤n) (bp bs bv:Nat) (hd:bp≠bs∧bv≠bs) (w:World) (hw:SeqBox w bp bs bv s) (hlt:bp<w.heap.size∧bs<w.heap.size∧bv<w.heap.size) :
  Ah0 Fence.wide n Tryz.prog 293 #[.pointer (some ⟨bp,0,none⟩),.pointer (some ⟨bs,0,none⟩),.pointer (some ⟨bv,0,none⟩)] (λ x:ByteArray=>#[.string x]) (λ b=>b=bs) (Azg bp bs bv)
   (λ xs=>xs=Cp 46 s) (λ pre=>pre <+: Cp 46 s) (Cp 46 s).length w:=λ l J Jx W hW hJ hJx hY h0=>by
 refine callsIn_of_wp Tryz.func293 E Y ?_ E
 simp only[Tryz.ntmps293,uL,yN,xB,Nat.reduceAdd,Nat.reduceSub,tJ,tK,tX,tR,wG,wF]
 have hW0:SeqBox W bp bs bv s:=hw.keep ⟨hW.block _ hlt.1,hW.block _ hlt.2.1,hW.block _ hlt.2.2⟩
 have c1:=hW0.p
 have c2:=hW0.s
 have c3:=hW0.v
 gi_wp2
 gi_loopw [] (λ wr=>∃ j:Nat,j≤Aqm 46 s∧SeqBox wr bp bs bv (mkT (Ct 46 s.data.toList j))∧J ((Cp 46 s).take j) wr) (λ wr=>Axz bs wr)
 case atStart =>
  exact⟨0,xZ _,by rw[Ct,Jd];exact hW0,h0⟩
 case round =>
  obtain ⟨j,hj,hb,hJj⟩:=hrel
  have d1:=hb.p
  have d2:=hb.s
  have d3:=hb.v
  have hlr:=Aky 46 s.data.toList j
  have hsz:s.data.toList.length=s.size:=rfl
  have hwl:=J0 46 s
  have hsm:=Hr (Ct 46 s.data.toList j)
  by_cases hlt:j<Aqm 46 s
  ·have hi:=I3 (Aox hlt)
   obtain ⟨m,hm'⟩:∃ m:Nat,Lib.indexByte (Ct 46 s.data.toList j) 46=m:=⟨(Lib.indexByte (Ct 46 s.data.toList j) 46).toNat,by omega⟩
   have q:=Tryz.strings_Index_one (mkT (Ct 46 s.data.toList j)) 46 wr
   rw[Je,hm']at q
   rw[hm',yL]at hi
   have hpm:=Awz (c:=46) (s:=s) (j:=j) hm'
   have hqm:=Az4 (c:=46) (s:=s) (j:=j) hm'
   have hget:(Cp 46 s)[j]? = some (mkT (S2 46 s.data.toList j)):=by
    have hlt':j<s.data.toList.count 46:=hlt
    rw[Cp,xW (by rw[xJ,List.length_range];exact hlt'),uA,vQ hlt']
    rfl
   have hx:(mkT (Ct 46 s.data.toList j)).extract 0 m=mkT (S2 46 s.data.toList j):=by
    rw[Eg,hpm];simp
   have hx2:(mkT (Ct 46 s.data.toList j)).extract (m+1) (mkT (Ct 46 s.data.toList j)).size=mkT (Ct 46 s.data.toList (j+1)):=by
    rw[Eg,hqm,hsm,yG]
   have htk:(Cp 46 s).take j++[mkT ((Ct 46 s.data.toList j).take m)]=(Cp 46 s).take (j+1):=by
    rw[vD,hget,hpm];rfl
   obtain ⟨fn,tmps,assign,body,hy,hR⟩:=hY _ (mkT ((Ct 46 s.data.toList j).take m)) wr hJj (by rw[zX];omega)
   rw[htk]at hR
   gi_wp2
   refine⟨Y,?_⟩
   refine(callsIn_wide.2 q).mono ?_
   rintro e w' ⟨rfl,rfl⟩
   gi_wp2
   refine hR.mono ?_
   rintro e W' (⟨rfl,hJ',hk⟩ | ⟨rfl,hJx'⟩)
   ·have hb':=hb.keep hk
    have d1:=hb'.p
    have d2:=hb'.s
    have d3:=hb'.v
    have d4:=hb'.f
    have hsm1:(mkT (Ct 46 s.data.toList (j+1))).size+(m+1)=(mkT (Ct 46 s.data.toList j)).size:=by
     rw[hsm,Hr,hqm,yM];omega
    rw[hsm]at hx2
    gi_wp2
    rw[← hqm]
    have e2:(W'.setCell ⟨bs,0,none⟩ (.string (mkT (Ct 46 s.data.toList (j+1))))).cell? ⟨bs,0,none⟩=some (.string (mkT (Ct 46 s.data.toList (j+1)))):=World.cell?_setCell_same' _ _ _ (by rw[d2];rfl)
    refine⟨⟨j+1,hlt,⟨?_,e2,?_,?_⟩,hJ _ _ _ (some bs) hJ' (grownBy_setCell' _ _ _) (λ r e=>by cases e;rfl)⟩,?_⟩
    ·rw[World.cell?_setCell_other _ _ _ _ (by intro e;cases e;exact hd.1 rfl)];exact d1
    ·rw[World.cell?_setCell_other _ _ _ _ (by intro e;cases e;exact hd.2 rfl)];exact d3
    ·rw[World.frozen?_setCell];exact d4
    ·unfold Axz
     rw[e2,hb.s]
     simp only
     omega
   ·gi_wp2
    refine bodyPost_ret (results_none E _ _ _) E ?_
    exact⟨⟨_,E⟩,.inr ⟨_,List.take_prefix _ _,hJx'⟩⟩
  ·have hje:j=Aqm 46 s:=by omega
   have hno:(46:UInt8)∉Ct 46 s.data.toList j:=by
    have:=We 46 s.data.toList j hj
    have e:Aqm 46 s=s.data.toList.count 46:=rfl
    exact List.count_eq_zero.1 Go.Sy.q_
   have q:=Tryz.strings_Index_one (mkT (Ct 46 s.data.toList j)) 46 wr
   rw[Je,Amd hno]at q
   have hget:(Cp 46 s)[j]? = some (mkT (Ct 46 s.data.toList j)):=by
    rw[hje,Cp,wB (by simp[Aqm])]
    simp[Aqm]
   have htk:(Cp 46 s).take j++[mkT (Ct 46 s.data.toList j)]=Cp 46 s:=by
    have:(Cp 46 s).take (j+1)=Cp 46 s:=xC Go.Sy.q_
    rw[vD,hget]at this
    exact this
   have hlen:((Cp 46 s).take j).length<(Cp 46 s).length:=by rw[zX];omega
   clear hje
   obtain ⟨fn,tmps,assign,body,hy,hR⟩:=hY _ (mkT (Ct 46 s.data.toList j)) wr hJj hlen
   rw[htk]at hR
   gi_wp2
   refine⟨Y,?_⟩
   refine(callsIn_wide.2 q).mono ?_
   rintro e w' ⟨rfl,rfl⟩
   gi_wp2
   refine hR.mono ?_
   rintro e W' (⟨rfl,hJ',hk⟩ | ⟨rfl,hJx'⟩)
   ·gi_wp2
    go_end0
    exact⟨⟨_,E⟩,.inl ⟨_,E,hJ'⟩⟩
   ·gi_wp2
    go_end0
    exact⟨⟨_,E⟩,.inr ⟨_,List.prefix_rfl,hJx'⟩⟩
end Go.Proofs
namespace Go.Sy
open Go.RowKit
theorem Spec.calls {P:Program} {f:FuncId} {A:List SV} {R:SV} (h:Sy.Spec P f A [] R []) {w:World} {vs:List Value} (hA:RdL κ0 w A vs) :
  Calls P f vs.toArray w λ e w'=>∃ v κ',e=.returned v∧Rd κ' w' R v∧Below w.heap.size w w':=by
 refine(h κ0 w vs (inv0 w) (λ k hk=>yB rfl hk) hA (λ p hp=>by cases hp)).mono ?_
 rintro e w' ⟨v,κ',rfl,ctx,inv,hR,_⟩
 exact⟨v,κ',E,hR,Yq ctx⟩
theorem Spec.calls_tup2 {P:Program} {f:FuncId} {A:List SV} {a b:Value} (h:Sy.Spec P f A [] (.tup [.val a,.val b]) []) {w:World} {vs:List Value} (hA:RdL κ0 w A vs) :
  Calls P f vs.toArray w λ e w'=>e=.returned (.tuple #[a,b])∧Below w.heap.size w w' :=
 (h.calls hA).mono λ e w' ⟨v,κ',he,hv,hb⟩=>by
  simp only[Rd,RdL]at hv
  obtain ⟨cs,rfl,_,_,rfl,rfl,_,_,rfl,rfl,rfl⟩:=hv
  exact⟨he,hb⟩
theorem Spec.of_calls2 {P:Program} {f:FuncId} {A:List SV} {H:Obs} {a b:Value}
  (h:∀ (κ:Ka) (w:World) (vs:List Value),Inv κ w→RdL κ w A vs→H.ok κ w→Calls P f vs.toArray w λ e w'=>e=.returned (.tuple #[a,b])∧Below w.heap.size w w'):Spec P f A H (.tup [.val a,.val b]) H:=by
 intro κ w vs hi _ hr ho
 refine(h κ w vs hi hr ho).mono λ e w' hw=>?_
 obtain ⟨he,hw⟩:=hw
 have g:Grew w w':=⟨hw.os,hw.tape,hw.output,hw.size,hw.block⟩
 have st:=Zc hi g
 exact⟨.tuple #[a,b],κ,he,(Ctx.refl κ w).step st.2 st.1,st.2,by simp[Rd,RdL],λ p hp=>ObOK.step st.1 y_ p.2 (ho p hp)⟩
theorem Adx {w w':World} (h:Below w.heap.size w w'):KeepsOthers w w':=⟨h.size,λ k o hk _=>(h.block k (wP.1 hk).1).trans hk⟩
theorem Ae0 {A B:World} {row:Option Nat} {k:Nat} {v:Value} (h:A.cell? ⟨k,0,none⟩=some v) (hg:A.grownBy B row) (hr:row≠some k):B.cell? ⟨k,0,none⟩=some v∧B.frozen? ⟨k,0,none⟩=A.frozen? ⟨k,0,none⟩:=by
 obtain ⟨o,ho,_⟩:=cells_of_cell h
 obtain ⟨_,_,_,_,h5⟩:=hg
 have e:B.heap[k]? = A.heap[k]?:=h5 k (wP.1 ho).1 (λ e=>hr e.symm)
 refine⟨(World.cell?_of_block e).trans h,?_⟩
 unfold World.frozen?
 rw[e]
def Var1 (W:World) (k:Nat) (v:Value):Prop:=W.cell? ⟨k,0,none⟩=some v∧W.frozen? ⟨k,0,none⟩=false
theorem Var1.at {W:World} {B:Nat} {v:Value} {t:TypeId} (h:W.heap[B]? = some (.cells #[v] t (0,0))):Var1 W B v:=by
 constructor<;>simp[World.cell?,World.frozen?,h]
theorem Var1.below {A B:World} {k:Nat} {v:Value} (h:Var1 A k v) (hb:Below A.heap.size A B):Var1 B k v:=by
 obtain ⟨o,ho,_⟩:=cells_of_cell h.1
 have e:B.heap[k]? = A.heap[k]?:=hb.block k (wP.1 ho).1
 refine⟨(World.cell?_of_block e).trans h.1,?_⟩
 rw[← h.2]
 unfold World.frozen?
 rw[e]
theorem Var1.new (W:World) (v:Value) (t:TypeId) {k:Nat} (hk:k=W.heap.size):Var1 (W.alloc (.cells #[v] t)) k v:=by
 subst hk
 exact Var1.at (World.alloc_heap_new W _)
theorem Var1.grown {A B:World} {row:Option Nat} {k:Nat} {v:Value} (h:Var1 A k v) (hg:A.grownBy B row) (hr:row≠some k):Var1 B k v :=
 ⟨(Ae0 h.1 hg hr).1,(Ae0 h.1 hg hr).2.trans h.2⟩
theorem Var1.alloc {A:World} {k:Nat} {v:Value} (h:Var1 A k v) (o:Obj):Var1 (A.alloc o) k v:=h.grown (World.grownBy_alloc A o none) y_
theorem Var1.set {A:World} {k:Nat} {v:Value} (h:Var1 A k v) (u:Value):Var1 (A.setCell ⟨k,0,none⟩ u) k u :=
 ⟨World.cell?_setCell_same' _ _ _ (by rw[h.1];rfl),by rw[World.frozen?_setCell];exact h.2⟩
theorem Var1.other {A:World} {k b:Nat} {v:Value} (h:Var1 A k v) (hb:b≠k) (u:Value):Var1 (A.setCell ⟨b,0,none⟩ u) k v :=
 ⟨(World.cell?_setCell_other _ _ _ _ (by intro e;cases e;exact hb rfl)).trans h.1,by rw[World.frozen?_setCell];exact h.2⟩
end Go.Sy
namespace Go.Proofs
open Go.RowKit Go.Shelf Go.Sy Go.Sy.YtiijbikecbjdaaaGreatDoor
attribute [local go_sem] Oper.semAt_some
theorem Tryz.splitSeq_calls (s:ByteArray) (w:World):Calls Tryz.prog 166 #[.string s,.string ⟨#[46]⟩] w λ e w' =>
  e=.returned (.func (.func 293) #[] #[.pointer (some ⟨w.heap.size+1,0,none⟩),.pointer (some ⟨w.heap.size,0,none⟩),.pointer (some ⟨w.heap.size+2,0,none⟩)]) ∧
   w'=((w.alloc (.cells #[.string s] 9)).alloc (.cells #[.string ⟨#[46]⟩] 9)).alloc (.cells #[.int .i64 0] 3):=by
 have q:Calls Tryz.prog 224 #[.string s,.string ⟨#[46]⟩,.int .i64 0] w λ e w' =>
  e=.returned (.func (.func 293) #[] #[.pointer (some ⟨w.heap.size+1,0,none⟩),.pointer (some ⟨w.heap.size,0,none⟩),.pointer (some ⟨w.heap.size+2,0,none⟩)]) ∧
   w'=((w.alloc (.cells #[.string s] 9)).alloc (.cells #[.string ⟨#[46]⟩] 9)).alloc (.cells #[.int .i64 0] 3):=by
  refine(callsIn_wide (n:=3)).1 ?_
  refine callsIn_of_wp Tryz.func224 E Y ?_ E
  simp only[Tryz.ntmps224,uL,yN,xB,Nat.reduceAdd,Nat.reduceSub,tJ,tK,tX,tR,wG,wF]
  gi_wp2
  go_ret
  exact⟨E,E⟩
 refine(callsIn_wide (n:=3)).1 ?_
 refine callsIn_of_wp Tryz.func166 E Y ?_ E
 simp only[Tryz.ntmps166,uL,yN,xB,Nat.reduceAdd,Nat.reduceSub,tJ,tK,tX,tR,wG,wF]
 gi_wp2
 refine⟨Y,?_⟩
 refine(callsIn_wide.2 q).mono ?_
 rintro e w' ⟨rfl,rfl⟩
 gi_wp2
 go_ret
 exact⟨E,E⟩
def Abg:List ByteArray→Int
 | []=>0
 | l=>l.foldl (λ a x=>bits .or .u32 (IntKind.u32.wrap (a * 2 ^ 8)) (IntKind.u32.wrap (smallT x 255).1)) 0
def Atv (x:ByteArray):Bool:=(smallT x 255).2
def Dh (s:ByteArray):Int × Bool:=if (Cp 46 s).length=4∧(Cp 46 s).all Atv=true then (Abg (Cp 46 s),true) else (0,false)
theorem Wh (l:List ByteArray) (x:ByteArray):Abg (l++[x])=bits .or .u32 (IntKind.u32.wrap (Abg l * 2 ^ 8)) (IntKind.u32.wrap (smallT x 255).1):=by
 cases l with
 | nil=>rfl
 | cons y l=>simp[Abg]
set_option maxRecDepth 100000 in
set_option maxHeartbeats 4000000 in
theorem Tryz.addrRead_calls (s:ByteArray) (hs:s.size<100000) (w:World):Calls Tryz.prog 99 #[.string s] w λ e w'=>e=.returned (.tuple #[.int .u32 (Dh s).1,.bool (Dh s).2])∧Below w.heap.size w w':=by
 refine(callsIn_wide (n:=5)).1 ?_
 refine callsIn_of_wp_marks Tryz.func99 E Y ?_ E
 simp only[Tryz.ntmps99,uL,yN,xB,Nat.reduceAdd,Nat.reduceSub,tJ,tK,tX,tR,wG,wF]
 gi_wp2
 refine wpIn_wide.2 (wp_scope_straight ((wpIn_wide (n:=5)).1 ?_))
 gi_wp2
 refine wpIn_label ?_
 gi_wp2
 refine⟨Y,?_⟩
 refine(callsIn_wide.2 (Tryz.splitSeq_calls s _)).mono ?_
 rintro e w' ⟨rfl,rfl⟩
 gi_wp2
 obtain ⟨W0,hW0⟩:∃ W0,((((w.alloc (.cells #[.int .u32 0] 100)).alloc (.cells #[.int .i64 0] 3)).alloc (.cells #[.string s] 9)).alloc (.cells #[.string ⟨#[46]⟩] 9)).alloc (.cells #[.int .i64 0] 3)=W0:=⟨_,rfl⟩
 have hsz:W0.heap.size=w.heap.size+5:=by rw[← hW0];simp
 have hB0:Below w.heap.size w W0:=by
  rw[← hW0]
  exact(((((Below.refl _ w).alloc (yC _) _).alloc Go.Sy.y_ _).alloc (by simp;omega) _).alloc (by simp;omega) _).alloc (by simp;omega) _
 have ca:Var1 W0 w.heap.size (.int .u32 0):=by rw[← hW0];exact((((Var1.new _ _ _ rfl).alloc _).alloc _).alloc _).alloc _
 have ci:Var1 W0 (w.heap.size+1) (.int .i64 0):=by rw[← hW0];exact(((Var1.new (w.alloc _) _ _ Go.Sy.y_).alloc _).alloc _).alloc _
 have cs:Var1 W0 (w.heap.size+2) (.string s):=by rw[← hW0];exact((Var1.new ((w.alloc _).alloc _) _ _ Go.Sy.y_).alloc _).alloc _
 have cp:Var1 W0 (w.heap.size+3) (.string ⟨#[46]⟩):=by rw[← hW0];exact(Var1.new (((w.alloc _).alloc _).alloc _) _ _ Go.Sy.y_).alloc _
 have cv:Var1 W0 (w.heap.size+4) (.int .i64 0):=by rw[← hW0];exact Var1.new ((((w.alloc _).alloc _).alloc _).alloc _) _ _ Go.Sy.y_
 have cb:SeqBox W0 (w.heap.size+3) (w.heap.size+2) (w.heap.size+4) s:=⟨cp.1,cs.1,cv.1,cs.2⟩
 rw[hW0]
 clear hW0
 have hrow:∀ {k:Nat} {W:World} {row:Option Nat},k≤w.heap.size+1→(∀ r,row=some r→r=w.heap.size+2∨(W0.heap.size≤r∧∃ o:Obj,W.heap[r]? = some o∧o.isCells=false))→row≠some k:=λ hk hr e=>by
  rcases hr _ e with h | ⟨h,_⟩<;>omega
 have hge:∀ {W:World} {row:Option Nat},(∀ r,row=some r→r=w.heap.size+2∨(W0.heap.size≤r∧∃ o:Obj,W.heap[r]? = some o∧o.isCells=false))→∀ r,row=some r→w.heap.size≤r:=λ hr r e=>by
  rcases hr _ e with h | ⟨h,_⟩<;>omega
 refine Uj E Go.Sy.q_ (gf:=293) (lb:=#[.pointer (some ⟨w.heap.size+3,0,none⟩),.pointer (some ⟨w.heap.size+2,0,none⟩),.pointer (some ⟨w.heap.size+4,0,none⟩)]) E Y (enters_of Tryz.func293 Go.Sy.z_ E)
  (Tryz.split_stops s hs 4 Go.Sy.q_ (w.heap.size+3) (w.heap.size+2) (w.heap.size+4) ⟨by omega,by omega⟩ W0 cb Go.Sy.q_) (λ b hb=>by omega)
  (λ h k=>⟨k.1.trans h.1,k.2.1.trans h.2.1,k.2.2.trans h.2.2⟩)
  (λ W l o o' hl _ _ _=>⟨World.putObj_heap_other Go.Sy.q_,World.putObj_heap_other Go.Sy.q_,World.putObj_heap_other Go.Sy.q_⟩) (Below.refl _ _) (λ _=>rfl)
  (λ pre W=>Var1 W w.heap.size (.int .u32 (Abg pre))∧Var1 W (w.heap.size+1) (.int .i64 pre.length)∧(pre.length≤4∧pre.all Atv=true)∧Below w.heap.size w W∧w.heap.size+5≤W.heap.size)
  (λ c pre W=>c=.exit 0∧Var1 W (w.heap.size+1) (.int .i64 0)∧¬ (pre.length≤4∧pre.all Atv=true)∧Below w.heap.size w W)
  (λ pre A B row hs hg hr=>⟨hs.1.grown hg (hrow Go.Sy.q_ hr),hs.2.1.grown hg (hrow Go.Sy.q_ hr),hs.2.2.1,hs.2.2.2.1.grown hg hs.2.2.2.1.size (hge hr),wJ hs.2.2.2.2 hg.size⟩)
  (λ c pre A B row hs hg hr=>⟨hs.1,hs.2.1.grown hg (hrow Go.Sy.q_ hr),hs.2.2.1,hs.2.2.2.grown hg hs.2.2.2.size (hge hr)⟩)
  ⟨ca,ci,⟨by simp,rfl⟩,hB0,by omega⟩
  (λ x=>{ tmps:=#[.string s,undef,.int .u32 0,.bool false,.pointer (some ⟨w.heap.size,0,none⟩),.pointer (some ⟨w.heap.size+1,0,none⟩),.string x,undef,undef,.string s,
   .func (.func 293) #[] #[.pointer (some ⟨w.heap.size+3,0,none⟩),.pointer (some ⟨w.heap.size+2,0,none⟩),.pointer (some ⟨w.heap.size+4,0,none⟩)],.string x,
   undef,undef,undef,undef,undef,undef,undef,undef,undef,undef,undef,undef,undef,undef,undef,undef,undef,undef,undef,undef,undef],defers:=[] }) ?assign ?body ?done ?stop
 case assign =>
  intro l x W K hK
  gi_wp2
  exact hK
 case body =>
  rintro l pre x W ⟨ha,hi,⟨hp1,hp2⟩,hB,hB5⟩ _
  have q:=(Afa x 255).calls_tup2 (w:=W) (vs:=[.string x,.int .i64 255]) (by simp only[RdL];exact⟨_,_,rfl,by simp[Rd,Ao],_,_,rfl,by simp[Rd,Aa],rfl⟩)
  have hsn:=Wh pre x
  have hal:((pre++[x]).all Atv)=Atv x:=by rw[List.all_append,hp2];simp
  have hll:(pre++[x]).length=pre.length+1:=by simp
  have hox:Atv x=(smallT x 255).2:=rfl
  generalize smallT x 255=sm at *
  obtain ⟨v,ok⟩:=sm
  dsimp only at hsn hox q
  gi_wp2
  refine⟨Y,?_⟩
  refine(CallsIn.inRound l (callsIn_wide.2 q)).mono ?_
  rintro e w' ⟨rfl,hb⟩
  have ha':=ha.below hb
  have hi':=hi.below hb
  have hB':Below w.heap.size w w':=hB.trans (hb.mono hB.size)
  have hk1:=Adx hb
  have a1:=ha'.1
  have a2:=ha'.2
  have b1:=hi'.1
  have b2:=hi'.2
  have s1:∀ (u v:Value),Below w.heap.size w ((w'.setCell ⟨w.heap.size+1,0,none⟩ u).setCell ⟨w.heap.size+1,0,none⟩ v):=λ u v =>
   (hB'.setCell (p:=⟨w.heap.size+1,0,none⟩) (uO _) u).setCell (p:=⟨w.heap.size+1,0,none⟩) (uO _) v
  cases ok
  ·gi_wp2
   exact⟨hk1.trans ((KeepsOthers.setCell _ _ _).trans (KeepsOthers.setCell _ _ _)),rfl,(hi'.set _).set _,(λ e=>by rw[hal,hox]at e;cases e.2),s1 _ _⟩
  ·by_cases h4:pre.length+1≤4
   ·have hsn':Abg (pre++[x])=bits .or .u32 (Abg pre * 256 % 4294967296) (v % 4294967296):=by rw[hsn,IntKind.wrap_u32,IntKind.wrap_u32];rfl
    gi_wp2
    refine⟨hk1.trans ((KeepsOthers.setCell _ _ _).trans (KeepsOthers.setCell _ _ _)),⟨?_,?_,?_⟩,?_,?_,⟨by omega,by rw[hal,hox]⟩,?_,?_⟩
    ·rw[Below.heap_setCell _ _ _ _ Go.Sy.y_,Below.heap_setCell _ _ _ _ Go.Sy.y_]
     exact hb.block _ Go.Sy.q_
    ·rw[Below.heap_setCell _ _ _ _ Go.Sy.y_,Below.heap_setCell _ _ _ _ Go.Sy.y_]
     exact hb.block _ Go.Sy.q_
    ·rw[Below.heap_setCell _ _ _ _ Go.Sy.y_,Below.heap_setCell _ _ _ _ Go.Sy.y_]
     exact hb.block _ Go.Sy.q_
    ·rw[hsn']
     exact(ha'.other Go.Sy.y_ _).set _
    ·rw[hll]
     exact(hi'.set _).other Go.Sy.y_ _
    ·exact(hB'.setCell (p:=⟨w.heap.size+1,0,none⟩) (uO _) _).setCell (p:=⟨w.heap.size,0,none⟩) (yC _) _
    ·have:=hb.size
     simp
     omega
   ·gi_wp2
    exact⟨hk1.trans ((KeepsOthers.setCell _ _ _).trans (KeepsOthers.setCell _ _ _)),E,(hi'.set _).set _,λ e=>by omega,s1 _ _⟩
 case done =>
  rintro D xs W hD rfl ⟨ha,hi,⟨hp1,hp2⟩,hB,_⟩ hK
  have a1:=ha.1
  have a2:=ha.2
  have b1:=hi.1
  have b2:=hi.2
  by_cases h4:(Cp 46 s).length=4
  ·have hr:Dh s=(Abg (Cp 46 s),true):=by rw[Dh,zE ⟨h4,hp2⟩]
   gi_wp2
   refine⟨by simp,.inl ⟨_,_,E,run_takeDeferred hK,?_⟩⟩
   exact⟨_,results_tmp2 E _ _ _,by rw[hr];rfl,hB.trans (belowK_b (w:=w) (yC _) W D _ _ Go.Sy.q_ hK E E)⟩
  ·have hr:Dh s=(0,false):=by rw[Dh,zD (λ e=>h4 e.1)]
   gi_wp2
   refine⟨by simp,.inl ⟨_,_,E,run_takeDeferred hK,?_⟩⟩
   exact⟨_,results_tmp2 E _ _ _,by rw[hr];rfl,hB.trans (belowK_b (w:=w) (yC _) W D _ _ Go.Sy.q_ hK E E)⟩
 case stop =>
  rintro D c pre W hD hpre ⟨rfl,hi,hbad,hB⟩ hK
  have b1:=hi.1
  have b2:=hi.2
  have hr:Dh s=(0,false):=by
   rw[Dh,zD]
   intro e
   refine hbad ⟨by have:=hpre.length_le;omega,?_⟩
   rw[yT]at e ⊢
   exact λ x hx=>e.2 x (hpre.subset hx)
  gi_wp2
  refine⟨by simp,.inl ⟨_,_,E,run_takeDeferred hK,?_⟩⟩
  exact⟨_,results_tmp2 E _ _ _,by rw[hr];rfl,hB.trans (belowK_b (w:=w) (yC _) W D _ _ Go.Sy.q_ hK E E)⟩
end Go.Proofs
namespace Go.Sy.YtiijbikecbjdaaaGreatDoor
open Go.Proofs
theorem Zz (s:ByteArray) (hs:s.size<100000):Sp 99 [Ao s] (.tup [A6 (Dh s).1,Ab (Dh s).2]) :=
 Spec.of_calls2 λ κ w vs _ hr _=>by
  simp only[RdL]at hr
  obtain ⟨v,r,rfl,hv,rfl⟩:=hr
  simp only[Ao,Rd]at hv
  subst hv
  exact Tryz.addrRead_calls s hs w
end Go.Sy.YtiijbikecbjdaaaGreatDoor
namespace Go.Sy.YtiijbikecbjdaaaGreatDoor
open Go.Proofs
attribute [local irreducible] Go.Sy.G Go.Sy.DR
set_option maxRecDepth 100000
set_option maxHeartbeats 4000000
def Lk (a bits:Int):SV:=.agg [A6 a,Aa bits]
theorem Afb (a bits:Int):Sp 227 [Lk a bits] (Ab (decide (0≤bits∧bits≤32))):=cT F227 Tryz.ntmps227 λ F hF=>by
 conv=>whnf
 (repeat' (first | (refine⟨λ h=>?_,λ h=>?_⟩<;>(repeat (first | simp only[zQ]at h | simp only[zY]at h))<;>((refine oO ?_))) | (refine Aq rfl (.cons .tmp .nil) ?_ rfl)))
 all_goals (refine zG Ab ?_;clear hF;grind)
theorem Ahy (a bits:Int) (h:0≤bits∧bits≤32):Sp 228 [Lk a bits] (A6 (2 ^ (32-bits).toNat-1)):=cT F228 Tryz.ntmps228 λ F hF=>by
 conv=>whnf
 refine iW ?_
 refine⟨by omega,?_⟩
 conv=>whnf
 refine Aq E (.cons .tmp .nil) ?_ E
 refine zG (λ z=>SV.val (.int .u32 z)) ?_
 obtain ⟨k,hk,hk2⟩:∃ k:Nat,(32-bits).toNat=k∧k≤32:=⟨_,rfl,by omega⟩
 have h1:min (32-bits).toNat IntKind.u32.bits=k:=by show min (32-bits).toNat 32=k;omega
 rw[h1,hk,IntKind.wrap_u32,IntKind.wrap_u32]
 have h2:(2:Int) ^ k≤4294967296:=by
  have:=wS (n:=2) j_ hk2
  rw[show (2:Int) ^ k=((2 ^ k:Nat):Int) by rw[uK];rfl]
  have e:(2:Nat) ^ 32=4294967296:=rfl
  rw[e]at this
  omega
 have h0:(1:Int)≤2 ^ k:=by
  have:=wU (n:=k)
  rw[show (2:Int) ^ k=((2 ^ k:Nat):Int) by rw[uK];rfl]
  omega
 generalize (2:Int) ^ k=q at *
 omega
theorem Ae6 (a k:Nat) (ha:a<4294967296) (hk:k≤32):bits .andNot .u32 (a:Int) ((2 ^ k-1:Nat):Int)=((a-a % 2 ^ k:Nat):Int):=by
 have hp:=wS (n:=2) j_ hk
 have e32:(2:Nat) ^ 32=4294967296:=rfl
 rw[e32]at hp
 have h1:=wU (n:=k)
 have x1:(BitVec.ofInt 32 (a:Int)).toNat=a:=by rw[BitVec.ofInt_natCast,BitVec.toNat_ofNat];exact xU q_
 have x2:(BitVec.ofInt 32 ((2 ^ k-1:Nat):Int)).toNat=2 ^ k-1:=by rw[BitVec.ofInt_natCast,BitVec.toNat_ofNat];exact xU q_
 have key:(BitVec.ofInt 32 (a:Int) &&& ~~~ BitVec.ofInt 32 ((2 ^ k-1:Nat):Int)).toNat=a-a % 2 ^ k:=by
  have hd:a-a % 2 ^ k=2 ^ k * (a / 2 ^ k):=by have:=vR a (2 ^ k);omega
  rw[hd]
  refine Nat.eq_of_testBit_eq λ i=>?_
  rw[BitVec.testBit_toNat,BitVec.getLsbD_and,BitVec.getLsbD_not,← BitVec.testBit_toNat,← BitVec.testBit_toNat,x1,x2,Nat.testBit_two_pow_sub_one,Nat.testBit_two_pow_mul,Nat.testBit_div_two_pow]
  by_cases hi:i<k
  ·have:¬ i≥k:=by omega
   simp[hi,this]
  ·have h2:i≥k:=by omega
   have h3:i-k+k=i:=by omega
   by_cases h4:i<32
   ·simp[hi,h2,h4,h3]
   ·have h5:a.testBit i=false:=Nat.testBit_lt_two_pow (yS (by rw[← e32]at ha;exact ha) (wS j_ q_))
    rw[h3,h5]
    simp
 show IntKind.u32.wrap (((BitVec.ofInt 32 (a:Int) &&& ~~~ BitVec.ofInt 32 ((2 ^ k-1:Nat):Int)).toNat:Nat):Int)=_
 rw[key,IntKind.wrap_u32]
 omega
theorem Jw (a k:Nat) (bits:Int) (h:0≤bits∧bits≤32) (hk:(32-bits).toNat=k):Ib a bits=((a-a % 2 ^ k:Nat):Int):=by
 rw[Ib,zE h,hk]
 have h1:=Nat.mod_le a (2 ^ k)
 rw[show (2:Int) ^ k=((2 ^ k:Nat):Int) by rw[uK];rfl]
 omega
theorem Afd (a:Nat) (bits:Int) (ha:a<4294967296):Sp 170 [Lk a bits] (A6 (Ib a bits)):=cT F170 Tryz.ntmps170 λ F hF=>by
 have hr:=Afb a bits
 by_cases hb:0≤bits∧bits≤32
 ·have hrest:=Ahy a bits hb
  rw[zR hb]at hr
  obtain ⟨k,hk,hk2⟩:∃ k:Nat,(32-bits).toNat=k∧k≤32:=⟨_,rfl,by omega⟩
  have hn:=Ae6 a k ha hk2
  have hf:=Jw a k bits hb hk
  have h1:=wU (n:=k)
  have e2:(2:Int) ^ k-1=((2 ^ k-1:Nat):Int):=by
   rw[show (2:Int) ^ k=((2 ^ k:Nat):Int) by rw[uK];rfl]
   omega
  rw[hk,e2]at hrest
  rw[hf,← hn]
  refine fW ?_
  refine c0 hr F227 ?_
  refine fU ?_
  first | refine cD hrest F228 ?_ | refine c0 hrest F228 ?_
  refine fU ?_
  first | (refine⟨z_,?_⟩;(refine fW ?_)) | skip
  exact dN
 ·rw[zI hb]at hr
  have hf:Ib a bits=0:=by rw[Ib,zD hb]
  rw[hf]
  refine fW ?_
  refine c0 hr F227 ?_
  refine fU ?_
  exact dN
def Lr (a bits:Int):Int:=if 0≤bits∧bits≤32 then Ib a bits+2 ^ (32-bits).toNat-1 else 0
theorem or_low (a k:Nat) (ha:a<4294967296) (hk:k≤32):bits .or .u32 (a:Int) ((2 ^ k-1:Nat):Int)=((a-a % 2 ^ k+(2 ^ k-1):Nat):Int):=by
 have hp:=wS (n:=2) j_ hk
 have e32:(2:Nat) ^ 32=4294967296:=rfl
 rw[e32]at hp
 have h1:=wU (n:=k)
 have x1:(BitVec.ofInt 32 (a:Int)).toNat=a:=by rw[BitVec.ofInt_natCast,BitVec.toNat_ofNat];exact xU q_
 have x2:(BitVec.ofInt 32 ((2 ^ k-1:Nat):Int)).toNat=2 ^ k-1:=by rw[BitVec.ofInt_natCast,BitVec.toNat_ofNat];exact xU q_
 have hd:a-a % 2 ^ k=2 ^ k * (a / 2 ^ k):=by have:=vR a (2 ^ k);omega
 have hsum:=xD (i:=k) (b:=2 ^ k-1) q_ (a / 2 ^ k)
 have key:(BitVec.ofInt 32 (a:Int) ||| BitVec.ofInt 32 ((2 ^ k-1:Nat):Int)).toNat=a-a % 2 ^ k+(2 ^ k-1):=by
  rw[hd,hsum]
  refine Nat.eq_of_testBit_eq λ i=>?_
  rw[BitVec.testBit_toNat,BitVec.getLsbD_or,← BitVec.testBit_toNat,← BitVec.testBit_toNat,x1,x2,Nat.testBit_or,Nat.testBit_two_pow_sub_one,Nat.testBit_two_pow_mul,Nat.testBit_div_two_pow]
  by_cases hi:i<k
  ·simp[hi]
  ·have h2:i≥k:=by omega
   have h3:i-k+k=i:=by omega
   simp[hi,h2,h3]
 show IntKind.u32.wrap (((BitVec.ofInt 32 (a:Int) ||| BitVec.ofInt 32 ((2 ^ k-1:Nat):Int)).toNat:Nat):Int)=_
 have hlt:(BitVec.ofInt 32 (a:Int) ||| BitVec.ofInt 32 ((2 ^ k-1:Nat):Int)).toNat<4294967296:=BitVec.isLt _
 rw[key]at hlt
 rw[key,IntKind.wrap_u32]
 omega
theorem Zq (a k:Nat) (bits:Int) (h:0≤bits∧bits≤32) (hk:(32-bits).toNat=k):Lr a bits=((a-a % 2 ^ k+(2 ^ k-1):Nat):Int):=by
 rw[Lr,zE h,hk,Jw a k bits h hk]
 have h1:=wU (n:=k)
 rw[show (2:Int) ^ k=((2 ^ k:Nat):Int) by rw[uK];rfl]
 omega
theorem Z0 (a:Nat) (bits:Int) (ha:a<4294967296):Sp 171 [Lk a bits] (A6 (Lr a bits)):=cT F171 Tryz.ntmps171 λ F hF=>by
 have hr:=Afb a bits
 by_cases hb:0≤bits∧bits≤32
 ·have hrest:=Ahy a bits hb
  rw[zR hb]at hr
  obtain ⟨k,hk,hk2⟩:∃ k:Nat,(32-bits).toNat=k∧k≤32:=⟨_,rfl,by omega⟩
  have hn:=or_low a k ha hk2
  have hf:=Zq a k bits hb hk
  have h1:=wU (n:=k)
  have e2:(2:Int) ^ k-1=((2 ^ k-1:Nat):Int):=by
   rw[show (2:Int) ^ k=((2 ^ k:Nat):Int) by rw[uK];rfl]
   omega
  rw[hk,e2]at hrest
  rw[hf,← hn]
  refine fW ?_
  refine c0 hr F227 ?_
  refine fU ?_
  first | refine cD hrest F228 ?_ | refine c0 hrest F228 ?_
  refine fU ?_
  first | (refine⟨z_,?_⟩;(refine fW ?_)) | skip
  exact dN
 ·rw[zI hb]at hr
  have hf:Lr a bits=0:=by rw[Lr,zD hb]
  rw[hf]
  refine fW ?_
  refine c0 hr F227 ?_
  refine fU ?_
  exact dN
theorem Azl (a b:Nat) (ha:a<4294967296) (hb:b<4294967296):bits .xor .u32 (a:Int) (b:Int)=((a ^^^ b:Nat):Int):=by
 have x1:(BitVec.ofInt 32 (a:Int)).toNat=a:=by rw[BitVec.ofInt_natCast,BitVec.toNat_ofNat];exact xU q_
 have x2:(BitVec.ofInt 32 (b:Int)).toNat=b:=by rw[BitVec.ofInt_natCast,BitVec.toNat_ofNat];exact xU q_
 show IntKind.u32.wrap (((BitVec.ofInt 32 (a:Int) ^^^ BitVec.ofInt 32 (b:Int)).toNat:Nat):Int)=_
 have hlt:(BitVec.ofInt 32 (a:Int) ^^^ BitVec.ofInt 32 (b:Int)).toNat<4294967296:=BitVec.isLt _
 rw[BitVec.toNat_xor,x1,x2]at hlt ⊢
 rw[IntKind.wrap_u32]
 omega
theorem Axq (a x k:Nat) (ha:a<4294967296) (hx:x<4294967296) (hk:k≤32):(bits .andNot .u32 (bits .xor .u32 (a:Int) (x:Int)) ((2 ^ k-1:Nat):Int) == 0)=decide (a / 2 ^ k=x / 2 ^ k):=by
 have hxl:a ^^^ x<4294967296:=Nat.xor_lt_two_pow (n:=32) ha hx
 rw[Azl a x ha hx,Ae6 _ k hxl hk]
 have hd:(a ^^^ x)-(a ^^^ x) % 2 ^ k=2 ^ k * ((a ^^^ x) / 2 ^ k):=by have:=vR (a ^^^ x) (2 ^ k);omega
 rw[hd,Nat.xor_div_two_pow]
 have h1:=wU (n:=k)
 by_cases h:a / 2 ^ k=x / 2 ^ k
 ·rw[h,Nat.xor_self]
  simp
 ·rw[zI h]
  have:a / 2 ^ k ^^^ x / 2 ^ k≠0:=λ e=>h (by
   have:=zG (λ z=>z ^^^ x / 2 ^ k) e
   simpa [Nat.xor_assoc] using this)
  rw[zL]
  intro e
  have e:=Int.natCast_eq_zero.1 e
  rcases Nat.mul_eq_zero.1 e with e | e
  ·omega
  ·exact this e
theorem Atb (a x q:Nat) (hq:0<q):(a / q=x / q)↔(a-a % q≤x∧x≤a-a % q+(q-1)):=by
 have h1:=vR a q
 have hd:a-a % q=q * (a / q):=by omega
 rw[hd]
 constructor
 ·intro e
  have h2:=vR x q
  have h3:=tG x hq
  rw[← e]at h2
  omega
 ·rintro ⟨h2,h3⟩
  symm
  rw[Nat.div_eq_iff hq]
  generalize a / q=m at *
  have:q * m=m * q:=vH ..
  constructor<;>omega
def C8 (n:Net):Prop:=∀ x∈n.irbs,0≤x.addr∧x.addr<4294967296
end Go.Sy.YtiijbikecbjdaaaGreatDoor
namespace Go.Sy.YtiijbikecbjdaaaGreatDoor
theorem Ap4 {α:Type} {l:List α} {i:Nat} {d:α} (h:i<l.length):l.getD i d=l[i]:=by simp[List.getD,h]
theorem Amk {n:Nat} (h:n≤65535):Jr n=n:=by
 unfold Jr
 split<;>omega
theorem Ap6 {n:Nat} (h:65535<n):Jr (n / 65536+n % 65536)=Jr n∧n / 65536+n % 65536<n:=by
 unfold Jr
 rw[zD q_,zD q_]
 omega
theorem Aym (n:Nat):Jr n≤65535:=by
 unfold Jr
 split<;>omega
def Wl (l:List UInt8):Nat→Nat
 | 0=>0
 | j+1=>Wl l j+((l.getD (2 * j) 0).toNat * 256+(l.getD (2 * j+1) 0).toNat)
theorem Aqz (l:List UInt8):∀ j,Wl l j≤65535 * j
 | 0=>yC _
 | j+1=>by
  have ih:=Aqz l j
  have h1:=(l.getD (2 * j) 0).toNat_lt
  have h2:=(l.getD (2 * j+1) 0).toNat_lt
  rw[Wl]
  omega
def Aq7 (l:List UInt8):Nat:=65535-Jr (Wl l (l.length / 2))
end Go.Sy.YtiijbikecbjdaaaGreatDoor
namespace Go.Sy.YtiijbikecbjdaaaGreatDoor
open Go.Proofs
attribute [local irreducible] Go.Sy.G Go.Sy.DR
set_option maxRecDepth 100000
set_option maxHeartbeats 4000000
theorem Jz (a b:Nat) (ha:a<9223372036854775808) (hb:b<9223372036854775808):bits .and .i64 (a:Int) (b:Int)=((a &&& b:Nat):Int):=by
 have hx:a &&& b<2 ^ 63:=Nat.lt_of_le_of_lt Nat.and_le_left ha
 have h1:(BitVec.ofInt 64 (a:Int)).toNat=a:=by
  rw[BitVec.ofInt_natCast,BitVec.toNat_ofNat];exact xU q_
 have h2:(BitVec.ofInt 64 (b:Int)).toNat=b:=by
  rw[BitVec.ofInt_natCast,BitVec.toNat_ofNat];exact xU q_
 show IntKind.i64.wrap ((BitVec.ofInt 64 (a:Int) &&& BitVec.ofInt 64 (b:Int)).toNat:Int)=_
 rw[BitVec.toNat_and,h1,h2,IntKind.wrap_i64]
 omega
theorem Ed (a b:Nat) (ha:a<9223372036854775808) (hb:b<9223372036854775808):bits .or .i64 (a:Int) (b:Int)=((a ||| b:Nat):Int):=by
 have hx:a ||| b<2 ^ 63:=Nat.or_lt_two_pow q_ q_
 have h1:(BitVec.ofInt 64 (a:Int)).toNat=a:=by
  rw[BitVec.ofInt_natCast,BitVec.toNat_ofNat];exact xU q_
 have h2:(BitVec.ofInt 64 (b:Int)).toNat=b:=by
  rw[BitVec.ofInt_natCast,BitVec.toNat_ofNat];exact xU q_
 show IntKind.i64.wrap ((BitVec.ofInt 64 (a:Int) ||| BitVec.ofInt 64 (b:Int)).toNat:Int)=_
 rw[BitVec.toNat_or,h1,h2,IntKind.wrap_i64]
 omega
theorem Ara (n k:Nat) (hk:k<64):(n:Int).fdiv (2 ^ (min (Int.toNat (k:Int)) IntKind.i64.bits))=((n / 2 ^ k:Nat):Int):=by
 have h1:min (Int.toNat (k:Int)) IntKind.i64.bits=k:=by simp[IntKind.bits];omega
 rw[h1,wC _ (by exact Int.pow_nonneg j_)]
 simp
theorem A06 (n:Nat) (h:n<9223372036854775808):bits .and .i64 (n:Int) 65535=((n % 65536:Nat):Int):=by
 have:=Jz n 65535 h j_
 rw[show ((65535:Nat):Int)=65535 from rfl]at this
 rw[this]
 have h2:=vW n 16
 rw[show 2 ^ 16-1=65535 from rfl,show 2 ^ 16=65536 from rfl]at h2
 rw[h2]
theorem Aus (n:Nat) (h:n<9223372036854775808):Sq 380 [.ptr 0 0] [(0,.box [Aa n])] (.tup []) [(0,.box [Aa (n / 65536+n % 65536:Nat)])]:=cT F380 Tryz.ntmps380 λ F hF=>by
 have e1:(n:Int).fdiv (2 ^ (min (Int.toNat 16) IntKind.i64.bits))=((n / 65536:Nat):Int):=Ara n 16 j_
 have e2:=A06 n h
 conv=>whnf
 first | (refine⟨by omega,?_⟩;(conv=>whnf)) | skip
 rw[e1,e2]
 refine iW ?_
 exact A1 E .nil [] [(0,.box [Aa (n / 65536+n % 65536:Nat)])] (λ _ h=>h) E E ⟨Y,⟨.inl E,E,Y⟩,E,E⟩
theorem Av2 (n:Nat) (h:n<9223372036854775808):Sp 354 [Aa n] (Aa (Jr n)):=cT F354 Tryz.ntmps354 λ F hF=>by
 conv=>whnf
 refine Tv (α:={m:Nat // Jr m=Jr n∧m≤n}) (λ m=>[(3,.clo (.func 380) [] [.ptr 1 0]),(1,.ptr 1 0)]) (λ m=>[(1,.box [Aa m.1])]) (λ m=>m.1) ⟨n,E,yC _⟩ []
  ⟨⟨rfl,rfl,rfl,rfl,trivial⟩,⟨.inl rfl,rfl,trivial⟩,rfl,rfl⟩ ?_
 rintro ⟨m,h1,h2⟩
 dsimp only
 refine oO ?_
 constructor<;>intro h3
 ·have hmm:65535<m:=by have:=zK h3;omega
  obtain ⟨g1,g2⟩:=Ap6 hmm
  refine oO ?_
  refine Af (As [(0,1)] (At E E F380) (Aus m q_) E ⟨E,Y⟩ E ⟨.inl E,Y⟩) E E ?_
  refine oO ?_
  exact Vl (α:={m:Nat // Jr m=Jr n∧m≤n}) (x:=⟨m,h1,h2⟩) ⟨m / 65536+m % 65536,by rw[g1,h1],by omega⟩ [] g2 ⟨⟨E,E,E,E,Y⟩,⟨.inl E,E,Y⟩,E,E⟩
 ·have hmm:m≤65535:=by have:=zT h3;omega
  have e:Jr n=m:=by rw[← h1,Amk hmm]
  refine oO ?_
  refine Aq E (.cons .tmp .nil) ?_ E
  exact zG (λ z:Nat=>Aa z) e
theorem H4 (a b:UInt8):bits .or .i64 (IntKind.i64.wrap ((IntKind.i64.wrap (a.toNat:Int)) * 2 ^ min (Int.toNat 8) IntKind.i64.bits)) (IntKind.i64.wrap (b.toNat:Int))=((a.toNat * 256+b.toNat:Nat):Int):=by
 have h1:=a.toNat_lt
 have h2:=b.toNat_lt
 have e1:IntKind.i64.wrap (a.toNat:Int)=(a.toNat:Int):=by rw[IntKind.wrap_i64];omega
 have e2:IntKind.i64.wrap (b.toNat:Int)=(b.toNat:Int):=by rw[IntKind.wrap_i64];omega
 rw[e1,e2]
 have h3:IntKind.i64.wrap ((a.toNat:Int) * 2 ^ min (Int.toNat 8) IntKind.i64.bits)=((a.toNat * 256:Nat):Int):=by
  show IntKind.i64.wrap ((a.toNat:Int) * 256)=_
  rw[IntKind.wrap_i64]
  omega
 rw[h3,Ed _ _ q_ q_]
 congr 1
 have h:=xD (i:=8) (b:=b.toNat) q_ a.toNat
 rw[vH a.toNat 256]
 exact h.symm
theorem Aq8 (l:List UInt8) (hl:l.length<100000) (h2:l.length % 2=0):Sp 291 [.sl 1 Ah l] (Aa (Jr (Wl l (l.length / 2)))):=cT F291 Tryz.ntmps291 λ F hF=>by
 conv=>whnf
 refine A9 (l.length / 2) (λ j=>[(0,.sl 1 Ah l),(3,Aa (Wl l j)),(4,Aa (2 * (j:Int)))]) (λ _=>[]) [] ⟨⟨E,E,E,E,E,E,Y⟩,Y,E,E⟩ ?_
 intro j hj
 have hw:=Aqz l j
 refine oO ?_
 refine iW ?_
 constructor<;>intro h
 ·have hlt:2 * j+1<l.length:=qA h
  have hs:Wl l (j+1)=Wl l j+((l[2 * j]'q_).toNat * 256+(l[2 * j+1]'hlt).toNat):=by
   rw[Wl,Ap4 (show 2 * j<l.length by omega),Ap4 hlt]
  have e1:l[(2 * (j:Int)).toNat]'q_=l[2 * j]'q_:=by congr 1
  have e2:l[(2 * (j:Int)+1).toNat]'q_=l[2 * j+1]'hlt:=by congr 1
  have hp:=H4 (l[2 * j]'q_) (l[2 * j+1]'hlt)
  have hb1:=(l[2 * j]'q_).toNat_lt
  have hb2:=(l[2 * j+1]'hlt).toNat_lt
  rw[← e1,← e2]at hp hs
  rw[← e1]at hb1
  rw[← e2]at hb2
  refine oO ?_
  refine⟨E,by omega,by omega,?_⟩
  conv=>whnf
  refine⟨by omega,?_⟩
  conv=>whnf
  refine iW ?_
  refine⟨E,by omega,by omega,?_⟩
  conv=>whnf
  refine⟨(by rw[hp];unfold I64;omega),?_⟩
  conv=>whnf
  refine kW ?_
  refine iW ?_
  refine A2 [] q_ ⟨⟨E,E,zG (λ z=>SV.val (.int .i64 z)) ?_,E,zG (λ z=>SV.val (.int .i64 z)) ?_,E,Y⟩,Y,E,E⟩
  ·rw[hp,hs];omega
  ·omega
 have hjl:j=l.length / 2:=by
  have:=zT h
  omega
 have hpar:¬ bits .and .i64 (l.length:Int) 1=1:=by
  have:=Jz l.length 1 q_ j_
  rw[show ((1:Nat):Int)=1 from rfl]at this
  rw[this,Nat.and_one_is_mod,h2]
  decide
 have hd:=Av2 (Wl l j) q_
 rw[hjl]at hd ⊢
 clear hjl
 refine oO ?_
 refine⟨λ h=>yB (zK h) hpar,λ _=>?_⟩
 refine oO ?_
 refine c0 hd F354 ?_
 refine oO ?_
 exact dN
theorem sumOfS (l:List UInt8) (hl:l.length<100000) (h2:l.length % 2=0):Sp 218 [.sl 1 Ah l] (Aa (Aq7 l)):=cT F218 Tryz.ntmps218 λ F hF=>by
 have ha:=Aq8 l hl h2
 have hle:=Aym (Wl l (l.length / 2))
 conv=>whnf
 refine c0 ha F291 ?_
 refine oO ?_
 refine iW ?_
 refine Aq E (.cons .tmp .nil) ?_ E
 refine zG Aa ?_
 rw[Aq7]
 omega
end Go.Sy.YtiijbikecbjdaaaGreatDoor
