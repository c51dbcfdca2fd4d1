/-
  O4 Y9 G1 VD1 G2 G3 G4 G5 G6 G7 G8 VD5 RS VD3 H2 H3 H4 VD6 VD2 VD7: parts of a proof, joined by program.
-/
import Derived.Test.YtiijbikecbjdaaaGreatDoorXU4
import Derived.Test.YtiijbikecbjdaaaGreatDoorXU11
import Derived.Test.YtiijbikecbjdaaaGreatDoorXU14
import Derived.Test.YtiijbikecbjdaaaGreatDoorXU7
import Derived.Test.YtiijbikecbjdaaaGreatDoorXU10
import Derived.Test.YtiijbikecbjdaaaGreatDoorXU15
import Derived.Test.YtiijbikecbjdaaaGreatDoorXU13
import Derived.Test.YtiijbikecbjdaaaGreatDoorXU5
import Derived.Test.YtiijbikecbjdaaaGreatDoorXU8
import Derived.Test.YtiijbikecbjdaaaGreatDoorXU16
import Derived.Test.YtiijbikecbjdaaaGreatDoorXU17
set_option linter.all false
set_option linter.unusedVariables false
set_option linter.unusedSimpArgs false
set_option linter.deprecated false
namespace Go.Sy.YtiijbikecbjdaaaGreatDoor
open Go.Proofs Go.ChangeShapes Go.WideShapes Go.ChangeAt Go.RowKit
set_option maxRecDepth 100000
section
variable {H:Type} {enc:TypeId × Value→H} {W:World}
def SeenM.In (x:SeenM):Prop:=wI .i64 x.port∧wI .i64 x.origin∧((∀ y∈x.bytes,True)∧x.bytes.length≤maxLen)
def EntryM.In (x:EntryM):Prop:=x.mac<18446744073709551616∧wI .i64 x.where_∧wI .i64 x.seen
end
end Go.Sy.YtiijbikecbjdaaaGreatDoor
namespace Go.Sy.YtiijbikecbjdaaaGreatDoor
open Go.Proofs
def O7 (n:Net) (of:List Int):Bool :=
 decide (of.length=n.ports.length) && Ac n && (List.range of.length).all λ i=>if (nth n.ports (i:Int)).link<0 then decide (0≤nth of (i:Int)) && decide (nth of (i:Int)≤9) else decide (nth of (i:Int)=-1)
def Hm (n:Net) (i:Int):List Int→List ByteArray→List ByteArray→List Int × Int
 | ow,d::ds,p::ps =>
  let at_:=Q8 n (E4 n d) p
  if at_<0 then (ow,31) else if 0≤(nth n.ports at_).link∨nth ow at_≠-1 then (ow,39) else Hm n i (ow.set at_.toNat i) ds ps
 | ow,_,_=>(ow,0)
def Om (n:Net) (L:List TenM):Nat→List Int→List TenM→List Int × Int × Int × Int
 | _,ow,[]=>(ow,0,0,0)
 | i,ow,t::r =>
  if My t=false∨10≤i then ([],2,t.row,2) else if (L.take i).any (λ x=>x.name == t.name)=true then ([],2,t.row,30)
  else if (Hm n i ow t.devs t.ports).2≠0 then ([],2,t.row,(Hm n i ow t.devs t.ports).2) else Om n L (i+1) (Hm n i ow t.devs t.ports).1 r
def Ae4 (n:Net) (ow:List Int):Nat→List Port→Nat
 | i,[]=>i
 | i,p::r=>if p.link<0∧nth ow i=-1 then i else Ae4 n ow (i+1) r
def assignT (n:Net) (L:List TenM):List Int × Int × Int × Int :=
 if Ac n=false then ([],0,0,2) else
 let a:=Om n L 0 (List.replicate n.ports.length (-1)) L
 if a.2.2.2≠0 then a else
 if Ae4 n a.1 0 n.ports<n.ports.length then ([],1,(nth n.ports (Ae4 n a.1 0 n.ports)).row,39) else (a.1,0,0,0)
def Qb (n:Net) (ow:List Int) (from_:Nat) (a:Int):Nat→List Int→Option Nat
 | _,[]=>none
 | to,b::r=>if ¬ (a<0∨b<0∨a=b)∧(wayT n from_ to).2=true then some to else Qb n ow from_ a (to+1) r
def S8 (n:Net) (ow:List Int):Nat→List Int→Int × Int × Bool
 | _,[]=>(0,0,false)
 | from_,a::r=>match Qb n ow from_ a 0 ow with
  | some to=>(from_,to,true)
  | none=>S8 n ow (from_+1) r
def leaksT (n:Net) (ow:List Int):Int × Int × Bool:=if O7 n ow=false then (0,0,false) else S8 n ow 0 ow
def Hp (w row e:Int):ReportM:=⟨3,w,row,e,0,0,[]⟩
def verdictT (n:Net) (a:List Int × Int × Int × Int):ReportM :=
 if a.2.2.2≠0 then Hp a.2.1 a.2.2.1 a.2.2.2 else if (leaksT n a.1).2.2=false then ⟨1,0,0,0,0,0,[]⟩
 else ⟨2,0,0,0,(leaksT n a.1).1,(leaksT n a.1).2.1,(wscriptT n (leaksT n a.1).1 (leaksT n a.1).2.1).1⟩
def verifyT (b c:List UInt8):ReportM :=
 if (netTextT b).2.2≠0 then Hp 1 (netTextT b).2.1 (netTextT b).2.2 else if (policyT c).2.2≠0 then Hp 2 (policyT c).2.1 (policyT c).2.2
 else verdictT (netTextT b).1 (assignT (netTextT b).1 (policyT c).1)
def Awj (x y:StepM):Prop:=y.kind=x.kind∧y.port=x.port∧y.domain=x.domain∧y.bytes=x.bytes∧y.up.length=x.up.length
instance (x y:StepM):Decidable (Awj x y):=by unfold Awj;infer_instance
def A1m (l:List StepM) (x:StepM) (k:Nat):Prop:=∃ h:k<l.length,Awj x l[k]∧0≤l[k].at_∧l[k].at_≤x.at_
instance (l:List StepM) (x:StepM) (k:Nat):Decidable (A1m l x k):=by unfold A1m;infer_instance
end Go.Sy.YtiijbikecbjdaaaGreatDoor
namespace Go.Sy.YtiijbikecbjdaaaGreatDoor
open Go.Proofs
attribute [local irreducible] Go.Sy.G Go.Sy.DR
set_option maxRecDepth 100000
set_option maxHeartbeats 4000000
def ownAt (n:Net) (of:List Int) (i:Nat):Bool:=if (nth n.ports (i:Int)).link<0 then decide (0≤nth of (i:Int)) && decide (nth of (i:Int)≤9) else decide (nth of (i:Int)=-1)
theorem Apc (n:Net) (of:List Int):O7 n of=(decide (of.length=n.ports.length) && Ac n && (List.range of.length).all (ownAt n of)):=rfl
theorem Atk {k:Nat} {p:Nat→Bool} (h:∀ i,i<k→p i=true):(List.range k).all p=true:=by
 rw[yT]
 intro i hi
 exact h i (xM.1 hi)
theorem Atj {k j:Nat} {p:Nat→Bool} (hj:j<k) (h:p j=false):(List.range k).all p=false:=by
 rw[Bool.eq_false_iff]
 intro ha
 have:=yT.1 ha j (xM.2 hj)
 rw[h]at this;cases this
theorem Ais (n:Net) (hn:n.Fin) (of:List Int):Sp 31 [Al n,.sl 1 Aa of] (Ab (O7 n of)):=cT F31 Tryz.ntmps31 λ F hF=>by
 have hres:=Apc n of
 generalize O7 n of=res at *
 have qr:=Ax n hn
 have hps:=hn.ports
 unfold Ak at hps
 generalize Ac n=nr at *
 refine T ?_
 constructor<;>intro h
 ·rw[zI (show ¬ of.length=n.ports.length by simp at h;omega),yA,yA]at hres
  subst hres
  refine T ?_
  exact D
 have hlen:of.length=n.ports.length:=by simp at h;omega
 rw[zR hlen,zZ]at hres
 refine T ?_
 refine C qr F24 ?_
 cases nr
 ·rw[yA]at hres
  subst hres
  refine T ?_
  exact D
 rw[zZ]at hres
 refine T ?_
 refine A5 of.length (λ j=>∀ i,i<j→ownAt n of i=true) (λ j=>[(2,.ptr 2 0),(19,.sl 1 Aa of),(20,Aa of.length),(21,Aa j)]) (λ _=>[(2,.box (Cw n))]) [] (λ i hi=>yB hi (Nat.not_lt_zero i)) U ?_
 intro j hj hI
 refine T ?_
 constructor<;>intro h
 ·have hlt:j<of.length:=qA h
  have hj0:((j:Nat):Int).toNat<of.length:=by simpa using hlt
  have hj1:((j:Nat):Int).toNat<n.ports.length:=by rw[← hlen];exact hj0
  have hat:=ownAt.eq_1 n of j
  rw[Aj hj1,Aj hj0]at hat
  obtain ⟨w,hw⟩:∃ w,of[((j:Nat):Int).toNat]'hj0=w:=⟨_,rfl⟩
  obtain ⟨p,hp⟩:∃ p,n.ports[((j:Nat):Int).toNat]'hj1=p:=⟨_,rfl⟩
  rw[hw,hp]at hat
  have bad:ownAt n of j=false→res=false:=λ hb=>by rw[hres];exact Atj hlt hb
  have good:ownAt n of j=true→∀ i,i<j+1→ownAt n of i=true:=λ hb i hi=>by
   by_cases he:i=j
   ·subst he;exact hb
   ·exact hI i q_
  generalize ownAt n of j=g at *
  clear h
  refine S ?_
  refine⟨E,by omega,hj0,?_⟩
  rw[hw]
  refine S ?_
  refine⟨E,by omega,hj1,?_⟩
  rw[hp]
  refine T ?_
  constructor<;>intro h1
  ·have hl:=zK h1
   rw[zD q_]at hat
   refine T ?_
   constructor<;>intro h2
   ·have hr:=bad (by rw[hat];simp at h2;simp;omega)
    subst hr
    refine T ?_
    exact D
   ·have hx:=good (by rw[hat];simp at h2;simp;omega)
    refine T ?_
    refine A4 [] hI hlt hx ?_
    exact U
  ·have hl:=zT h1
   rw[zE q_,← Bool.decide_and]at hat
   refine T ?_
   constructor<;>intro h2
   ·have hr:=bad (by rw[hat];exact zI (by have:=zK h2;omega))
    subst hr
    refine T ?_
    exact D
   refine T ?_
   constructor<;>intro h3
   ·have hr:=bad (by rw[hat];exact zI (by have:=zK h3;omega))
    subst hr
    refine T ?_
    exact D
   have hx:=good (by rw[hat];exact zR (by have:=zT h2;have:=zT h3;omega))
   refine T ?_
   refine A4 [] hI hlt hx ?_
   exact U
 ·have hjj:j=of.length:=qB h
  subst hjj
  have hr:res=true:=by rw[hres];exact Atk hI
  subst hr
  refine T ?_
  exact D
theorem Ad4 (l:List ByteArray) (p:ByteArray→Bool) (f:FuncId) (first cap:List SV) (hc:(SV.clo (.func f) first cap).inn []=true) (hf:∀ x∈l,D9 Tryz.prog f (first++[Ao x]++cap) (Ab (p x))) (hl:Ak l) :
  Sp 124 [.sl 1 Ao l,.clo (.func f) first cap] (Aa (Co p l)):=cT F124 Tryz.ntmps124 λ F hF=>by
 unfold Ak at hl
 have hin:∀ x:ByteArray,By [] (first++[Ao x]++cap)=true:=λ x=>Cs hc rfl
 refine fW ?_
 refine A5 l.length (λ j=>Hc (λ _ x=>!(p x)) l j) (λ j=>[(0,.sl 1 Ao l),(1,.clo (.func f) first cap),(7,Aa l.length),(8,Aa j)]) (λ _=>[]) [] (Bj _ _) ⟨⟨E,E,A8 _,hc,E,E,E,E,Y⟩,Y,E,E⟩ ?_
 intro j hj hI
 refine fU ?_
 constructor<;>intro h
 ·have h:=zK h
  have hj2:j<l.length:=by omega
  refine fU ?_
  refine⟨E,by omega,by omega,?_⟩
  refine fW ?_
  refine Dj (hf l[j] (zJ hj2)) E E E (by simp only[hin];rfl) E E ?_
  refine fU ?_
  constructor<;>intro h2
  ·refine fU ?_
   refine Aq E (.cons .tmp .nil) (zG Aa ?_) E
   exact Cr hj2 (λ i hi hij=>by simpa using hI i hi hij) h2
  ·refine fU ?_
   refine iL ?_
   refine fW ?_
   exact A4 [] hI hj2 (Bh hI hj2 (by simp[h2])) ⟨⟨E,E,A8 _,hc,E,E,E,E,Y⟩,Y,E,E⟩
 ·have h:=zT h
  refine fU ?_
  refine Aq E (.cons .tmp .nil) (zG Aa ?_) E
  exact C7 (λ i hi=>by simpa using hI i hi q_)
theorem Mi (l:List ByteArray) (p:ByteArray→Bool) (f:FuncId) (first cap:List SV) (hc:(SV.clo (.func f) first cap).inn []=true) (hf:∀ x∈l,D9 Tryz.prog f (first++[Ao x]++cap) (Ab (p x))) (hl:Ak l) :
  Sp 68 [.sl 1 Ao l,.clo (.func f) first cap] (Ab (l.any p)):=cT F68 Tryz.ntmps68 λ F hF=>by
 have h0:By [] [.sl 1 Ao l,.clo (.func f) first cap]=true:=by simp only[By,hc];rfl
 refine fW ?_
 refine Kx (Ad4 l p f first cap hc hf hl) F124 E E (by simp only[h0];rfl) E E ?_
 refine fU ?_
 exact Aq E (.cons .tmp .nil) (zG Ab (Ji _ _).symm) E
theorem Ad3 (l:List TenM) (p:TenM→Bool) (f:FuncId) (first cap:List SV) (hc:(SV.clo (.func f) first cap).inn []=true) (hf:∀ x∈l,D9 Tryz.prog f (first++[D1 x]++cap) (Ab (p x))) (hl:Ak l) :
  Sp 69 [.sl 4 D1 l,.clo (.func f) first cap] (Aa (Co p l)):=cT F69 Tryz.ntmps69 λ F hF=>by
 unfold Ak at hl
 have hin:∀ x:TenM,By [] (first++[D1 x]++cap)=true:=λ x=>Cs hc rfl
 refine fW ?_
 refine A5 l.length (λ j=>Hc (λ _ x=>!(p x)) l j) (λ j=>[(0,.sl 4 D1 l),(1,.clo (.func f) first cap),(7,Aa l.length),(8,Aa j)]) (λ _=>[]) [] (Bj _ _) ⟨⟨E,E,A8 _,hc,E,E,E,E,Y⟩,Y,E,E⟩ ?_
 intro j hj hI
 refine fU ?_
 constructor<;>intro h
 ·have h:=zK h
  have hj2:j<l.length:=by omega
  refine fU ?_
  refine⟨E,by omega,by omega,?_⟩
  refine fW ?_
  refine Dj (hf l[j] (zJ hj2)) E E E (by simp only[hin];rfl) E E ?_
  refine fU ?_
  constructor<;>intro h2
  ·refine fU ?_
   refine Aq E (.cons .tmp .nil) (zG Aa ?_) E
   exact Cr hj2 (λ i hi hij=>by simpa using hI i hi hij) h2
  ·refine fU ?_
   refine iL ?_
   refine fW ?_
   exact A4 [] hI hj2 (Bh hI hj2 (by simp[h2])) ⟨⟨E,E,A8 _,hc,E,E,E,E,Y⟩,Y,E,E⟩
 ·have h:=zT h
  refine fU ?_
  refine Aq E (.cons .tmp .nil) (zG Aa ?_) E
  exact C7 (λ i hi=>by simpa using hI i hi q_)
theorem Yj (l:List TenM) (p:TenM→Bool) (f:FuncId) (first cap:List SV) (hc:(SV.clo (.func f) first cap).inn []=true) (hf:∀ x∈l,D9 Tryz.prog f (first++[D1 x]++cap) (Ab (p x))) (hl:Ak l) :
  Sp 28 [.sl 4 D1 l,.clo (.func f) first cap] (Ab (l.any p)):=cT F28 Tryz.ntmps28 λ F hF=>by
 have h0:By [] [.sl 4 D1 l,.clo (.func f) first cap]=true:=by simp only[By,hc];rfl
 refine fW ?_
 refine Kx (Ad3 l p f first cap hc hf hl) F69 E E (by simp only[h0];rfl) E E ?_
 refine fU ?_
 exact Aq E (.cons .tmp .nil) (zG Ab (Ji _ _).symm) E
structure TenOK (t:TenM):Prop where
 name:t.name.size≤100000
 devs:t.devs.length≤100000∧∀ s∈t.devs,s.size≤100000
 ports:t.ports.length≤100000∧∀ s∈t.ports,s.size≤100000
theorem oddS (s:ByteArray) (hs:s.size≤1000000):Sp 67 [Ao s] (Ab (!(Ay s))):=cT F67 Tryz.ntmps67 λ F hF=>by
 have q:=Ef s hs
 refine T ?_
 refine C q F46 ?_
 exact D
theorem Aiq (t:TenM) (ht:TenOK t):Sp 27 [D1 t] (Ab (My t)):=cT F27 Tryz.ntmps27 λ F hF=>by
 have qn:=Ef t.name (by have:=ht.name;omega)
 have qd:=Mi t.devs (λ s=>!(Ay s)) 67 [] [] rfl (λ s hs=>⟨⟨_,_,F67⟩,oddS s (by have:=ht.devs.2 s hs;omega)⟩) (by have:=ht.devs.1;unfold Ak;omega)
 have qp:=Mi t.ports (λ s=>!(Ay s)) 67 [] [] rfl (λ s hs=>⟨⟨_,_,F67⟩,oddS s (by have:=ht.ports.2 s hs;omega)⟩) (by have:=ht.ports.1;unfold Ak;omega)
 have hres:My t=(Ay t.name && (decide (t.devs.length=t.ports.length) && (decide (0<t.devs.length) && (decide (t.devs.length≤16) && (!(t.devs.any λ s=>!(Ay s)) && !(t.ports.any λ s=>!(Ay s))))))):=rfl
 rw[hres]
 clear hres ht
 generalize (t.devs.any λ s=>!(Ay s))=od at *
 generalize (t.ports.any λ s=>!(Ay s))=op at *
 obtain ⟨row,nm,ds,ps⟩:=t
 dsimp only at *
 generalize Ay nm=b1 at *
 cases b1
 ·refine T ?_
  refine C qn F46 ?_
  exact D
 by_cases k1:ds.length=ps.length
 rotate_left
 ·have f1:((ds.length:Int) == (ps.length:Int))=false:=by rw[zL];omega
  rw[zI k1]
  refine T ?_
  refine C qn F46 ?_
  exact D
 have f1:((ds.length:Int) == (ps.length:Int))=true:=by rw[yF];omega
 rw[zR k1]
 by_cases k2:0<ds.length
 rotate_left
 ·have f2:decide ((ds.length:Int)>0)=false:=zI q_
  rw[zI k2]
  refine T ?_
  refine C qn F46 ?_
  exact D
 have f2:decide ((ds.length:Int)>0)=true:=zR q_
 rw[zR k2]
 by_cases k3:ds.length≤16
 rotate_left
 ·have f3:decide ((ds.length:Int)≤16)=false:=zI q_
  rw[zI k3]
  refine T ?_
  refine C qn F46 ?_
  exact D
 have f3:decide ((ds.length:Int)≤16)=true:=zR q_
 rw[zR k3]
 cases od
 rotate_left
 ·refine T ?_
  refine C qn F46 ?_
  refine C qd F68 ?_
  exact D
 ·refine T ?_
  refine C qn F46 ?_
  refine C qd F68 ?_
  refine C qp F68 ?_
  exact D
theorem Auz (n:Net) (i:Int) (ow:List Int) (ps:List ByteArray):Hm n i ow [] ps=(ow,0):=by
 rw[Hm]
 intro d ds p ps h
 cases h
theorem claimS (n:Net) (hn:n.Fin) (hr:Ac n=true) (i:Int) (t:TenM) (ht:t.devs.length=t.ports.length) (hl:t.devs.length≤100000) (ow:List Int) (how:ow.length=n.ports.length) :
  Sq 29 [Al n,.osl 0,Aa i,D1 t] [(0,.row 1 Aa ow)] (Aa (Hm n i ow t.devs t.ports).2) [(0,.row 1 Aa (Hm n i ow t.devs t.ports).1)]:=cT F29 Tryz.ntmps29 λ F hF=>by
 obtain ⟨row,nm,ds,ps⟩:=t
 dsimp only at *
 obtain ⟨res,hres⟩:∃ res,Hm n i ow ds ps=res:=⟨_,rfl⟩
 rw[hres]
 refine T ?_
 refine B6 (λ x:Nat × List Int=>Hm n i x.2 (ds.drop x.1) (ps.drop x.1)=res∧x.1≤ds.length∧x.2.length=n.ports.length) (λ x=>[(1,.osl 0),(2,Aa i),(4,.ptr 4 0),(7,.ptr 7 0),(8,Aa 0),(13,.sl 1 Ao ds),(14,Aa ds.length),(15,Aa x.1)]) (λ x=>[(0,.row 1 Aa x.2),(4,.box (Cw n)),(7,.box [Aa row,Ao nm,.sl 1 Ao ds,.sl 1 Ao ps])]) (λ x=>ds.length-x.1) (0,ow) [] ⟨hres,by simp,how⟩ U ?_
 rintro ⟨j,ow2⟩ ⟨hI,hj,hlen⟩
 dsimp only at hI hj hlen ⊢
 refine T ?_
 constructor<;>intro h
 ·have hlt:j<ds.length:=qA h
  have hlp:j<ps.length:=by omega
  have hj0:((j:Nat):Int).toNat<ds.length:=hlt
  have hj1:((j:Nat):Int).toNat<ps.length:=hlp
  clear h
  rw[yJ hlt,yJ hlp,Hm]at hI
  have q1:=Hz n hn hr (ds[((j:Nat):Int).toNat]'hj0)
  have q2:=O9 n hn hr (E4 n (ds[((j:Nat):Int).toNat]'hj0)) (ps[((j:Nat):Int).toNat]'hj1)
  have eI:Q8 n (E4 n ds[j]) ps[j]=Q8 n (E4 n (ds[((j:Nat):Int).toNat]'hj0)) (ps[((j:Nat):Int).toNat]'hj1):=rfl
  rw[eI]at hI
  have hir:¬ Q8 n (E4 n (ds[((j:Nat):Int).toNat]'hj0)) (ps[((j:Nat):Int).toNat]'hj1)<0→(Q8 n (E4 n (ds[((j:Nat):Int).toNat]'hj0)) (ps[((j:Nat):Int).toNat]'hj1)).toNat<n.ports.length:=λ h=>by
   obtain ⟨k,e,hk⟩:=I4 (p:=λ p:Port=>p.dev == (E4 n (ds[((j:Nat):Int).toNat]'hj0)) && p.name == (ps[((j:Nat):Int).toNat]'hj1)) (l:=n.ports) h
   show (Co _ n.ports).toNat<_
   rw[e];exact hk
  generalize Q8 n (E4 n (ds[((j:Nat):Int).toNat]'hj0)) (ps[((j:Nat):Int).toNat]'hj1)=at_ at *
  by_cases k1:at_<0
  ·have f1:decide (at_<0)=true:=zR k1
   rw[zE k1]at hI
   subst hI
   refine T ?_
   refine C q1 F71 ?_
   refine C q2 F70 ?_
   exact E0
  have f1:decide (at_<0)=false:=zI k1
  have hp:=hir k1
  have h0:0≤at_:=by omega
  have hpo:at_.toNat<ow2.length:=by omega
  rw[zD k1,Aj hp,Aj hpo]at hI
  by_cases k2:0≤(n.ports[at_.toNat]'hp).link
  ·have f2:decide ((n.ports[at_.toNat]'hp).link≥0)=true:=zR k2
   rw[zE (.inl k2)]at hI
   subst hI
   refine T ?_
   refine C q1 F71 ?_
   refine C q2 F70 ?_
   exact E0
  have f2:decide ((n.ports[at_.toNat]'hp).link≥0)=false:=zI k2
  by_cases k3:ow2[at_.toNat]'hpo=-1
  rotate_left
  ·have f3:(ow2[at_.toNat]'hpo != -1)=true:=by rw[yQ];exact k3
   rw[zE (.inr k3)]at hI
   subst hI
   refine T ?_
   refine C q1 F71 ?_
   refine C q2 F70 ?_
   exact E0
  have f3:(ow2[at_.toNat]'hpo != -1)=false:=by rw[bne_eq_false_iff_eq];exact k3
  rw[zD (λ h=>h.elim k2 (λ h=>h k3))]at hI
  refine T ?_
  refine C q1 F71 ?_
  refine C q2 F70 ?_
  refine⟨i,E,E,?_⟩
  refine T ?_
  exact Av (j+1,ow2.set at_.toNat i) [] ⟨hI,hlt,by simp;exact hlen⟩ (by dsimp only;omega) U
 ·have hje:j=ds.length:=qB h
  subst hje
  clear h
  rw[wH,wY q_]at hI
  rw[Auz]at hI
  subst hI
  refine T ?_
  exact E0
def Lg (m k:Nat):List Int:=List.replicate k (-1)++List.replicate (m-k) 0
theorem Sv (m k:Nat) (h:k≤m):(Lg m k).length=m:=by simp[Lg];omega
theorem Awo (m:Nat):Lg m m=List.replicate m (-1):=by simp[Lg]
theorem Ati (m k c:Nat) (_h:k≤m) (hc:c=min k (m-k)):(Lg m k).take k++(Lg m k).take c++(Lg m k).drop (k+c)=Lg m (k+c):=by
 have e1:(Lg m k).take k=List.replicate k (-1):=by
  rw[Lg,vB y_];simp
 have e2:(Lg m k).take c=List.replicate c (-1):=by
  rw[Lg,vB (by simp;omega)];simp;omega
 have e3:(Lg m k).drop (k+c)=List.replicate (m-(k+c)) 0:=by
  rw[Lg,List.drop_append,wY y_,wG]
  simp
  omega
 rw[e1,e2,e3,Lg,tZ]
theorem Aoy (m:Nat) (h:m<2147483648):Sq 25 [.sl 1 Aa [-1],Aa m] [] (.osl 30) [(30,.row 1 Aa (List.replicate m (-1)))]:=cT F25 Tryz.ntmps25 λ F hF=>by
 have hw:IntKind.u64.wrap (m:Int)=m:=by rw[IntKind.wrap_u64];omega
 have hw2:IntKind.i64.wrap (m:Int)=m:=by rw[IntKind.wrap_i64];omega
 have q:=mulS m q_
 rw[← hw]at q
 refine fW ?_
 refine c0 q F66 ?_
 rw[hw]
 refine fU ?_
 refine⟨λ h1=>yB (zK h1) q_,λ _=>?_⟩
 refine fU ?_
 rw[hw2]
 refine Af (Bv Γ.toTy (d:=30) (n:=m) Aa (0:Int) E E E E E E E E q_ q_ E E E) E E ?_
 refine fU ?_
 refine Af (Ua Γ.toTy (l:=List.replicate m (0:Int)) (m:=([-1]:List Int)) E E E E E .sl) E E ?_
 have e0:([-1]:List Int).take (List.replicate m (0:Int)).length++(List.replicate m (0:Int)).drop ([-1]:List Int).length=Lg m (min 1 m):=by
  cases m with
  | zero=>rfl
  | succ m=>simp[Lg,Nat.min_eq_left,uS]
 have e1:min ([-1]:List Int).length (List.replicate m (0:Int)).length=min 1 m:=by simp
 rw[e0,e1]
 refine fU ?_
 refine B6 (λ k:Nat=>min 1 m≤k∧k≤m) (λ k=>[(7,.osl 30),(8,Aa k)]) (λ k=>[(30,.row 1 Aa (Lg m k))]) (λ k=>m-k) (min 1 m) [] q_ ⟨⟨E,E,E,E,Y⟩,⟨.inl E,E,Y⟩,E,E⟩ ?_
 intro k hk
 have hl:=Sv m k hk.2
 refine fU ?_
 constructor<;>intro h1
 ·have hlt:k<m:=by have:=zK h1;rw[hl]at this;omega
  clear h1
  have hk1:1≤k:=by omega
  have hne:Lg m k≠[]:=λ e=>by rw[e]at hl;simp at hl;omega
  refine Anl 30 [7] E hne (λ i hi=>by simp at hi;subst hi;rfl) ?_
  intro b cap hc
  rw[hl]at hc ⊢
  have hcl:¬ cap=k:=by omega
  have hcp:=Ati m k (min k (m-k)) hk.2 rfl
  refine fU ?_
  refine Br (C4 (lo:=k) (hi:=m) Γ.toTy E E E E (.inr ⟨_,_,E,E⟩) (.inl ⟨E,E⟩) q_ q_) z_ E ?_
  refine fU ?_
  refine Br (C4 (lo:=0) (hi:=k) Γ.toTy E E E E (.inl ⟨E,E⟩) (.inr ⟨_,_,E,E⟩) q_ q_) z_ E ?_
  refine fU ?_
  refine Br (Vf Γ.toTy 30 (lo:=k) (k:=k) E E E E (by rw[zD hcl,Nat.mul_one]) E (by rw[zD q_,Nat.zero_mul]) E hl q_ q_) z_ E ?_
  refine fU ?_
  refine iL ?_
  refine fW ?_
  refine⟨z_,?_⟩
  refine fW ?_
  refine Yw 30 31 [7] m E E (by rw[hcp,Sv m _ q_];exact yC _) (λ i hi=>by simp at hi;subst hi;rfl) ?_
  have hfin:((Lg m k).take k++(Lg m k).take (min k (m-k))++(Lg m k).drop (k+min k (m-k))).take m=Lg m (k+min k (m-k)):=by
   rw[hcp,xC (by rw[Sv m _ q_];exact yC _)]
  exact Av (k+min k (m-k)) [(30,31)] q_ q_ ⟨⟨E,E,E,E,Y⟩,⟨.inl (zG (Ob.row 1 Aa) hfin.symm),E,Y⟩,E,E⟩
 ·have hkm:k=m:=by have:=zT h1;rw[hl]at this;omega
  subst hkm
  rw[Awo]
  refine fU ?_
  exact E0
theorem Ahw (n:Net) (i:Int):∀ (ds ps:List ByteArray) (ow:List Int),(Hm n i ow ds ps).1.length=ow.length
 | [],[],_=>rfl
 | [],_::_,_=>rfl
 | _::_,[],_=>rfl
 | d::ds,p::ps,ow=>by
  rw[Hm]
  split
  ·rfl
  split
  ·rfl
  rw[Ahw n i ds ps]
  simp
theorem Ah9 {t:TenM} (h:My t=true):t.devs.length=t.ports.length:=by
 simp only[My,zH,zQ]at h
 exact h.2.1
theorem twiceS (x t:TenM):Sp 26 [D1 x,.ref 4 (D1 t) 0] (Ab (x.name == t.name)):=cT F26 Tryz.ntmps26 λ F hF=>by
 refine T ?_
 exact D
theorem Asa (n:Net) (hn:n.Fin) (L:List TenM) (hL:∀ t∈L,TenOK t) (hl:L.length≤100000) :
  Sp 12 [Al n,.sl 4 D1 L] (.tup [.sl 1 Aa (assignT n L).1,Aa (assignT n L).2.1,Aa (assignT n L).2.2.1,Aa (assignT n L).2.2.2]):=cT F12 Tryz.ntmps12 λ F hF=>by
 have q0:=Ax n hn
 have hres:=assignT.eq_1 n L
 generalize assignT n L=res at *
 have hps:n.ports.length<2147483648:=hn.ports
 cases hr:Ac n with
 | false =>
  rw[hr]at q0
  rw[zE hr]at hres
  subst hres
  refine T ?_
  refine C q0 F24 ?_
  refine Am 4 1 Aa E ?_
  exact D
 | true =>
 rw[hr]at q0
 rw[zD (by rw[hr];exact Bool.noConfusion)]at hres
 dsimp only at hres
 refine T ?_
 refine C q0 F24 ?_
 refine Iw 16 Aa [-1] E E ?_
 refine Ag 16 E ?_
 refine X (Ad [(30,20)] E F25 (Aoy n.ports.length hps) E Y E ⟨.inr E,Y⟩) ?_
 obtain ⟨ga,hga⟩:∃ ga,Om n L 0 (List.replicate n.ports.length (-1)) L=ga:=⟨_,rfl⟩
 rw[hga]at hres
 refine B6 (λ x:Nat × List Int=>Om n L x.1 x.2 (L.drop x.1)=ga∧x.1≤L.length∧x.2.length=n.ports.length) (λ x=>[(1,.sl 4 D1 L),(2,.ptr 2 0),(4,.osl 20),(5,Aa 0),(6,Aa 0),(7,Aa 0),(21,.sl 4 D1 L),(22,Aa L.length),(23,Aa x.1)]) (λ x=>[(2,.box (Cw n)),(20,.row 1 Aa x.2)]) (λ x=>L.length-x.1) (0,List.replicate n.ports.length (-1)) [] ⟨hga,by simp,wW⟩ U ?_
 rintro ⟨j,ow⟩ ⟨hI,hj,hlen⟩
 dsimp only at hI hj hlen ⊢
 refine T ?_
 constructor<;>intro h
 ·have hlt:j<L.length:=qA h
  have hj0:((j:Nat):Int).toNat<L.length:=hlt
  have hdr:L.drop j=L[((j:Nat):Int).toNat]'hj0::L.drop (j+1):=yJ hlt
  rw[hdr,Om]at hI
  have ht:=hL _ (zJ hj0)
  clear h
  have qany:=Yj (L.take j) (λ x=>x.name == (L[((j:Nat):Int).toNat]'hj0).name) 26 [] [.ref 4 (D1 (L[((j:Nat):Int).toNat]'hj0)) 0] rfl (λ x _=>⟨⟨_,_,F26⟩,twiceS x _⟩) (by unfold Ak;rw[zX];omega)
  have q1:=Aiq (L[((j:Nat):Int).toNat]'hj0) ht
  refine T ?_
  refine A7 9 4 (D1 (L[((j:Nat):Int).toNat]'hj0)) E E E ?_
  cases c1:My (L[((j:Nat):Int).toNat]'hj0) with
  | false =>
   rw[c1]at q1
   rw[zE (.inl c1)]at hI
   subst hI
   rw[zE (by show (2:Int)≠0;decide)]at hres
   subst hres
   refine C q1 F27 ?_
   refine Am 4 1 Aa E ?_
   exact D
  | true =>
  rw[c1]at q1
  have hdp:=Ah9 c1
  by_cases c2:10≤j
  ·have f2:decide (((j:Nat):Int)≥10)=true:=zR q_
   rw[zE (.inr c2)]at hI
   subst hI
   rw[zE (by show (2:Int)≠0;decide)]at hres
   subst hres
   refine C q1 F27 ?_
   refine Am 4 1 Aa E ?_
   exact D
  have f2:decide (((j:Nat):Int)≥10)=false:=zI q_
  rw[zD (λ h=>h.elim (λ h=>by rw[c1]at h;cases h) c2)]at hI
  cases c3:(L.take j).any (λ x=>x.name == (L[((j:Nat):Int).toNat]'hj0).name) with
  | true =>
   rw[c3]at qany
   rw[zE c3]at hI
   subst hI
   rw[zE (by show (30:Int)≠0;decide)]at hres
   subst hres
   refine C q1 F27 ?_
   refine X (Ii (lo:=0) (hi:=j) Γ.toTy (L.take j) E E E E (.inl ⟨E,E⟩) (.inr ⟨_,_,E,E⟩) (xZ _) q_ (by rw[List.drop_zero])) ?_
   refine C qany F28 ?_
   refine Am 4 1 Aa E ?_
   exact D
  | false =>
  rw[c3]at qany
  rw[zD (by rw[c3];exact Bool.noConfusion)]at hI
  have qc:=claimS n hn hr ((j:Nat):Int) (L[((j:Nat):Int).toNat]'hj0) hdp (by have:=ht.devs.1;omega) ow hlen
  have hcl:=Ahw n ((j:Nat):Int) (L[((j:Nat):Int).toNat]'hj0).devs (L[((j:Nat):Int).toNat]'hj0).ports ow
  generalize Hm n ((j:Nat):Int) ow (L[((j:Nat):Int).toNat]'hj0).devs (L[((j:Nat):Int).toNat]'hj0).ports=cg at *
  obtain ⟨ow2,ce⟩:=cg
  dsimp only at hI hcl qc
  by_cases c4:ce=0
  rotate_left
  ·have f4:(ce != 0)=true:=by rw[yQ];exact c4
   rw[zE c4]at hI
   subst hI
   rw[zE c4]at hres
   subst hres
   refine C q1 F27 ?_
   refine X (Ii (lo:=0) (hi:=j) Γ.toTy (L.take j) E E E E (.inl ⟨E,E⟩) (.inr ⟨_,_,E,E⟩) (xZ _) q_ (by rw[List.drop_zero])) ?_
   refine C qany F28 ?_
   refine X (Ad [(0,20)] E F29 qc E W E V) ?_
   refine Am 4 1 Aa E ?_
   exact D
  have f4:(ce != 0)=false:=by rw[c4];rfl
  rw[zD (λ h=>h c4)]at hI
  refine C q1 F27 ?_
  refine X (Ii (lo:=0) (hi:=j) Γ.toTy (L.take j) E E E E (.inl ⟨E,E⟩) (.inr ⟨_,_,E,E⟩) (xZ _) q_ (by rw[List.drop_zero])) ?_
  refine C qany F28 ?_
  refine X (Ad [(0,20)] E F29 qc E W E V) ?_
  exact Av (j+1,ow2) [] ⟨hI,hlt,by dsimp only;omega⟩ (by dsimp only;omega) U
 ·have hje:j=L.length:=qB h
  rw[hje,wH,Om]at hI
  subst hI
  clear h
  rw[zD (by show ¬ ((0:Int)≠0);decide)]at hres
  dsimp only at hres
  refine T ?_
  obtain ⟨B,hB⟩:∃ B,Ae4 n ow 0 n.ports=B:=⟨_,rfl⟩
  rw[hB]at hres
  refine B6 (λ k:Nat=>Ae4 n ow k (n.ports.drop k)=B∧k≤n.ports.length) (λ k=>[(2,.ptr 2 0),(4,.osl 20),(5,Aa 0),(6,Aa 0),(7,Aa 0),(12,Aa k)]) (λ _=>[(2,.box (Cw n)),(20,.row 1 Aa ow)]) (λ k=>n.ports.length-k) 0 [] ⟨hB,by omega⟩ U ?_
  rintro k ⟨hK,hk⟩
  refine T ?_
  constructor<;>intro h
  ·have hltk:k<n.ports.length:=qA h
   have hk0:((k:Nat):Int).toNat<n.ports.length:=hltk
   have hk1:((k:Nat):Int).toNat<ow.length:=by rw[hlen];exact hltk
   clear h
   rw[yJ hltk,Ae4,Aj hk1]at hK
   by_cases d1:(n.ports[((k:Nat):Int).toNat]'hk0).link<0
   rotate_left
   ·have g1:decide ((n.ports[((k:Nat):Int).toNat]'hk0).link<0)=false:=zI d1
    rw[zD (λ h=>d1 h.1)]at hK
    refine T ?_
    exact Av (k+1) [] ⟨hK,hltk⟩ q_ U
   have g1:decide ((n.ports[((k:Nat):Int).toNat]'hk0).link<0)=true:=zR d1
   by_cases d2:ow[((k:Nat):Int).toNat]'hk1=-1
   rotate_left
   ·have g2:(ow[((k:Nat):Int).toNat]'hk1 == -1)=false:=by rw[zL];exact d2
    rw[zD (λ h=>d2 h.2)]at hK
    refine T ?_
    exact Av (k+1) [] ⟨hK,hltk⟩ q_ U
   have g2:(ow[((k:Nat):Int).toNat]'hk1 == -1)=true:=by rw[yF];exact d2
   rw[zE ⟨d1,d2⟩]at hK
   subst hK
   rw[zE hltk,Aj hk0]at hres
   subst hres
   have g3:decide (((k:Nat):Int)<(n.ports.length:Int))=true:=zR q_
   refine T ?_
   refine Am 4 1 Aa E ?_
   exact D
  ·have hke:k=n.ports.length:=qB h
   clear h
   rw[hke,wH,Ae4]at hK
   rw[← hK,zD q_]at hres
   subst hres
   have g3:decide (((k:Nat):Int)<(n.ports.length:Int))=false:=zI q_
   refine T ?_
   refine Ag 20 E ?_
   exact D
theorem Zf (l m:List Bool) (hl:l.length≤1000000):Sp 30 [.sl 1 Ab l,.sl 1 Ab m] (Ab (l == m)):=cT F30 Tryz.ntmps30 λ F hF=>by
 by_cases hlen:l.length=m.length
 rotate_left
 ·have hr:(l == m)=false:=by
   rw[zL];intro e;exact hlen (by rw[e])
  have f0:((l.length:Int) != (m.length:Int))=true:=by rw[yQ];omega
  rw[hr]
  refine T ?_
  exact D
 have f0:((l.length:Int) != (m.length:Int))=false:=by rw[bne_eq_false_iff_eq];omega
 refine T ?_
 refine A5 l.length (λ j=>l.take j=m.take j) (λ j=>[(0,.sl 1 Ab l),(1,.sl 1 Ab m),(12,Aa l.length),(13,Aa j)]) (λ _=>[]) [] E U ?_
 intro j hj hI
 refine T ?_
 constructor<;>intro h
 ·have hlt:j<l.length:=qA h
  have hlm:j<m.length:=by omega
  have hlt0:((j:Nat):Int).toNat<l.length:=hlt
  have hlm0:((j:Nat):Int).toNat<m.length:=hlm
  clear h
  by_cases he:l[j]=m[j]
  ·have f1:(l[((j:Nat):Int).toNat]'hlt0 != m[((j:Nat):Int).toNat]'hlm0)=false:=by rw[bne_eq_false_iff_eq];exact he
   refine T ?_
   refine A4 [] hI q_ ?_ U
   rw[zW hlt,zW hlm,hI,he]
  ·have f1:(l[((j:Nat):Int).toNat]'hlt0 != m[((j:Nat):Int).toNat]'hlm0)=true:=by rw[yQ];exact he
   have hr:(l == m)=false:=by
    rw[zL];intro e;subst e;exact he rfl
   rw[hr]
   refine T ?_
   exact D
 ·have hje:j=l.length:=qB h
  subst hje
  have hr:(l == m)=true:=by
   rw[yF]
   rw[yG,hlen,yG]at hI
   exact hI
  rw[hr]
  clear h
  refine T ?_
  exact D
theorem Am2 {a b:List UInt8} (h:a≠b):((⟨a.toArray⟩:ByteArray) == ⟨b.toArray⟩)=false:=by
 cases hb:((⟨a.toArray⟩:ByteArray) == ⟨b.toArray⟩)
 ·rfl
 ·exact yB (by simpa using (Ajw _ _).1 hb) h
theorem Am3 {a b:List UInt8} (h:a=b):((⟨a.toArray⟩:ByteArray) == ⟨b.toArray⟩)=true:=(Ajw _ _).2 (by rw[h])
theorem D4 {b:Bool} {p:Prop} (h:b=true↔p) (hp:¬ p):b=false:=by
 cases b
 ·rfl
 ·exact yB (h.1 E) hp
theorem Wk {b:Bool} {p:Prop} (h:b=true↔p) (hp:p):b=true:=h.2 hp
theorem Agm (x y:StepM) (b:Bool) (hb:b=true↔x=y) (hx:x.up.length≤1000000):Sp 14 [B0 x,B0 y] (Ab b):=cT F14 Tryz.ntmps14 λ F hF=>by
 have q:=Zf x.up y.up hx
 obtain ⟨k,p,d,a,bs,u⟩:=x
 obtain ⟨k',p',d',a',bs',u'⟩:=y
 dsimp only at q
 by_cases e1:k=k'
 rotate_left
 ·have f1:(k == k')=false:=by rw[zL];exact e1
  have hn:b=false:=D4 hb (by intro h;injection h;contradiction)
  subst hn
  refine T ?_
  exact D
 have f1:(k == k')=true:=by rw[yF];exact e1
 by_cases e2:p=p'
 rotate_left
 ·have f2:(p == p')=false:=by rw[zL];exact e2
  have hn:b=false:=D4 hb (by intro h;injection h;contradiction)
  subst hn
  refine T ?_
  exact D
 have f2:(p == p')=true:=by rw[yF];exact e2
 by_cases e3:d=d'
 rotate_left
 ·have f3:(d == d')=false:=by rw[zL];exact e3
  have hn:b=false:=D4 hb (by intro h;injection h;contradiction)
  subst hn
  refine T ?_
  exact D
 have f3:(d == d')=true:=by rw[yF];exact e3
 by_cases e4:a=a'
 rotate_left
 ·have f4:(a == a')=false:=by rw[zL];exact e4
  have hn:b=false:=D4 hb (by intro h;injection h;contradiction)
  subst hn
  refine T ?_
  exact D
 have f4:(a == a')=true:=by rw[yF];exact e4
 by_cases e5:bs=bs'
 rotate_left
 ·have f5:=Am2 e5
  have hn:b=false:=D4 hb (by intro h;injection h;contradiction)
  subst hn
  refine T ?_
  refine X (Cd Γ.toTy (bs:=bs) E E E E E E E .sl) ?_
  refine X (Cd Γ.toTy (bs:=bs') E E E E E E E .sl) ?_
  refine T ?_
  exact D
 have f5:=Am3 e5
 have hu:b=(u == u'):=by
  cases hc:u == u'
  ·exact D4 hb (by intro h;injection h with _ _ _ _ _ h;rw[zL]at hc;exact hc h)
  ·rw[yF]at hc;exact Wk hb (by rw[e1,e2,e3,e4,e5,hc])
 subst hu
 refine T ?_
 refine X (Cd Γ.toTy (bs:=bs) E E E E E E E .sl) ?_
 refine X (Cd Γ.toTy (bs:=bs') E E E E E E E .sl) ?_
 refine T ?_
 refine C q F30 ?_
 exact D
theorem Ael (l m:List StepM) (b:Bool) (hb:b=true↔l=m) (hl:l.length≤1000000) (hs:∀ x∈l,x.up.length≤1000000):Sp 13 [.sl 6 B0 l,.sl 6 B0 m,.clo (.func 14) [] []] (Ab b):=cT F13 Tryz.ntmps13 λ F hF=>by
 by_cases hlen:l.length=m.length
 rotate_left
 ·have hn:b=false:=D4 hb (λ e=>hlen (by rw[e]))
  have f0:((l.length:Int) != (m.length:Int))=true:=by rw[yQ];omega
  subst hn
  refine T ?_
  exact D
 have f0:((l.length:Int) != (m.length:Int))=false:=by rw[bne_eq_false_iff_eq];omega
 refine T ?_
 refine A5 l.length (λ j=>l.take j=m.take j) (λ j=>[(0,.sl 6 B0 l),(1,.sl 6 B0 m),(2,.clo (.func 14) [] []),(15,.sl 6 B0 l),(16,Aa l.length),(17,Aa j)]) (λ _=>[]) [] E U ?_
 intro j hj hI
 refine T ?_
 constructor<;>intro h
 ·have hlt:j<l.length:=qA h
  have hlm:j<m.length:=by omega
  have hlt0:((j:Nat):Int).toNat<l.length:=hlt
  have hlm0:((j:Nat):Int).toNat<m.length:=hlm
  clear h
  by_cases he:l[j]=m[j]
  ·have q:D9 Tryz.prog 14 [B0 l[((j:Nat):Int).toNat],B0 m[((j:Nat):Int).toNat]] (Ab true):=⟨⟨_,_,F14⟩,Agm _ _ true ⟨λ _=>he,λ _=>rfl⟩ (hs _ (zJ hlt0))⟩
   refine T ?_
   refine Dj q E E E E E E ?_
   refine T ?_
   refine A4 [] hI q_ ?_ U
   rw[zW hlt,zW hlm,hI,he]
  ·have q:D9 Tryz.prog 14 [B0 l[((j:Nat):Int).toNat],B0 m[((j:Nat):Int).toNat]] (Ab false):=⟨⟨_,_,F14⟩,Agm _ _ false ⟨λ e=>(by cases e),λ e=>yB e he⟩ (hs _ (zJ hlt0))⟩
   have hn:b=false:=D4 hb (λ e=>by subst e;exact he rfl)
   subst hn
   refine T ?_
   refine Dj q E E E E E E ?_
   refine T ?_
   exact D
 ·have hje:j=l.length:=qB h
  subst hje
  have hn:b=true:=Wk hb (by
   rw[yG,hlen,yG]at hI
   exact hI)
  subst hn
  clear h
  refine T ?_
  exact D
theorem Acv (x y:ReportM) (b:Bool) (hb:b=true↔x=y) (hl:x.script.length≤1000000) (hs:∀ s∈x.script,s.up.length≤1000000):Sp 6 [Cj x,Cj y] (Ab b):=cT F6 Tryz.ntmps6 λ F hF=>by
 obtain ⟨k,w,r,e,f,t,l⟩:=x
 obtain ⟨k',w',r',e',f',t',l'⟩:=y
 dsimp only at hl hs
 by_cases e1:k=k'
 rotate_left
 ·have f1:(k == k')=false:=by rw[zL];exact e1
  have hn:b=false:=D4 hb (by intro h;injection h;contradiction)
  subst hn
  refine T ?_
  exact D
 have f1:(k == k')=true:=by rw[yF];exact e1
 by_cases e2:w=w'
 rotate_left
 ·have f2:(w == w')=false:=by rw[zL];exact e2
  have hn:b=false:=D4 hb (by intro h;injection h;contradiction)
  subst hn
  refine T ?_
  exact D
 have f2:(w == w')=true:=by rw[yF];exact e2
 by_cases e3:r=r'
 rotate_left
 ·have f3:(r == r')=false:=by rw[zL];exact e3
  have hn:b=false:=D4 hb (by intro h;injection h;contradiction)
  subst hn
  refine T ?_
  exact D
 have f3:(r == r')=true:=by rw[yF];exact e3
 by_cases e4:e=e'
 rotate_left
 ·have f4:(e == e')=false:=by rw[zL];exact e4
  have hn:b=false:=D4 hb (by intro h;injection h;contradiction)
  subst hn
  refine T ?_
  exact D
 have f4:(e == e')=true:=by rw[yF];exact e4
 by_cases e5:f=f'
 rotate_left
 ·have f5:(f == f')=false:=by rw[zL];exact e5
  have hn:b=false:=D4 hb (by intro h;injection h;contradiction)
  subst hn
  refine T ?_
  exact D
 have f5:(f == f')=true:=by rw[yF];exact e5
 by_cases e6:t=t'
 rotate_left
 ·have f6:(t == t')=false:=by rw[zL];exact e6
  have hn:b=false:=D4 hb (by intro h;injection h;contradiction)
  subst hn
  refine T ?_
  exact D
 have f6:(t == t')=true:=by rw[yF];exact e6
 have q:=Ael l l' b ⟨λ h=>by have:=hb.1 h;injection this,λ h=>Wk hb (by rw[e1,e2,e3,e4,e5,e6,h])⟩ hl hs
 refine T ?_
 refine C q F13 ?_
 exact D
theorem Av8 {x y:StepM} (h1:x.kind=y.kind) (h2:x.port=y.port) (h3:x.domain=y.domain) (h4:x.at_=y.at_) (h5:x.bytes=y.bytes) (h6:x.up=y.up):x=y:=by
 cases x;cases y
 dsimp only at *
 subst h1 h2 h3 h4 h5 h6
 rfl
theorem Av7 (l m:List StepM) (b:Bool) (hb:b=true↔l=m) (hl:l.length≤1000000) (hs:∀ x∈l,x.up.length≤1000000):Sp 15 [.sl 6 B0 l,.sl 6 B0 m] (Ab b):=cT F15 Tryz.ntmps15 λ F hF=>by
 by_cases hlen:l.length=m.length
 rotate_left
 ·have hn:b=false:=D4 hb (λ e=>hlen (by rw[e]))
  have f0:((l.length:Int) != (m.length:Int))=true:=by rw[yQ];omega
  subst hn
  refine T ?_
  exact D
 have f0:((l.length:Int) != (m.length:Int))=false:=by rw[bne_eq_false_iff_eq];omega
 refine T ?_
 refine A5 l.length (λ j=>l.take j=m.take j) (λ j=>[(0,.sl 6 B0 l),(1,.sl 6 B0 m),(5,Aa j)]) (λ _=>[]) [] E U ?_
 intro j hj hI
 refine T ?_
 constructor<;>intro h
 ·have hlt:j<l.length:=qA h
  have hlm:j<m.length:=by omega
  have hlt0:((j:Nat):Int).toNat<l.length:=hlt
  have hlm0:((j:Nat):Int).toNat<m.length:=hlm
  have hup:=hs _ (zJ hlt0)
  clear h
  have hno:l[((j:Nat):Int).toNat]'hlt0≠m[((j:Nat):Int).toNat]'hlm0→b=false:=λ he=>D4 hb (λ e=>by subst e;exact he rfl)
  have hyes:l[((j:Nat):Int).toNat]'hlt0=m[((j:Nat):Int).toNat]'hlm0→l.take (j+1)=m.take (j+1):=λ he=>by
   have he:l[j]=m[j]:=he
   rw[zW hlt,zW hlm,hI,he]
  by_cases c0:(l[((j:Nat):Int).toNat]'hlt0).kind=(m[((j:Nat):Int).toNat]'hlm0).kind
  rotate_left
  ·have g0:((l[((j:Nat):Int).toNat]'hlt0).kind != (m[((j:Nat):Int).toNat]'hlm0).kind)=true:=by rw[yQ];exact c0
   have hn:b=false:=hno (λ e=>c0 (by rw[e]))
   subst hn
   refine T ?_
   exact D
  have g0:((l[((j:Nat):Int).toNat]'hlt0).kind != (m[((j:Nat):Int).toNat]'hlm0).kind)=false:=by rw[bne_eq_false_iff_eq];exact c0
  by_cases c1:(l[((j:Nat):Int).toNat]'hlt0).port=(m[((j:Nat):Int).toNat]'hlm0).port
  rotate_left
  ·have g1:((l[((j:Nat):Int).toNat]'hlt0).port != (m[((j:Nat):Int).toNat]'hlm0).port)=true:=by rw[yQ];exact c1
   have hn:b=false:=hno (λ e=>c1 (by rw[e]))
   subst hn
   refine T ?_
   exact D
  have g1:((l[((j:Nat):Int).toNat]'hlt0).port != (m[((j:Nat):Int).toNat]'hlm0).port)=false:=by rw[bne_eq_false_iff_eq];exact c1
  by_cases c2:(l[((j:Nat):Int).toNat]'hlt0).domain=(m[((j:Nat):Int).toNat]'hlm0).domain
  rotate_left
  ·have g2:((l[((j:Nat):Int).toNat]'hlt0).domain != (m[((j:Nat):Int).toNat]'hlm0).domain)=true:=by rw[yQ];exact c2
   have hn:b=false:=hno (λ e=>c2 (by rw[e]))
   subst hn
   refine T ?_
   exact D
  have g2:((l[((j:Nat):Int).toNat]'hlt0).domain != (m[((j:Nat):Int).toNat]'hlm0).domain)=false:=by rw[bne_eq_false_iff_eq];exact c2
  by_cases c3:(l[((j:Nat):Int).toNat]'hlt0).at_=(m[((j:Nat):Int).toNat]'hlm0).at_
  rotate_left
  ·have g3:((l[((j:Nat):Int).toNat]'hlt0).at_ != (m[((j:Nat):Int).toNat]'hlm0).at_)=true:=by rw[yQ];exact c3
   have hn:b=false:=hno (λ e=>c3 (by rw[e]))
   subst hn
   refine T ?_
   exact D
  have g3:((l[((j:Nat):Int).toNat]'hlt0).at_ != (m[((j:Nat):Int).toNat]'hlm0).at_)=false:=by rw[bne_eq_false_iff_eq];exact c3
  by_cases c4:(l[((j:Nat):Int).toNat]'hlt0).bytes=(m[((j:Nat):Int).toNat]'hlm0).bytes
  rotate_left
  ·have g4:(!((⟨(l[((j:Nat):Int).toNat]'hlt0).bytes.toArray⟩:ByteArray) == ⟨(m[((j:Nat):Int).toNat]'hlm0).bytes.toArray⟩))=true:=by rw[Am2 c4];rfl
   have hn:b=false:=hno (λ e=>c4 (by rw[e]))
   subst hn
   refine T ?_
   refine X (Cd Γ.toTy (bs:=(l[((j:Nat):Int).toNat]'hlt0).bytes) E E E E E E E .sl) ?_
   refine X (Cd Γ.toTy (bs:=(m[((j:Nat):Int).toNat]'hlm0).bytes) E E E E E E E .sl) ?_
   exact D
  have g4:(!((⟨(l[((j:Nat):Int).toNat]'hlt0).bytes.toArray⟩:ByteArray) == ⟨(m[((j:Nat):Int).toNat]'hlm0).bytes.toArray⟩))=false:=by rw[Am3 c4];rfl
  by_cases c5:(l[((j:Nat):Int).toNat]'hlt0).up.length=(m[((j:Nat):Int).toNat]'hlm0).up.length
  rotate_left
  ·have g5:(((l[((j:Nat):Int).toNat]'hlt0).up.length:Int) != ((m[((j:Nat):Int).toNat]'hlm0).up.length:Int))=true:=by rw[yQ];omega
   have hn:b=false:=hno (λ e=>c5 (by rw[e]))
   subst hn
   refine T ?_
   refine X (Cd Γ.toTy (bs:=(l[((j:Nat):Int).toNat]'hlt0).bytes) E E E E E E E .sl) ?_
   refine X (Cd Γ.toTy (bs:=(m[((j:Nat):Int).toNat]'hlm0).bytes) E E E E E E E .sl) ?_
   exact D
  have g5:(((l[((j:Nat):Int).toNat]'hlt0).up.length:Int) != ((m[((j:Nat):Int).toNat]'hlm0).up.length:Int))=false:=by rw[bne_eq_false_iff_eq];omega
  refine T ?_
  refine X (Cd Γ.toTy (bs:=(l[((j:Nat):Int).toNat]'hlt0).bytes) E E E E E E E .sl) ?_
  refine X (Cd Γ.toTy (bs:=(m[((j:Nat):Int).toNat]'hlm0).bytes) E E E E E E E .sl) ?_
  refine A5 (l[((j:Nat):Int).toNat]'hlt0).up.length (λ k=>(l[((j:Nat):Int).toNat]'hlt0).up.take k=(m[((j:Nat):Int).toNat]'hlm0).up.take k) (λ k=>[(0,.sl 6 B0 l),(1,.sl 6 B0 m),(5,Aa j),(6,.ptr 6 0),(7,.ptr 7 0),(8,Aa k)]) (λ _=>[(6,.box (cellsOf (B0 (l[((j:Nat):Int).toNat]'hlt0)))),(7,.box (cellsOf (B0 (m[((j:Nat):Int).toNat]'hlm0))))]) [] E U ?_
  intro k hk hK
  refine T ?_
  constructor<;>intro h
  ·have kl:k<(l[((j:Nat):Int).toNat]'hlt0).up.length:=qA h
   have km:k<(m[((j:Nat):Int).toNat]'hlm0).up.length:=by omega
   have kl0:((k:Nat):Int).toNat<(l[((j:Nat):Int).toNat]'hlt0).up.length:=kl
   have km0:((k:Nat):Int).toNat<(m[((j:Nat):Int).toNat]'hlm0).up.length:=km
   clear h
   by_cases he:(l[((j:Nat):Int).toNat]'hlt0).up[k]=(m[((j:Nat):Int).toNat]'hlm0).up[k]
   ·have f1:((l[((j:Nat):Int).toNat]'hlt0).up[((k:Nat):Int).toNat]'kl0 != (m[((j:Nat):Int).toNat]'hlm0).up[((k:Nat):Int).toNat]'km0)=false:=by rw[bne_eq_false_iff_eq];exact he
    refine T ?_
    refine A4 [] hK q_ ?_ U
    rw[zW kl,zW km,hK,he]
   ·have f1:((l[((j:Nat):Int).toNat]'hlt0).up[((k:Nat):Int).toNat]'kl0 != (m[((j:Nat):Int).toNat]'hlm0).up[((k:Nat):Int).toNat]'km0)=true:=by rw[yQ];exact he
    have hn:b=false:=hno (λ e=>he (by simp only[e]))
    subst hn
    refine T ?_
    exact D
  ·have hke:k=(l[((j:Nat):Int).toNat]'hlt0).up.length:=qB h
   clear h
   have hup2:(l[((j:Nat):Int).toNat]'hlt0).up=(m[((j:Nat):Int).toNat]'hlm0).up:=by
    rw[hke,yG,c5,yG]at hK
    exact hK
   refine T ?_
   refine A4 [] hI q_ (hyes (Av8 c0 c1 c2 c3 c4 hup2)) U
 ·have hje:j=l.length:=qB h
  subst hje
  have hn:b=true:=Wk hb (by
   rw[yG,hlen,yG]at hI
   exact hI)
  subst hn
  clear h
  refine T ?_
  exact D
theorem Ak1 (x y:ReportM) (b:Bool) (hb:b=true↔x=y) (hl:x.script.length≤1000000) (hs:∀ s∈x.script,s.up.length≤1000000):Sp 7 [Cj x,Cj y] (Ab b):=cT F7 Tryz.ntmps7 λ F hF=>by
 obtain ⟨k,w,r,e,f,t,l⟩:=x
 obtain ⟨k',w',r',e',f',t',l'⟩:=y
 dsimp only at hl hs
 by_cases e1:k=k'
 rotate_left
 ·have f1:(k == k')=false:=by rw[zL];exact e1
  have hn:b=false:=D4 hb (by intro h;injection h;contradiction)
  subst hn
  refine T ?_
  exact D
 have f1:(k == k')=true:=by rw[yF];exact e1
 by_cases e2:w=w'
 rotate_left
 ·have f2:(w == w')=false:=by rw[zL];exact e2
  have hn:b=false:=D4 hb (by intro h;injection h;contradiction)
  subst hn
  refine T ?_
  exact D
 have f2:(w == w')=true:=by rw[yF];exact e2
 by_cases e3:r=r'
 rotate_left
 ·have f3:(r == r')=false:=by rw[zL];exact e3
  have hn:b=false:=D4 hb (by intro h;injection h;contradiction)
  subst hn
  refine T ?_
  exact D
 have f3:(r == r')=true:=by rw[yF];exact e3
 by_cases e4:e=e'
 rotate_left
 ·have f4:(e == e')=false:=by rw[zL];exact e4
  have hn:b=false:=D4 hb (by intro h;injection h;contradiction)
  subst hn
  refine T ?_
  exact D
 have f4:(e == e')=true:=by rw[yF];exact e4
 by_cases e5:f=f'
 rotate_left
 ·have f5:(f == f')=false:=by rw[zL];exact e5
  have hn:b=false:=D4 hb (by intro h;injection h;contradiction)
  subst hn
  refine T ?_
  exact D
 have f5:(f == f')=true:=by rw[yF];exact e5
 by_cases e6:t=t'
 rotate_left
 ·have f6:(t == t')=false:=by rw[zL];exact e6
  have hn:b=false:=D4 hb (by intro h;injection h;contradiction)
  subst hn
  refine T ?_
  exact D
 have f6:(t == t')=true:=by rw[yF];exact e6
 have q:=Av7 l l' b ⟨λ h=>by have:=hb.1 h;injection this,λ h=>Wk hb (by rw[e1,e2,e3,e4,e5,e6,h])⟩ hl hs
 refine T ?_
 refine C q F15 ?_
 exact D
theorem Ad6 (l:List Hop) (p:Hop→Bool) (f:FuncId) (first cap:List SV) (hc:(SV.clo (.func f) first cap).inn []=true) (hf:∀ x∈l,D9 Tryz.prog f (first++[Cz x]++cap) (Ab (p x))) (hl:Ak l) :
  Sp 155 [.sl 4 Cz l,.clo (.func f) first cap] (Aa (Co p l)):=cT F155 Tryz.ntmps155 λ F hF=>by
 unfold Ak at hl
 have hin:∀ x:Hop,By [] (first++[Cz x]++cap)=true:=λ x=>Cs hc rfl
 refine fW ?_
 refine A5 l.length (λ j=>Hc (λ _ x=>!(p x)) l j) (λ j=>[(0,.sl 4 Cz l),(1,.clo (.func f) first cap),(7,Aa l.length),(8,Aa j)]) (λ _=>[]) [] (Bj _ _) ⟨⟨E,E,A8 _,hc,E,E,E,E,Y⟩,Y,E,E⟩ ?_
 intro j hj hI
 refine fU ?_
 constructor<;>intro h
 ·have h:=zK h
  have hj2:j<l.length:=by omega
  refine fU ?_
  refine⟨E,by omega,by omega,?_⟩
  refine fW ?_
  refine Dj (hf l[j] (zJ hj2)) E E E (by simp only[hin];rfl) E E ?_
  refine fU ?_
  constructor<;>intro h2
  ·refine fU ?_
   refine Aq E (.cons .tmp .nil) (zG Aa ?_) E
   exact Cr hj2 (λ i hi hij=>by simpa using hI i hi hij) h2
  ·refine fU ?_
   refine iL ?_
   refine fW ?_
   exact A4 [] hI hj2 (Bh hI hj2 (by simp[h2])) ⟨⟨E,E,A8 _,hc,E,E,E,E,Y⟩,Y,E,E⟩
 ·have h:=zT h
  refine fU ?_
  refine Aq E (.cons .tmp .nil) (zG Aa ?_) E
  exact C7 λ i hi=>by simpa using hI i hi q_
theorem Aos (h:Hop):Sp 156 [Cz h] (Ab (decide (h.kind=3))):=cT F156 Tryz.ntmps156 λ F hF=>by
 refine T ?_
 exact D
theorem A0q {α:Type} {p:α→Bool} {l:List α} {i:Int} (h:Co p l=i) (h0:0≤i):∃ hi:i.toNat<l.length,p l[i.toNat]=true:=by
 rcases Qi p l with ⟨h1,_⟩ | ⟨k,hk,h1,h2,_⟩
 ·omega
 ·have e:i.toNat=k:=by omega
  subst e
  exact⟨hk,h2⟩
theorem Azf (a:Nat) (h:a<4294967296):PacketOK (Abh a):=⟨by show 0≤255;decide,by show 0≤65535;decide,by show 64≤255;decide,by show 17≤255;decide,by show 1<4294967296;decide,h⟩
theorem Ava (a:Nat):(ipPutT (Abh a)).1.length=20:=by
 rw[ipPutT,zD (by show ¬ 1480<0;decide)]
 show (Jv (Abh a) _++[]).length=20
 rw[xK]
 rfl
theorem Alq {n:Net} (hu:C8 n) (d:Int):0≤(nth n.irbs d).addr∧(nth n.irbs d).addr<4294967296:=by
 rw[nth]
 cases h:n.irbs[d.toNat]? with
 | none=>exact⟨by decide,by decide⟩
 | some x=>exact hu x (List.mem_of_getElem? h)
theorem Ahh {n:Net} (hu:C8 n) (l:List Hop):FrameOK (frameW n l):=by
 unfold frameW
 split
 ·have:=Alq hu (nth n.domains (nth l (Zg l-1)).domain).irb
  refine⟨?_,by show 2203318222849<281474976710656;decide,by show 2048≤65535;decide,?_⟩
  ·show 2199023255552+(irbOf n l).addr.toNat<281474976710656
   unfold irbOf
   omega
  ·show (ipPutT _).1.length≤1504
   rw[Ava];decide
 ·exact⟨by decide,by decide,by decide,by decide⟩
theorem Asi (n:Net) (hn:n.Fin) (hu:C8 n) (l:List Hop) (hl:Ak l) (hla:∀ h∈l,0≤h.addr∧h.addr<4294967296) :
  Sp 87 [Al n,.sl 4 Cz l] (.tup [.sl 1 Ah (wayBytes n l).1,Aa (wayBytes n l).2]):=cT F87 Tryz.ntmps87 λ F hF=>by
 have hres:=wayBytes.eq_1 n l
 generalize wayBytes n l=res at *
 have hr:=Ax n hn
 have hl2:=hl
 unfold Ak at hl2
 refine fW ?_
 constructor<;>intro h
 ·have h0:l=[]:=zU (qA h)
  rw[zD (λ x=>x.2.1 h0)]at hres
  subst hres
  refine T ?_
  refine Am 4 1 Ah E ?_
  exact D
 have h0:0<l.length:=qB h
 clear h
 have hne:l≠[]:=λ e=>by rw[e]at h0;simp at h0
 refine A7 2 8 (Al n) E E E ?_
 refine T ?_
 refine C hr F24 ?_
 cases hb:Ac n
 ·rw[zD (λ x=>by rw[hb]at x;cases x.1)]at hres
  subst hres
  refine T ?_
  refine Am 4 1 Ah E ?_
  exact D
 refine T ?_
 refine A5 l.length (λ j=>Hc (stepB n l) l j) (λ j=>[(1,.sl 4 Cz l),(2,.ref 8 (Al n) 0),(6,.ptr 6 0),(22,.sl 4 Cz l),(23,Aa l.length),(24,Aa j)]) (λ _=>[(6,.box [Bf 281474976710655,Bf 2203318222849,Aa 34997,.val (.slice none 0 0)])]) [] (Bj _ _) U ?_
 intro j hj hI
 refine T ?_
 constructor<;>intro h
 ·have hlt:j<l.length:=qA h
  have hj0:((j:Nat):Int).toNat<l.length:=by simpa using hlt
  obtain ⟨x,hoo⟩:∃ x,l[j]=x:=⟨_,rfl⟩
  have e1:l[((j:Nat):Int).toNat]'hj0=x:=hoo
  have hst:=stepB.eq_1 n l j x
  have hbad:stepB n l j x=false→res=([],2):=λ h2=>by
   rw[zD (λ y=>by have:=allB_iff.1 y.2.2 j hlt;rw[hoo,h2]at this;cases this)]at hres
   exact hres
  clear h
  refine S ?_
  refine⟨E,by omega,hj0,?_⟩
  rw[e1]
  by_cases hd1:x.domain<0
  ·have hres:=hbad (by rw[hst,Xf q_,yA])
   subst hres
   refine T ?_
   refine Am 4 1 Ah E ?_
   exact D
  by_cases hd2:(n.domains.length:Int)≤x.domain
  ·have hres:=hbad (by rw[hst,Xf q_,yA])
   subst hres
   refine T ?_
   refine Am 4 1 Ah E ?_
   exact D
  have hpl:=Mb (n:=n.domains.length) (i:=x.domain) q_
  rw[hpl,zZ]at hst
  by_cases hk:x.kind=3
  rotate_left
  ·rw[zI hk,yA]at hst
   refine T ?_
   exact A4 [] hI hlt (Bh hI hlt (by rw[hoo];exact hst)) U
  rw[zR hk,zZ]at hst
  by_cases hj1:j=0
  ·have hres:=hbad (by rw[hst,zR hj1];rfl)
   subst hres
   refine T ?_
   refine Am 4 1 Ah E ?_
   exact D
  rw[zI hj1,uP]at hst
  have hk1:((j:Int)-1).toNat<l.length:=by omega
  have hpr:=hI (j-1) q_ q_
  have hpr2:An (l[((j:Int)-1).toNat]'hk1).domain n.domains.length=true:=by
   have e:((j:Int)-1).toNat=j-1:=by omega
   simp only[e]
   unfold stepB at hpr
   simp only[zH]at hpr
   exact hpr.1
  have hpi:=placeB_iff.1 hpr2
  rw[Aj hk1,Aj hpi.2]at hst
  by_cases hir:(n.domains[(l[((j:Int)-1).toNat]'hk1).domain.toNat]'hpi.2).irb<0
  ·have hres:=hbad (by rw[hst,zR hir];rfl)
   subst hres
   refine T ?_
   refine⟨λ _=>?_,λ h=>yB hir (zT h)⟩
   refine T ?_
   refine Am 4 1 Ah E ?_
   exact D
  rw[zI hir]at hst
  refine T ?_
  refine⟨λ h=>yB (zK h) hir,λ _=>?_⟩
  refine T ?_
  exact A4 [] hI hlt (Bh hI hlt (by rw[hoo];exact hst)) U
 ·have hjj:j=l.length:=qB h
  subst hjj
  clear h
  have hall:Ho (stepB n l) l=true:=allB_iff.2 λ i hi=>hI i hi hi
  rw[zE ⟨hb,hne,hall⟩]at hres
  subst hres
  have qi:=Ad6 l (λ h=>decide (h.kind=3)) 156 [] [] rfl (λ x hx=>⟨⟨_,_,F156⟩,Aos x⟩) hl
  have hri:Co (λ h=>decide (h.kind=3)) l=Zg l:=rfl
  rw[hri]at qi
  have hlt:=Hk (λ h:Hop=>decide (h.kind=3)) l
  have his:=λ h0=>A0q hri h0
  rw[hri]at hlt
  have q7:=K8 (frameW n l) (Ahh hu l)
  have hfw:=frameW.eq_1 n l
  have hirb:=irbOf.eq_1 n l
  generalize irbOf n l=ib at *
  generalize Zg l=r at *
  refine T ?_
  refine C qi F155 ?_
  constructor<;>intro h
  ·have h1:0<r:=zK h
   rw[zE h1]at hfw
   obtain ⟨hr0,hr3⟩:=his q_
   have hst:=allB_iff.1 hall r.toNat hr0
   have hk1:(r-1).toNat<l.length:=by omega
   have hpr2:An (l[(r-1).toNat]'hk1).domain n.domains.length=true:=by
    have hpr:=allB_iff.1 hall (r-1).toNat hk1
    unfold stepB at hpr
    simp only[zH]at hpr
    exact hpr.1
   have hpi:=placeB_iff.1 hpr2
   unfold stepB at hst
   rw[hr3,show ((r.toNat:Int)-1)=r-1 by omega,Aj hk1,Aj hpi.2]at hst
   simp only[zH,zZ,yX,wR,zY]at hst
   have hin:=(Auq hb hpi.2).resolve_left q_
   have hin1:0≤(n.domains[(l[(r-1).toNat]'hk1).domain.toNat]'hpi.2).irb∧(n.domains[(l[(r-1).toNat]'hk1).domain.toNat]'hpi.2).irb.toNat<n.irbs.length:=by unfold InIrbs at hin;omega
   rw[Aj hk1,Aj hpi.2,Aj hin1.2]at hirb
   rw[Aj hr0]at hfw
   have ha:=hla _ (zJ hr0)
   have hae:=xN ha.1
   have hxa:=hu _ (zJ hin1.2)
   have hxe:=xN hxa.1
   have q5:Sp 157 [.agg [Aa 0,Aa 0,Aa 64,Aa 17,A6 1,A6 ((l[r.toNat]'hr0).addr.toNat:Nat),.sl 1 Ah []]] (.tup [.sl 1 Ah (ipPutT (Abh (l[r.toNat]'hr0).addr.toNat)).1,Aa (ipPutT (Abh (l[r.toNat]'hr0).addr.toNat)).2]):=Ai8 (Abh (l[r.toNat]'hr0).addr.toNat) (Azf _ q_) (by show 0<100000;decide)
   rw[hae]at q5
   have q6:=Ahb (n.irbs[(n.domains[(l[(r-1).toNat]'hk1).domain.toNat]'hpi.2).irb.toNat]'hin1.2).addr.toNat q_
   rw[hxe]at q6
   subst hirb
   rw[hfw]at q7 ⊢
   clear hfw
   generalize (ipPutT (Abh (l[r.toNat]'hr0).addr.toNat)).1=bo at *
   refine T ?_
   refine Avd 74 (.agg [Aa 0,Aa 0,Aa 64,Aa 17,A6 1,A6 (l[r.toNat]'hr0).addr,.sl 1 Ah []]) (.agg vL) ?_
   refine C q5 F157 ?_
   refine C q6 F158 ?_
   refine Af (Ad [(0,999)] E F90 q7 E Y E ⟨.inr E,Y⟩) E E ?_
   refine Ag 999 E ?_
   refine T ?_
   exact D
  ·have h1:¬ 0<r:=zT h
   rw[zD h1]at hfw
   rw[hfw]at q7 ⊢
   clear hfw
   refine T ?_
   refine Avd 99 (.agg [Bf 281474976710655,Bf Aie,Aa 34997,.sl 1 Ah []]) (.agg vL) ?_
   refine Af (Ad [(0,999)] E F90 q7 E Y E ⟨.inr E,Y⟩) E E ?_
   refine Ag 999 E ?_
   refine T ?_
   exact D
theorem Agg (b:List UInt8):FrameOK (takeF b).1:=by
 by_cases h:(takeF b).2=0
 ·exact Acm h
 ·rw[Asq h];exact Dy
theorem Akl {f:FrameM} (hf:FrameOK f) (v:Nat) (hv:v≤4094):FrameOK (tagT f v).1:=by
 by_cases h:(tagT f v).2=0
 ·exact Av0 hf v hv h
 ·unfold tagT at h ⊢
  split
  ·exact Dy
  ·rename_i h1
   rw[zD h1]at h
   split
   ·exact Dy
   ·rename_i h2
    rw[zD h2]at h
    exact yB E h
theorem Wn {n:Net} (hu:C8 n) (l:List Hop):(wayBytes n l).1.length≤1518:=by
 unfold wayBytes
 split
 ·show (Xc _).length≤1518
  rw[I1]
  have:=(Ahh hu l).body
  omega
 ·show 0≤1518;decide
theorem Ano (n:Net) (hn:n.Fin) (hu:C8 n) (hb:Ac n=true) (port:Int) (hp:0≤port∧port.toNat<n.ports.length) (l:List Hop) (hl:Ak l) (hla:∀ h∈l,Yv n h) (h0:0<l.length) :
  Sp 39 [Al n,Aa port,.sl 4 Cz l] (B0 (injectW n port l)):=cT F39 Tryz.ntmps39 λ F hF=>by
 have hk0:(0:Int).toNat<l.length:=h0
 have hd:=hla _ (zJ hk0)
 have q1:=Asi n hn hu l hl (λ h hh=>(hla h hh).2)
 have hwl:=Wn (n:=n) hu l
 have hv:=Wb hb hd.1.2
 have hres:=injectW.eq_1 n port l
 rw[Aj hk0,Aj hd.1.2,Aj hp.2]at hres
 generalize injectW n port l=res at *
 obtain ⟨ve,hve⟩:∃ v:Nat,(n.domains[(l[(0:Int).toNat]'hk0).domain.toNat]'hd.1.2).vlan=v:=⟨_,(xN q_).symm⟩
 have hd1:0≤(l[(0:Int).toNat]'hk0).domain∧(l[(0:Int).toNat]'hk0).domain.toNat<n.domains.length:=hd.1
 have q3:=λ f hf=>Akm f ve hf q_
 have ho:=λ f hf=>Akl (f:=f) hf ve q_
 rw[← hve]at q3 ho
 clear hve
 generalize wayBytes n l=bb at *
 have q2:=Qj bb.1 q_
 have hf:=Agg bb.1
 generalize takeF bb.1=tk at *
 have q3:=q3 _ hf
 have q4:=K8 _ (ho _ hf)
 clear ho
 refine fW ?_
 refine A7 3 8 (Al n) E E E ?_
 refine T ?_
 refine C q1 F87 ?_
 constructor<;>intro h
 ·have hv2:(n.domains[(l[(0:Int).toNat]'hk0).domain.toNat]'hd.1.2).vlan≠(n.ports[port.toNat]'hp.2).native:=by simpa using h
  rw[zE hv2]at hres
  clear h hv hv2
  generalize tagT tk.1 (n.domains[(l[(0:Int).toNat]'hk0).domain.toNat]'hd.1.2).vlan=tg at *
  subst hres
  refine T ?_
  refine C q2 F88 ?_
  refine C q3 F89 ?_
  refine Af (Ad [(0,55)] E F90 q4 E Y E ⟨.inr E,Y⟩) E E ?_
  refine Ag 55 E ?_
  refine T ?_
  refine Ai 6 [Aa 1,Aa port,Aa 0,Aa 0,.sl 1 Ah (Xc tg.1),.sl 1 Ab []] E vL ?_
  exact D
 ·have hv2:¬ (n.domains[(l[(0:Int).toNat]'hk0).domain.toNat]'hd.1.2).vlan≠(n.ports[port.toNat]'hp.2).native:=by simpa using h
  rw[zD hv2]at hres
  subst hres
  refine T ?_
  refine Ai 6 [Aa 1,Aa port,Aa 0,Aa 0,.sl 1 Ah bb.1,.sl 1 Ab []] E vL ?_
  exact D
abbrev stO (n:Net) (s:GoM):Obs:=[(0,.box (Sg n 1 s.m.now s.m.injected s.m.drops)),(1,.box (Kc n s.m.up s.d)),(2,.row 1 Mz s.m.tables),(3,.row 1 Qw s.m.queues),(5,.box [.ptr 0 0]),(6,.box [.osl 7]),(7,.row 6 B0 s.out)]
abbrev stN (n:Net) (s:GoM):Obs:=[(0,.box (Sg n 4 s.m.now s.m.injected s.m.drops)),(1,.non),(2,.row 1 Mz s.m.tables),(3,.row 1 Qw s.m.queues),(4,.box (Kc n s.m.up s.d)),(5,.box [.ptr 0 0]),(6,.box [.osl 8]),(7,.non),(8,.row 6 B0 s.out)]
abbrev doSV:SV:=.clo (.func 35) [] [.ptr 5 0,.ptr 6 0]
abbrev pkO (n:Net) (s:GoM):Obs:=[(0,.box (Sg n 1 s.m.now s.m.injected s.m.drops)),(1,.box (Kc n s.m.up s.d)),(2,.row 1 Mz s.m.tables),(3,.row 1 Qw s.m.queues),(5,.box [.ptr 0 0]),(6,.box [.osl 7]),(7,.row 6 B0 s.out),(9,.box [doSV])]
abbrev pkN (n:Net) (s:GoM):Obs:=[(0,.box (Sg n 4 s.m.now s.m.injected s.m.drops)),(1,.non),(2,.row 1 Mz s.m.tables),(3,.row 1 Qw s.m.queues),(4,.box (Kc n s.m.up s.d)),(5,.box [.ptr 0 0]),(6,.box [.osl 8]),(7,.non),(8,.row 6 B0 s.out),(9,.box [doSV])]
theorem Avh (n:Net) (hn:n.Fin) (hm1:n.Num) (s:GoM) (J D:Int) (hm0:MacOK n s.m J D) (hJ:J<900000000000) (hD0:0≤D) (hD:D≤900000000000) (hlen:s.out.length<1000000) (x:StepM) (hb:x.bytes.length<100000) :
  Sq 35 [B0 x,.ptr 5 0,.ptr 6 0] (stO n s) (.tup []) (stN n (doW n s x)):=cT F35 Tryz.ntmps35 λ F hF=>by
 have q1:=Awh n hn hm1 s.m s.d J D hm0 hJ hD0 hD x hb
 have hres:=doW.eq_1 n s x
 generalize doT n s.m x=r at *
 generalize doD n s.m s.d x=dd at *
 generalize doW n s x=res at *
 subst hres
 refine fW ?_
 refine X (X8 (d:=900) E E E) ?_
 refine X (Ad [] E F36 q1 E W E V) ?_
 refine X (Ae Γ.toTy 8 E E E E E (.row E) (.lit (e:=B0) (l:=[x]) E E) y_ (by simp;omega) (by simp;omega)) ?_
 exact A1 E .nil [] (stN n ⟨r.1,dd,s.out++[x]⟩) (λ _ h=>h) E E U
theorem Azm (n:Net) (hn:n.Fin) (hm1:n.Num) (m:MacM) (d:Bool) (J D:Int) (hm0:MacOK n m J D) (hJ:J<900000000000) (hD0:0≤D) (hD:D≤900000000000) (x:StepM) (hb:x.bytes.length<100000) :
  Sq 35 [B0 x,.ptr 5 0,.ptr 6 0] [(0,.box (Sg n 1 m.now m.injected m.drops)),(1,.box (Kc n m.up d)),(2,.row 1 Mz m.tables),(3,.row 1 Qw m.queues),(5,.box [.ptr 0 0]),(6,.box [.val (.slice none 0 0)])] (.tup [])
   [(0,.box (Sg n 4 (doW n ⟨m,d,[]⟩ x).m.now (doW n ⟨m,d,[]⟩ x).m.injected (doW n ⟨m,d,[]⟩ x).m.drops)),(1,.non),(2,.row 1 Mz (doW n ⟨m,d,[]⟩ x).m.tables),(3,.row 1 Qw (doW n ⟨m,d,[]⟩ x).m.queues),(4,.box (Kc n (doW n ⟨m,d,[]⟩ x).m.up (doW n ⟨m,d,[]⟩ x).d)),(5,.box [.ptr 0 0]),(6,.box [.osl 8]),(8,.row 6 B0 (doW n ⟨m,d,[]⟩ x).out)]:=cT F35 Tryz.ntmps35 λ F hF=>by
 have q1:=Awh n hn hm1 m d J D hm0 hJ hD0 hD x hb
 have hres:=doW.eq_1 n ⟨m,d,[]⟩ x
 dsimp only at hres
 generalize doT n m x=r at *
 generalize doD n m d x=dd at *
 generalize doW n ⟨m,d,[]⟩ x=res at *
 subst hres
 refine fW ?_
 refine X (X8 (d:=900) E E E) ?_
 refine X (Ad [] E F36 q1 E W E V) ?_
 refine X (Ae Γ.toTy 8 E E E E E .nil (.lit (e:=B0) (l:=[x]) E E) y_ y_ y_) ?_
 exact A1 E .nil [] [(0,.box (Sg n 4 r.1.now r.1.injected r.1.drops)),(1,.non),(2,.row 1 Mz r.1.tables),(3,.row 1 Qw r.1.queues),(4,.box (Kc n r.1.up dd)),(5,.box [.ptr 0 0]),(6,.box [.osl 8]),(8,.row 6 B0 ([]++[x]))] (λ _ h=>h) E E U
theorem Aug {P:Program} {o:Oper} {s:SS} {x y:Operand} {at_:Array TypeId} {k k':IntKind} {m n r:Int} (hr:(if m<n then n else m)=r) (h:o.op=.call ⟨.builtin .max,#[x,y],at_⟩)
  (hx:ev s x=.val (.int k m)) (hy:ev s y=.val (.int k' n)):Good P o s ⟨.val (.int k r),[],[]⟩:=by
 subst hr
 exact Good.pure λ κ a w _ hr ho=>by
  have h1:=hr x (by simp[h,Op.operands,Call.operands])
  have h2:=hr y (by simp[h,Op.operands,Call.operands])
  rw[hx]at h1
  rw[hy]at h2
  refine⟨.int k (if m<n then n else m),?_,by simp[Rd]⟩
  simp[execOp,h,resolve,invoke,builtin,Builtin.max_,Builtin.max2,h1.val,h2.val]
theorem Ace (n:Net) (hn:n.Fin) (hm1:n.Num) (s:GoM) (J D:Int) (hm0:MacOK n s.m J D) (hJ:J<900000000000) (hD0:0≤D) (hD:D≤900000000000) (hlen:s.out.length<1000000) (dom:Int) :
  Sq 37 [Aa dom,.ptr 9 0,.ptr 5 0] (pkO n s) (.tup []) (pkN n (Xg n s dom)):=cT F37 Tryz.ntmps37 λ F hF=>by
 have hqo:=Hy hm0 dom
 have q1:=As6 n s.m s.d dom hqo
 have q2:=Avh n hn hm1 s J D hm0 hJ hD0 hD hlen (pickX s.m dom) (by show 0<100000;decide)
 rw[Xg]
 generalize doW n s (pickX s.m dom)=res at *
 have hpx:=pickX.eq_1 s.m dom
 have hql:(if An dom s.m.queues.length=true then queueL s.m dom else []).length<1000000:=by
  have:=hqo.1
  split
  ·omega
  ·simp
 generalize (if An dom s.m.queues.length=true then queueL s.m dom else [])=qs at *
 obtain ⟨v,hv⟩:∃ v:Int,(if (qs.length:Int)-1<0 then 0 else (qs.length:Int)-1)=v:=⟨_,rfl⟩
 rw[hv]at hpx
 generalize pickX s.m dom=px at *
 subst hpx
 refine T ?_
 refine Xe (Ad [] E F38 q1 E W E V) ?_
 refine Xd (Aug hv E E E) ?_
 refine Xd (Ki [] [] (At E E F35) q2 (.cons (.agg vL) (.cons (.refl _) (.cons (.refl _) .nil))) W E V E) ?_
 exact A1 E .nil [] (pkN n res) (λ _ h=>h) E E U
end Go.Sy.YtiijbikecbjdaaaGreatDoor
namespace Go.Sy.YtiijbikecbjdaaaGreatDoor
open Go.Proofs
theorem Ajl {n:Net} (hn:n.Fin) (hm1:n.Num) {s:GoM} {J D:Int} (h:MacOK n s.m J D) (hJ:0≤J) (hD:0≤D) (x:StepM):MacOK n (doW n s x).m (J+1) (D+4294967298)∧(doW n s x).out.length=s.out.length+1 :=
 ⟨doT_ok hn hm1 h hJ hD x,by simp[doW]⟩
theorem Axw {n:Net} (hn:n.Fin) (hm1:n.Num) {s:GoM} {J D:Int} (h:MacOK n s.m J D) (hJ:0≤J) (hD:0≤D) (x:Hop):MacOK n (linkW n s x).m (J+1) (D+4294967298)∧(linkW n s x).out.length≤s.out.length+1:=by
 unfold linkW
 split
 ·have:=Ajl hn hm1 h hJ hD ⟨5,0,0,0,[],upW n x⟩
  exact⟨this.1,by omega⟩
 ·exact⟨h.mono q_ q_,by omega⟩
theorem Ayi {n:Net} (hn:n.Fin) (hm1:n.Num) (from_:Int) (l:List Hop):∀ k:Nat,MacOK n (goW n from_ l k).m (1+2 * k) ((1+2 * k) * 4294967298)∧(goW n from_ l k).out.length≤1+2 * k
 | 0=>by
  have:=Ajl hn hm1 (s:=⟨newT n,false,[]⟩) (Arp n) (wE _) (wE _) (injectW n from_ l)
  rw[goW]
  exact⟨this.1.mono q_ q_,by rw[this.2];simp⟩
 | k+1=>by
  obtain ⟨h1,h2⟩:=Ayi hn hm1 from_ l k
  rw[goW]
  have h3:=Axw hn hm1 h1 q_ q_ (nth l ((k+1:Nat):Int))
  have h4:=Ajl hn hm1 h3.1 q_ q_ (pickX (linkW n (goW n from_ l k) (nth l ((k+1:Nat):Int))).m (nth l ((k:Nat):Int)).domain)
  refine⟨h4.1.mono q_ q_,?_⟩
  have h5:=h4.2
  unfold Xg
  omega
theorem Amb {n:Net} (hu:C8 n) (hb:Ac n=true) (from_:Int) {l:List Hop} (h0:0<l.length) (hla:∀ h∈l,Yv n h):(injectW n from_ l).bytes.length<100000:=by
 have hk0:(0:Int).toNat<l.length:=h0
 have hd:=hla _ (zJ hk0)
 have hv:=Wb hb hd.1.2
 show (if _ then _ else _:List UInt8).length<100000
 rw[Aj hk0,Aj hd.1.2]
 obtain ⟨ve,hve⟩:∃ v:Nat,(n.domains[(l[(0:Int).toNat]'hk0).domain.toNat]'hd.1.2).vlan=v:=⟨_,(xN q_).symm⟩
 rw[hve]
 split
 ·rw[I1]
  have:=(Akl (Agg (wayBytes n l).1) ve q_).body
  omega
 ·have:=Wn (n:=n) hu l
  omega
attribute [local irreducible] Go.Sy.G Go.Sy.DR
set_option maxRecDepth 100000
set_option maxHeartbeats 8000000
theorem Ann (n:Net) (hn:n.Fin) (hm1:n.Num) (hu:C8 n) (from_ to:Int) :
  Sp 18 [Al n,Aa from_,Aa to] (.tup [.sl 6 B0 (wscriptT n from_ to).1,Aa (wscriptT n from_ to).2]):=cT F18 Tryz.ntmps18 λ F hF=>by
 have hlk:=wscriptT.eq_1 n from_ to
 generalize wscriptT n from_ to=res at *
 have h1:=Wm n from_
 have h2:=Wm n to
 have hls:=hn.links
 unfold Ak at hls
 refine fW ?_
 refine A7 3 8 (Al n) E E E ?_
 refine T ?_
 refine C h1 F33 ?_
 cases hf:Mf n from_
 ·rw[zD (λ x=>by rw[hf]at x;cases x.1)]at hlk
  subst hlk
  refine T ?_
  refine Am 6 6 B0 E ?_
  exact D
 refine T ?_
 refine C h2 F33 ?_
 cases ht:Mf n to
 ·rw[zD (λ x=>by rw[ht]at x;cases x.2.1)]at hlk
  subst hlk
  refine T ?_
  refine Am 6 6 B0 E ?_
  exact D
 refine T ?_
 constructor<;>intro h
 ·rw[zD (λ x=>x.2.2.1 (by simpa using h))]at hlk
  subst hlk
  refine T ?_
  refine Am 6 6 B0 E ?_
  exact D
 have hne:from_≠to:=by simpa using h
 clear h
 refine T ?_
 cases hok:okB n (upsT n)
 ·rw[zD (λ x=>by rw[hok]at x;cases x.2.2.2)]at hlk
  subst hlk
  refine C (Aol n hn hok) F34 ?_
  refine Am 6 6 B0 E ?_
  exact D
 rw[zE ⟨hf,ht,hne,hok⟩]at hlk
 refine X (Ad [(0,800),(1,801),(2,802),(3,803)] E F34 (Az3 n hn hok) E Y E V) ?_
 have q2:=wayS n hn hu from_ to
 have hfac:=@wayT_facts n hu from_ to
 have hlnk:=@way_links n from_ to
 have hsh:Ak (wayT n from_ to).1∨True:=.inr trivial
 generalize wayT n from_ to=wr at *
 obtain ⟨l,ok⟩:=wr
 cases ok
 ·rw[zD y_]at hlk
  subst hlk
  refine C q2 F32 ?_
  refine Am 6 6 B0 E ?_
  exact D
 rw[zE rfl]at hlk
 obtain ⟨hla,hlen,hlne,hb⟩:=hfac rfl
 have hlk2:=hlnk rfl
 clear hfac hlnk hsh
 dsimp only at *
 have hfe:=Ams hb
 have h0:0<l.length:=xO.2 hlne
 have hsl:Ak l:=by unfold Ak;omega
 have hp:=X0 hf
 have q3:=Ano n hn hu hb from_ hp l hsl hla h0
 have q4:=Azm n hn hm1 (newT n) false 0 0 (Arp n) q_ q_ q_ (injectW n from_ l) (Amb hu hb from_ h0 hla)
 rw[show doW n ⟨newT n,false,[]⟩ (injectW n from_ l)=goW n from_ l 0 from rfl]at q4
 refine C q2 F32 ?_
 refine C q3 F39 ?_
 refine Xd (As [(0,800),(1,801),(2,802),(3,803),(4,804),(5,8),(6,12),(8,805)] (At E E F35) q4 E W E V) ?_
 have hdl:(l.drop 1).length=l.length-1:=by simp
 refine X (Ii (lo:=1) (hi:=l.length) Γ.toTy (l.drop 1) E E E E (.inr ⟨_,_,E,E⟩) (.inl ⟨E,E⟩) q_ (yC _) (by rw[yG])) ?_
 clear q2 q3 q4
 refine A9 (l.drop 1).length (λ j=>[(3,.ref 8 (Al n) 0),(10,.sl 4 Cz l),(12,.ptr 6 0),(13,.ptr 9 0),(14,.clo (.func 37) [] [.ptr 9 0,.ptr 5 0]),(58,.sl 4 Cz (l.drop 1)),(59,Aa (l.drop 1).length),(60,Aa j)]) (λ j=>pkO n (goW n from_ l j))
  [(0,800),(1,804),(2,802),(3,803),(5,8),(6,12),(7,805),(9,13)] U ?_
 intro j hj
 obtain ⟨hm0,hol⟩:=Ayi hn hm1 from_ l j
 refine T ?_
 constructor<;>intro h
 ·have hlt:j<(l.drop 1).length:=qA h
  have hj0:((j:Nat):Int).toNat<(l.drop 1).length:=by simpa using hlt
  have hk1:((j+1:Nat):Int).toNat<l.length:=by omega
  have hk0:((j:Nat):Int).toNat<l.length:=by omega
  have hgs:goW n from_ l (j+1)=Xg n (linkW n (goW n from_ l j) (l[((j+1:Nat):Int).toNat]'hk1)) (l[((j:Nat):Int).toNat]'hk0).domain:=by rw[goW,Aj hk1,Aj hk0]
  have e1:(l.drop 1)[((j:Nat):Int).toNat]'hj0=l[((j+1:Nat):Int).toNat]'hk1:=by
   rw[vC]
   congr 1
   omega
  have hxl:=hlk2 _ (zJ hk1)
  generalize l[((j+1:Nat):Int).toNat]'hk1=x at *
  generalize goW n from_ l j=s at *
  have hgl:=linkW.eq_1 n s x
  clear h
  refine S ?_
  refine⟨E,by omega,hj0,?_⟩
  rw[e1]
  refine T ?_
  constructor<;>intro h
  ·have hk:x.kind=1:=by simpa using h
   rw[zE hk]at hgl
   obtain ⟨hp1,hl0,hl1⟩:=hxl hk
   have hup:=upW.eq_1 n x
   rw[Aj hp1.2]at hl0 hl1 hup
   have q6:=Avh n hn hm1 s _ _ hm0 q_ q_ q_ q_ ⟨5,0,0,0,[],upW n x⟩ (by show 0<100000;decide)
   obtain ⟨hm2,hol2⟩:=Ajl hn hm1 hm0 q_ q_ ⟨5,0,0,0,[],upW n x⟩
   rw[← hgl]at q6 hm2 hol2
   rw[hup]at q6
   clear hgl hup
   generalize linkW n s x=s1 at *
   have q7:=Ace n hn hm1 s1 _ _ hm2 q_ q_ q_ q_ (l[((j:Nat):Int).toNat]'hk0).domain
   rw[← hgs]at q7
   clear h
   refine T ?_
   refine X (Bv Γ.toTy (d:=71) (n:=n.links.length) Ab false E E E E E E E E q_ q_ E E E) ?_
   refine⟨by rw[wW];exact hl1,?_⟩
   refine fW ?_
   refine⟨E,(by rw[wW];exact hl1),true,E,E,?_⟩
   refine T ?_
   refine Ag 71 E ?_
   refine X (Ki [(4,40),(8,41)] [] (At E E F35) q6 (.cons (.agg vL) (.cons (.refl _) (.cons (.refl _) .nil))) W E V E) ?_
   refine X (As [(1,40),(7,41),(4,42),(8,43)] (At E E F37) q7 E W E V) ?_
   exact A2 [(1,42),(7,43)] hlt U
  ·have hk:¬ x.kind=1:=by simpa using h
   rw[zD hk]at hgl
   rw[hgl]at hgs
   have q7:=Ace n hn hm1 s _ _ hm0 q_ q_ q_ q_ (l[((j:Nat):Int).toNat]'hk0).domain
   rw[← hgs]at q7
   clear h
   refine T ?_
   refine X (As [(4,42),(8,43)] (At E E F37) q7 E W E V) ?_
   exact A2 [(1,42),(7,43)] hlt U
 ·have hjj:j=(l.drop 1).length:=qB h
  subst hjj
  have hkl:((l.length:Int)-1).toNat<l.length:=by omega
  have hend:Aup n from_ l=Xg n (goW n from_ l (l.drop 1).length) (l[((l.length:Int)-1).toNat]'hkl).domain:=by rw[Aup,Aj hkl,hdl]
  have q7:=Ace n hn hm1 _ _ _ hm0 q_ q_ q_ q_ (l[((l.length:Int)-1).toNat]'hkl).domain
  rw[← hend]at q7
  clear hend
  generalize Aup n from_ l=s2 at *
  generalize goW n from_ l (l.drop 1).length=s at *
  subst hlk
  clear h
  refine T ?_
  refine X (As [(4,42),(8,43)] (At E E F37) q7 E W E V) ?_
  refine Ag 43 E ?_
  exact D
end Go.Sy.YtiijbikecbjdaaaGreatDoor
namespace Go.Sy.YtiijbikecbjdaaaGreatDoor
open Go.Proofs
attribute [local irreducible] Go.Sy.G Go.Sy.DR
set_option maxRecDepth 100000
set_option maxHeartbeats 4000000
theorem Apb {n:Net} {ow:List Int} (h:O7 n ow=true):ow.length=n.ports.length:=by
 simp only[O7,zH,zQ]at h
 exact h.1.1
theorem leaksS (n:Net) (hn:n.Fin) (hu:C8 n) (ow:List Int):Sp 17 [Al n,.sl 1 Aa ow] (.tup [Aa (leaksT n ow).1,Aa (leaksT n ow).2.1,Ab (leaksT n ow).2.2]):=cT F17 Tryz.ntmps17 λ F hF=>by
 have q0:=Ais n hn ow
 have hres:=leaksT.eq_1 n ow
 generalize leaksT n ow=res at *
 cases ho:O7 n ow with
 | false =>
  rw[ho]at q0
  rw[zE ho]at hres
  subst hres
  refine T ?_
  refine C q0 F31 ?_
  exact D
 | true =>
 have hol:=Apb ho
 have hps:n.ports.length<2147483648:=hn.ports
 rw[ho]at q0
 rw[zD (by rw[ho];exact Bool.noConfusion)]at hres
 refine T ?_
 refine C q0 F31 ?_
 refine B6 (λ j:Nat=>res=S8 n ow j (ow.drop j)∧j≤ow.length) (λ j=>[(1,.sl 1 Aa ow),(2,.ptr 2 0),(17,.sl 1 Aa ow),(18,Aa ow.length),(19,Aa j)]) (λ _=>[(2,.box (Cw n))]) (λ j=>ow.length-j) 0 [] ⟨hres,by omega⟩ U ?_
 rintro j ⟨hI,hj⟩
 refine T ?_
 constructor<;>intro h
 ·have hlt:j<ow.length:=qA h
  have hj0:((j:Nat):Int).toNat<ow.length:=hlt
  have hdr:ow.drop j=ow[((j:Nat):Int).toNat]'hj0::ow.drop (j+1):=yJ hlt
  rw[hdr,S8]at hI
  clear h
  obtain ⟨R,hR⟩:∃ R,Qb n ow j (ow[((j:Nat):Int).toNat]'hj0) 0 ow=R:=⟨_,rfl⟩
  rw[hR]at hI
  refine T ?_
  refine B6 (λ k:Nat=>Qb n ow j (ow[((j:Nat):Int).toNat]'hj0) k (ow.drop k)=R∧k≤ow.length) (λ k=>[(1,.sl 1 Aa ow),(2,.ptr 2 0),(7,Aa j),(8,Aa (ow[((j:Nat):Int).toNat]'hj0)),(17,.sl 1 Aa ow),(18,Aa ow.length),(19,Aa j),(24,.sl 1 Aa ow),(25,Aa ow.length),(26,Aa k)]) (λ _=>[(2,.box (Cw n))]) (λ k=>ow.length-k) 0 [] ⟨hR,by omega⟩ U ?_
  rintro k ⟨hK,hk⟩
  refine T ?_
  constructor<;>intro h
  ·have hlt2:k<ow.length:=qA h
   have hk0:((k:Nat):Int).toNat<ow.length:=hlt2
   have hdk:ow.drop k=ow[((k:Nat):Int).toNat]'hk0::ow.drop (k+1):=yJ hlt2
   rw[hdk,Qb]at hK
   clear h
   by_cases c1:ow[((j:Nat):Int).toNat]'hj0<0
   ·have f1:decide ((ow[((j:Nat):Int).toNat]'hj0)<0)=true:=zR c1
    rw[zD (λ h=>h.1 (.inl c1))]at hK
    refine T ?_
    exact Av (k+1) [] ⟨hK,hlt2⟩ q_ U
   have f1:decide ((ow[((j:Nat):Int).toNat]'hj0)<0)=false:=zI c1
   by_cases c2:ow[((k:Nat):Int).toNat]'hk0<0
   ·have f2:decide ((ow[((k:Nat):Int).toNat]'hk0)<0)=true:=zR c2
    rw[zD (λ h=>h.1 (.inr (.inl c2)))]at hK
    refine T ?_
    exact Av (k+1) [] ⟨hK,hlt2⟩ q_ U
   have f2:decide ((ow[((k:Nat):Int).toNat]'hk0)<0)=false:=zI c2
   by_cases c3:ow[((j:Nat):Int).toNat]'hj0=ow[((k:Nat):Int).toNat]'hk0
   ·have f3:(ow[((j:Nat):Int).toNat]'hj0 == ow[((k:Nat):Int).toNat]'hk0)=true:=by rw[yF];exact c3
    rw[zD (λ h=>h.1 (.inr (.inr c3)))]at hK
    refine T ?_
    exact Av (k+1) [] ⟨hK,hlt2⟩ q_ U
   have f3:(ow[((j:Nat):Int).toNat]'hj0 == ow[((k:Nat):Int).toNat]'hk0)=false:=by rw[zL];exact c3
   have hn3:¬ (ow[((j:Nat):Int).toNat]'hj0<0∨ow[((k:Nat):Int).toNat]'hk0<0∨ow[((j:Nat):Int).toNat]'hj0=ow[((k:Nat):Int).toNat]'hk0):=λ h=>h.elim c1 λ h=>h.elim c2 c3
   have q:=wayS n hn hu j k
   generalize wayT n j k=wr at *
   obtain ⟨wl,ok⟩:=wr
   dsimp only at q hK
   cases ok
   ·rw[zD (λ h=>Bool.noConfusion h.2)]at hK
    refine T ?_
    refine C q F32 ?_
    exact Av (k+1) [] ⟨hK,hlt2⟩ q_ U
   ·rw[zE ⟨hn3,rfl⟩]at hK
    subst hK
    dsimp only at hI
    subst hI
    refine T ?_
    refine C q F32 ?_
    exact D
  ·have hke:k=ow.length:=qB h
   rw[hke,wH,Qb]at hK
   subst hK
   clear h
   dsimp only at hI
   refine T ?_
   exact Av (j+1) [] ⟨hI,hlt⟩ q_ U
 ·have hje:j=ow.length:=qB h
  rw[hje,wH,S8]at hI
  subst hI
  clear h
  refine T ?_
  exact D
theorem Ac6 (w r e:Int):Sp 16 [Aa w,Aa r,Aa e] (Cj (Hp w r e)):=cT F16 Tryz.ntmps16 λ F hF=>by
 refine T ?_
 refine Ai 6 (cellsOf (Cj (Hp w r e))) E vL ?_
 exact D
end Go.Sy.YtiijbikecbjdaaaGreatDoor
namespace Go.Sy.YtiijbikecbjdaaaGreatDoor
open Go.Proofs
theorem Aaq {n:Net} {ow:List Int} {f:Nat} {a:Int}:∀ (l:List Int) (i to:Nat),Qb n ow f a i l=some to→i≤to∧∃ h:to-i<l.length,¬ (a<0∨l[to-i]<0∨a=l[to-i])∧(wayT n f to).2=true
 | [],i,to,h=>by cases h
 | b::r,i,to,h=>by
  rw[Qb]at h
  split at h
  ·rename_i hc
   simp only[Option.some.injEq]at h
   subst h
   exact⟨yC _,by simp,by simpa using hc⟩
  ·obtain ⟨h1,h2,h3⟩:=Aaq r (i+1) to h
   refine⟨by omega,by rw[yN];omega,?_⟩
   have e:to-i=(to-(i+1))+1:=by omega
   simp only[e,uG]
   exact h3
theorem Aar {n:Net} {ow:List Int}:∀ (l:List Int) (i:Nat),(S8 n ow i l).2.2=true→∃ f to:Nat,S8 n ow i l=((f:Int),(to:Int),true)∧i≤f∧(∃ h:f-i<l.length,∃ g:to<ow.length,¬ (l[f-i]<0∨ow[to]<0∨l[f-i]=ow[to]))∧(wayT n f to).2=true
 | [],i,h=>by cases h
 | a::r,i,h=>by
  rw[S8]at h ⊢
  cases hl:Qb n ow i a 0 ow with
  | some to =>
   obtain ⟨h1,h2,h3,h4⟩:=Aaq ow 0 to hl
   refine⟨i,to,E,yC _,⟨by simp,by simpa using h2,by simpa using h3⟩,h4⟩
  | none =>
   rw[hl]at h
   obtain ⟨f,to,e,h1,⟨h2,h3,h4⟩,h5⟩:=Aar r (i+1) h
   refine⟨f,to,e,by omega,⟨by rw[yN];omega,h3,?_⟩,h5⟩
   have e:f-i=(f-(i+1))+1:=by omega
   simp only[e,uG]
   exact h4
theorem leaks_some {n:Net} {ow:List Int} (h:(leaksT n ow).2.2=true):∃ f to:Nat,leaksT n ow=((f:Int),(to:Int),true)∧(∃ (h1:f<ow.length) (h2:to<ow.length),0≤ow[f]∧0≤ow[to]∧ow[f]≠ow[to])∧(wayT n f to).2=true:=by
 rw[leaksT]at h ⊢
 split at h
 ·cases h
 rename_i hb
 rw[zD hb]
 obtain ⟨f,to,e,h1,⟨h2,h3,h4⟩,h5⟩:=Aar ow 0 h
 refine⟨f,to,e,⟨by simpa using h2,h3,?_⟩,h5⟩
 simp only[Nat.sub_zero,uU]at h4
 omega
theorem Ary {n:Net} (f:Int) (l:List Hop):∀ k:Nat,1≤(goW n f l k).out.length
 | 0=>by simp[goW,doW]
 | k+1=>by
  have:=Ary (n:=n) f l k
  rw[goW,Xg,doW]
  simp only[yE,yK]
  omega
theorem Aop {n:Net} {f t:Int} (h:(wayT n f t).2=true) (hs:(wscriptT n f t).2=0):2≤(wscriptT n f t).1.length:=by
 rw[wscriptT]at hs ⊢
 split at hs
 ·rename_i hc
  rw[zE hc,zE h]
  show 2≤(Aup n f (wayT n f t).1).out.length
  have:=Ary (n:=n) f (wayT n f t).1 ((wayT n f t).1.length-1)
  rw[Aup,Xg,doW]
  simp only[yE,yK]
  omega
 ·cases hs
theorem Ata {n:Net} (hc:Di n=true) {f t:Int} (h:(wayT n f t).2=true):(wscriptT n f t).2=0:=by
 have hw:=h
 rw[wayT]at hw
 split at hw
 ·rename_i hk
  have ho:okB n (upsT n)=true:=ok_iff.2 ⟨wW,hk.2.2.2,hc⟩
  rw[wscriptT,zE ⟨hk.1,hk.2.1,hk.2.2.1,ho⟩,zE h]
 ·cases hw
end Go.Sy.YtiijbikecbjdaaaGreatDoor
namespace Go.Sy.YtiijbikecbjdaaaGreatDoor
open Go.Proofs
attribute [local irreducible] Go.Sy.G Go.Sy.DR
set_option maxRecDepth 100000
set_option maxHeartbeats 4000000
theorem S4 (b:List UInt8):(netTextT b).1.Fin∧C8 (netTextT b).1:=by
 by_cases h:(netTextT b).2.2=0
 ·rw[netTextT]at h ⊢
  split at h
  ·contradiction
  rename_i h1
  rw[zD h1]
  exact Ae2 (textT b).1 emptyN Jy (λ x hx=>(by cases hx)) (λ x hx=>(Vx b x hx).w) h
 ·have:(netTextT b).1=emptyN:=by
   rw[netTextT]at h ⊢
   split at h
   ·rename_i h1;rw[zE h1]
   ·rename_i h1;rw[zD h1];exact Aa6 (textT b).1 emptyN h
  rw[this]
  exact⟨Jy,λ x hx=>by cases hx⟩
theorem Adl (b:List UInt8) (h:(netTextT b).2.2=0):(netTextT b).1.Num∧Di (netTextT b).1=true:=by
 have hu:=(S4 b).2
 rw[netTextT]at h hu ⊢
 split at h
 ·contradiction
 rename_i h1
 rw[zD h1]at hu ⊢
 exact⟨⟨Yo (textT b).1 emptyN (λ d hd=>by cases hd) (λ x hx=>(Vx b x hx).w) h,hu⟩,costsK (Aa7 (textT b).1 emptyN Aa3 h)⟩
theorem Akk:∀ (l:List ByteArray) (t:TenM),TenOK t→(∀ s∈l,s.size≤40)→t.devs.length+l.length≤1000→t.ports.length+l.length≤1000→TenOK (Ack t l).1
 | [],t,h,_,_,_=>h
 | w::l,t,h,hs,hd,hp=>by
  rw[Ack]
  have hw:=hs w y_
  have hc:=Ahs w
  split
  ·exact⟨by decide,⟨by decide,λ s hs=>(by cases hs)⟩,⟨by decide,λ s hs=>(by cases hs)⟩⟩
  refine Akk l _ ⟨h.name,⟨by simp at hd ⊢;omega,λ s hx=>?_⟩,⟨by simp at hp ⊢;omega,λ s hx=>?_⟩⟩ (λ s hx=>hs s (by simp[hx])) (by simp at hd ⊢;omega) (by simp at hp ⊢;omega)
  ·rcases yP.1 hx with hx | hx
   ·exact h.devs.2 s hx
   ·rw[yD.1 hx];show (cutT 46 w).1.size≤_;omega
  ·rcases yP.1 hx with hx | hx
   ·exact h.ports.2 s hx
   ·rw[yD.1 hx];show (cutT 46 w).2.1.size≤_;omega
theorem Aq4:TenOK Ah8:=⟨by decide,⟨by decide,λ s hs=>(by cases hs)⟩,⟨by decide,λ s hs=>(by cases hs)⟩⟩
theorem Asp (w:List ByteArray) (row:Int) (hs:∀ s∈w,s.size≤40):TenOK (tenantT w row).1:=by
 rw[tenantT]
 split
 ·exact Aq4
 rename_i h
 simp only[uU]at h
 split
 ·exact Aq4
 have h1:wdT w 1=w[1]'q_:=C2 q_
 refine Akk _ _ ⟨?_,⟨xZ _,λ s hs=>(by cases hs)⟩,⟨xZ _,λ s hs=>(by cases hs)⟩⟩ (λ s hx=>hs s (List.mem_of_mem_drop hx)) (by simp;omega) (by simp;omega)
 show (wdT w 1).size≤_
 rw[h1]
 have:=hs _ (zJ (show 1<w.length by omega))
 omega
theorem Sz:∀ (rs:List ByteArray) (i:Nat) (out:List TenM),(∀ r∈rs,r.size≤20000)→(∀ t∈out,TenOK t)→out.length≤10→(∀ t∈(Ja i out rs).1,TenOK t)∧(Ja i out rs).1.length≤10
 | [],i,out,_,h,hl=>⟨h,hl⟩
 | r::rs,i,out,hr,h,hl=>by
  have hr':∀ x∈rs,x.size≤20000:=λ x hx=>hr x (by simp[hx])
  rw[Ja]
  split
  ·exact⟨λ t ht=>(by cases ht),by simp⟩
  split
  ·exact Sz rs (i+1) out hr' h hl
  split
  ·exact⟨λ t ht=>(by cases ht),by simp⟩
  split
  ·exact⟨λ t ht=>(by cases ht),by simp⟩
  refine Sz rs (i+1) _ hr' (λ t ht=>?_) (by simp;omega)
  rcases yP.1 ht with ht | ht
  ·exact h t ht
  ·rw[yD.1 ht]
   exact Asp _ _ (Oo r (hr r y_)).2
theorem Agr (b:List UInt8):(∀ t∈(policyT b).1,TenOK t)∧(policyT b).1.length≤10:=by
 rw[policyT]
 split
 ·exact⟨λ t ht=>(by cases ht),by simp⟩
 ·exact Sz _ 0 [] (L9 b).2 (λ t ht=>(by cases ht)) y_
theorem Ab0 (b c:List UInt8) (hb:b.length≤1000000) (hc:c.length≤1000000):Sp 9 [.sl 1 Ah b,.sl 1 Ah c] (Cj (verifyT b c)):=cT F9 Tryz.ntmps9 λ F hF=>by
 have hres:=verifyT.eq_1 b c
 generalize verifyT b c=res at *
 have q1:=Alr b hb
 have q2:=Aai c hc
 obtain ⟨hn,hu⟩:=S4 b
 have hno:=Adl b
 obtain ⟨hpo,hpl⟩:=Agr c
 generalize netTextT b=nt at *
 generalize policyT c=pt at *
 obtain ⟨n,nrow,ne⟩:=nt
 obtain ⟨L,prow,pe⟩:=pt
 dsimp only at *
 by_cases e1:ne=0
 rotate_left
 ·have f1:(ne != 0)=true:=by rw[yQ];exact e1
  rw[zE e1]at hres
  subst hres
  refine T ?_
  refine C q1 F10 ?_
  refine C (Ac6 1 nrow ne) F16 ?_
  exact D
 have f1:(ne != 0)=false:=by rw[e1];rfl
 rw[zD (λ h=>h e1)]at hres
 by_cases e2:pe=0
 rotate_left
 ·have f2:(pe != 0)=true:=by rw[yQ];exact e2
  rw[zE e2]at hres
  subst hres
  refine T ?_
  refine C q1 F10 ?_
  refine C q2 F11 ?_
  refine C (Ac6 2 prow pe) F16 ?_
  exact D
 have f2:(pe != 0)=false:=by rw[e2];rfl
 rw[zD (λ h=>h e2),verdictT]at hres
 have q3:=Asa n hn L hpo q_
 have q4:=leaksS n hn hu (assignT n L).1
 have q5:=Ann n hn (hno e1).1 hu (leaksT n (assignT n L).1).1 (leaksT n (assignT n L).1).2.1
 generalize assignT n L=a at *
 obtain ⟨ow,wh,arow,ae⟩:=a
 dsimp only at *
 by_cases e3:ae=0
 rotate_left
 ·have f3:(ae != 0)=true:=by rw[yQ];exact e3
  rw[zE e3]at hres
  subst hres
  refine T ?_
  refine C q1 F10 ?_
  refine C q2 F11 ?_
  refine C q3 F12 ?_
  refine C (Ac6 wh arow ae) F16 ?_
  exact D
 have f3:(ae != 0)=false:=by rw[e3];rfl
 rw[zD (λ h=>h e3)]at hres
 generalize leaksT n ow=lk at *
 obtain ⟨lf,lt,ll⟩:=lk
 dsimp only at *
 cases ll
 ·rw[zE rfl]at hres
  subst hres
  refine T ?_
  refine C q1 F10 ?_
  refine C q2 F11 ?_
  refine C q3 F12 ?_
  refine C q4 F17 ?_
  refine Ai 4 (cellsOf (Cj ⟨1,0,0,0,0,0,[]⟩)) E vL ?_
  exact D
 ·rw[zD (by exact Bool.noConfusion)]at hres
  generalize wscriptT n lf lt=sc at *
  obtain ⟨sl,se⟩:=sc
  dsimp only at *
  subst hres
  refine T ?_
  refine C q1 F10 ?_
  refine C q2 F11 ?_
  refine C q3 F12 ?_
  refine C q4 F17 ?_
  refine C q5 F18 ?_
  exact D
def Acj : List UInt8 := "device a 1 00:00:00:00:00:01\nport a p 1 access 10\nport a q 1 access 10\n".toUTF8.data.toList
def Jo : List UInt8 := "device a 1 00:00:00:00:00:01\nport a p 1 access 10\nport a q 1 access 20\n".toUTF8.data.toList
def L0 : List UInt8 := "tenant x a.p\ntenant y a.q\n".toUTF8.data.toList
def Adi : List UInt8 := "tenant x a.p\n".toUTF8.data.toList
theorem ex38a:(verifyT Acj L0).kind=2∧(verifyT Acj L0).from_=0∧(verifyT Acj L0).to=1∧(verifyT Acj L0).script.length=2:=by decide +kernel
theorem ex38b:(verifyT Jo L0).kind=1:=by decide +kernel
theorem ex38c:(verifyT Jo Adi).kind=3∧(verifyT Jo Adi).where_=1∧(verifyT Jo Adi).row=3∧(verifyT Jo Adi).error=39:=by decide +kernel
theorem Aj0:Sp 5 [] (Ab true):=cT F5 Tryz.ntmps5 λ F hF=>by
 have q1:=Ab0 Acj L0 j_ j_
 have q2:=Ab0 Jo L0 j_ j_
 have q3:=Ab0 Jo Adi j_ j_
 obtain ⟨a1,a2,a3,a4⟩:=ex38a
 have b1:=ex38b
 obtain ⟨c1,c2,c3,c4⟩:=ex38c
 generalize verifyT Acj L0=r1 at *
 generalize verifyT Jo L0=r2 at *
 generalize verifyT Jo Adi=r3 at *
 obtain ⟨k1,w1,o1,e1,f1,t1,s1⟩:=r1
 obtain ⟨k2,w2,o2,e2,f2,t2,s2⟩:=r2
 obtain ⟨k3,w3,o3,e3,f3,t3,s3⟩:=r3
 dsimp only at a1 a2 a3 a4 b1 c1 c2 c3 c4
 subst a1 a2 a3 b1 c1 c2 c3 c4
 have g1:((s1.length:Int) == 2)=true:=by rw[a4];rfl
 refine T ?_
 refine X (Dm Γ.toTy E E E E E E E) ?_
 refine X (Dm Γ.toTy E E E E E E E) ?_
 refine Iw 4 Ah Acj E E ?_
 refine Iw 6 Ah L0 E E ?_
 refine Ag 4 E ?_
 refine Ag 6 E ?_
 refine C q1 F9 ?_
 refine X (Dm Γ.toTy E E E E E E E) ?_
 refine X (Dm Γ.toTy E E E E E E E) ?_
 refine Iw 9 Ah Jo E E ?_
 refine Iw 11 Ah L0 E E ?_
 refine Ag 9 E ?_
 refine Ag 11 E ?_
 refine C q2 F9 ?_
 refine X (Dm Γ.toTy E E E E E E E) ?_
 refine X (Dm Γ.toTy E E E E E E E) ?_
 refine Iw 14 Ah Jo E E ?_
 refine Iw 16 Ah Adi E E ?_
 refine Ag 14 E ?_
 refine Ag 16 E ?_
 refine C q3 F9 ?_
 exact D
theorem Aki (r:ReportM):Sp 8 [Cj r] (Cj r):=cT F8 Tryz.ntmps8 λ F hF=>by
 refine T ?_
 exact D
theorem Aff (a b:ReportM):Sp 3 [Cj a,Cj b] (Ab true):=cT F3 Tryz.ntmps3 λ F hF=>by
 have qw:=Aj0
 by_cases c0:100<a.script.length
 ·have f0:decide ((a.script.length:Int)>100)=true:=zR q_
  refine T ?_
  refine C qw F5 ?_
  exact D
 have f0:decide ((a.script.length:Int)>100)=false:=zI q_
 by_cases c1:100<b.script.length
 ·have f1:decide ((b.script.length:Int)>100)=true:=zR q_
  refine T ?_
  refine C qw F5 ?_
  exact D
 have f1:decide ((b.script.length:Int)>100)=false:=zI q_
 refine T ?_
 refine B6 (λ j:Nat=>j≤a.script.length∧∀ (i:Nat) (h:i<a.script.length),i<j→a.script[i].up.length≤100) (λ j=>[(2,.ptr 2 0),(3,.ptr 3 0),(4,Ab false),(5,Aa j)]) (λ _=>[(2,.box (cellsOf (Cj a))),(3,.box (cellsOf (Cj b)))]) (λ j=>a.script.length-j) 0 [] ⟨by omega,λ i h hj=>yB hj q_⟩ U ?_
 rintro j ⟨hj,hI⟩
 refine T ?_
 constructor<;>intro h
 ·have hlt:j<a.script.length:=qA h
  have hj0:((j:Nat):Int).toNat<a.script.length:=hlt
  clear h
  by_cases c2:2000<(a.script[((j:Nat):Int).toNat]'hj0).bytes.length
  ·have f2:decide (((a.script[((j:Nat):Int).toNat]'hj0).bytes.length:Int)>2000)=true:=zR q_
   refine T ?_
   refine C qw F5 ?_
   exact D
  have f2:decide (((a.script[((j:Nat):Int).toNat]'hj0).bytes.length:Int)>2000)=false:=zI q_
  by_cases c3:100<(a.script[((j:Nat):Int).toNat]'hj0).up.length
  ·have f3:decide (((a.script[((j:Nat):Int).toNat]'hj0).up.length:Int)>100)=true:=zR q_
   refine T ?_
   refine C qw F5 ?_
   exact D
  have f3:decide (((a.script[((j:Nat):Int).toNat]'hj0).up.length:Int)>100)=false:=zI q_
  refine T ?_
  refine Av (j+1) [] ⟨hlt,λ i hi hij=>?_⟩ q_ U
  by_cases h:i<j
  ·exact hI i hi h
  ·have:i=j:=by omega
   subst this
   have e:(a.script[((i:Nat):Int).toNat]'hj0).up.length=a.script[i].up.length:=rfl
   omega
 ·have hje:j=a.script.length:=qB h
  clear h
  have hs:∀ s∈a.script,s.up.length≤1000000:=λ s h=>by
   obtain ⟨i,hi,rfl⟩:=vA h
   have:=hI i hi q_
   omega
  obtain ⟨bb,hb⟩:∃ bb:Bool,bb=true↔a=b:=by
   by_cases h:a=b
   ·exact⟨true,λ _=>h,λ _=>rfl⟩
   ·exact⟨false,λ e=>(by cases e),λ e=>yB e h⟩
  have q1:=Acv a b bb hb q_ hs
  have q2:=Ak1 a b bb hb q_ hs
  have q3:=Acv a a true ⟨λ _=>rfl,λ _=>rfl⟩ q_ hs
  have g1:(bb == bb)=true:=by simp
  clear hb hI
  refine T ?_
  refine C q1 F6 ?_
  refine C (Aki a) F8 ?_
  refine C (Aki b) F8 ?_
  refine C q2 F7 ?_
  refine C q3 F6 ?_
  refine C qw F5 ?_
  exact D
theorem Aj5 (b c:List UInt8):Sp 4 [.sl 1 Ah b,.sl 1 Ah c] (Ab true):=cT F4 Tryz.ntmps4 λ F hF=>by
 have qw:=Aj0
 by_cases b0:4000<b.length
 ·have f0:decide ((b.length:Int)>4000)=true:=zR q_
  refine T ?_
  refine C qw F5 ?_
  exact D
 have f0:decide ((b.length:Int)>4000)=false:=zI q_
 by_cases c0:4000<c.length
 ·have f1:decide ((c.length:Int)>4000)=true:=zR q_
  refine T ?_
  refine C qw F5 ?_
  exact D
 have f1:decide ((c.length:Int)>4000)=false:=zI q_
 have q0:=Ab0 b c q_ q_
 have hres:=verifyT.eq_1 b c
 have q1:=Alr b q_
 have q2:=Aai c q_
 obtain ⟨hn,hu⟩:=S4 b
 have hno:=Adl b
 obtain ⟨hpo,hpl⟩:=Agr c
 generalize verifyT b c=r at *
 generalize netTextT b=nt at *
 generalize policyT c=pt at *
 obtain ⟨n,nrow,ne⟩:=nt
 obtain ⟨L,prow,pe⟩:=pt
 dsimp only at *
 have q3:=Asa n hn L hpo q_
 have hlk:=@leaks_some n (assignT n L).1
 have hver:=verdictT.eq_1 n (assignT n L)
 generalize verdictT n (assignT n L)=v at *
 generalize assignT n L=a at *
 obtain ⟨ow,wh,arow,ae⟩:=a
 dsimp only at *
 have same:∀ x:ReportM,x.script=[]→Sp 6 [Cj x,Cj x] (Ab true):=λ x hx=>Acv x x true ⟨λ _=>rfl,λ _=>rfl⟩ (by rw[hx];exact xZ _) (λ s hs=>by rw[hx]at hs;cases hs)
 by_cases e1:ne=0
 rotate_left
 ·have g1:(ne != 0)=true:=by rw[yQ];exact e1
  rw[zE e1]at hres
  subst hres
  refine T ?_
  refine C qw F5 ?_
  refine C q0 F9 ?_
  refine C q1 F10 ?_
  refine C q2 F11 ?_
  refine C q3 F12 ?_
  refine Avd 55 (Cj (Hp 1 nrow ne)) (.agg vL) ?_
  refine C (same (Hp 1 nrow ne) E) F6 ?_
  exact D
 have g1:(ne != 0)=false:=by rw[e1];rfl
 rw[zD (λ h=>h e1)]at hres
 by_cases e2:pe=0
 rotate_left
 ·have g2:(pe != 0)=true:=by rw[yQ];exact e2
  rw[zE e2]at hres
  subst hres
  refine T ?_
  refine C qw F5 ?_
  refine C q0 F9 ?_
  refine C q1 F10 ?_
  refine C q2 F11 ?_
  refine C q3 F12 ?_
  refine Avd 63 (Cj (Hp 2 prow pe)) (.agg vL) ?_
  refine C (same (Hp 2 prow pe) E) F6 ?_
  exact D
 have g2:(pe != 0)=false:=by rw[e2];rfl
 rw[zD (λ h=>h e2)]at hres
 subst hres
 by_cases e3:ae=0
 rotate_left
 ·have g3:(ae != 0)=true:=by rw[yQ];exact e3
  rw[zE e3]at hver
  subst hver
  refine T ?_
  refine C qw F5 ?_
  refine C q0 F9 ?_
  refine C q1 F10 ?_
  refine C q2 F11 ?_
  refine C q3 F12 ?_
  refine Avd 72 (Cj (Hp wh arow ae)) (.agg vL) ?_
  refine C (same (Hp wh arow ae) E) F6 ?_
  exact D
 have g3:(ae != 0)=false:=by rw[e3];rfl
 rw[zD (λ h=>h e3)]at hver
 cases hl:(leaksT n ow).2.2 with
 | false =>
  rw[zE hl]at hver
  subst hver
  refine T ?_
  refine C qw F5 ?_
  refine C q0 F9 ?_
  refine C q1 F10 ?_
  refine C q2 F11 ?_
  refine C q3 F12 ?_
  refine Avd 136 (Cj ⟨1,0,0,0,0,0,[]⟩) (.agg vL) ?_
  refine C (same ⟨1,0,0,0,0,0,[]⟩ E) F6 ?_
  exact D
 | true =>
  rw[zD (by rw[hl];exact Bool.noConfusion)]at hver
  obtain ⟨f,to,el,⟨h1,h2,h3,h4,h5⟩,hw⟩:=hlk hl
  rw[el]at hver
  dsimp only at hver
  have hsc:=Ata (hno e1).2 hw
  have h2s:=Aop hw hsc
  generalize (wscriptT n f to).1=sl at *
  subst hver
  have hf0:((f:Nat):Int).toNat<ow.length:=h1
  have ht0:((to:Nat):Int).toNat<ow.length:=h2
  have k1:decide (((f:Nat):Int)≥0)=true:=zR q_
  have k2:decide (((to:Nat):Int)≥0)=true:=zR q_
  have k3:decide (((f:Nat):Int)<(ow.length:Int))=true:=zR q_
  have k4:decide (((to:Nat):Int)<(ow.length:Int))=true:=zR q_
  have k5:decide (ow[((f:Nat):Int).toNat]'hf0≥0)=true:=zR h3
  have k6:decide (ow[((to:Nat):Int).toNat]'ht0≥0)=true:=zR h4
  have k7:(ow[((f:Nat):Int).toNat]'hf0 != ow[((to:Nat):Int).toNat]'ht0)=true:=by rw[yQ];exact h5
  have k8:decide ((sl.length:Int)>1)=true:=zR q_
  clear hlk hno hl el hw hsc same
  refine T ?_
  refine C qw F5 ?_
  refine C q0 F9 ?_
  refine C q1 F10 ?_
  refine C q2 F11 ?_
  refine C q3 F12 ?_
  refine⟨wM f,hf0,?_⟩
  refine T ?_
  refine⟨wM to,ht0,?_⟩
  refine T ?_
  refine⟨wM f,hf0,?_⟩
  refine T ?_
  refine⟨wM to,ht0,?_⟩
  refine T ?_
  exact Aq E (.cons .tmp .nil) (zG Ab k8.symm) E
end Go.Sy.YtiijbikecbjdaaaGreatDoor
