/-
  E30 E31 D3 D4 D7 D8 D9 D10 BF1 I20 I21 I22 E32 E19 E33 E34 BF2 KM K25 K1 K2 K3 K4 K5 K6 K7 K26 K27 K28 K29 K30 K31 K32 K33 K34: parts of a proof, joined by program.
-/
import Derived.Test.YtcflgpijohhfbaaGreatXS5
import Derived.Test.YtcflgpijohhfbaaGreatXS3
import Derived.Test.YtcflgpijohhfbaaGreatXS4
set_option linter.all false
set_option linter.unusedVariables false
set_option linter.unusedSimpArgs false
set_option linter.deprecated false
namespace Go.Sy.YtcflgpijohhfbaaGreat
open Go.Proofs
def Vc (n:Net) (h:Hop):Prop:=(0≤h.domain∧h.domain.toNat<n.domains.length)∧0≤h.addr∧h.addr<4294967296
theorem Ao7 {n:Net} {irb to e:Int} (he:e<4294967296):∀ {x:Int},0≤x→0≤(addrGo n irb to e x).1∧(addrGo n irb to e x).1<4294967296:=by
 intro x
 induction x using addrGo.induct n irb to e with
 | case1 x h1 h2=>intro h0;rw[addrGo,if_pos h1,if_pos h2];exact⟨h0,by simp only;omega⟩
 | case2 x h1 h2 h3=>intro h0;rw[addrGo,if_pos h1,if_neg h2,if_pos h3];decide
 | case3 x h1 h2 h3 h4 ih=>intro h0;rw[addrGo,if_pos h1,if_neg h2,if_neg h3,if_pos h4];exact ih q_
 | case4 x h1 h2 h3 h4=>intro h0;rw[addrGo,if_pos h1,if_neg h2,if_neg h3,if_neg h4];decide
 | case5 x h1=>intro h0;rw[addrGo,if_neg h1];decide
theorem Asu {n:Net} (hu:Cr n) (irb to:Int):0≤(addrT n irb to).1∧(addrT n irb to).1<4294967296:=by
 rw[addrT]
 split
 ·rename_i hc
  have hk:to.toNat<n.irbs.length:=by omega
  rw[Ae hk]
  have hui:=hu _ (List.getElem_mem hk)
  exact Ao7 (Ue _ _ hui).2 (Acj _ _ hui).1
 ·decide
theorem Agy {n:Net} {d:Int} {h:Hop} (hh:h∈Do n d):Vc n h:=by
 refine⟨Iw hh,?_⟩
 rw[Do]at hh
 split at hh
 ·rcases List.mem_append.1 hh with hh | hh
  ·obtain ⟨p,_,hp⟩:=List.mem_filterMap.1 hh
   rw[linkHop]at hp
   split at hp
   ·simp only[Option.some.injEq]at hp
    subst hp
    exact⟨by simp,by simp⟩
   ·cases hp
  ·obtain ⟨p,hp,rfl⟩:=List.mem_map.1 hh
   exact⟨by simp[Jh],by simp[Jh]⟩
 ·cases hh
theorem Ac8 {n:Net} (hu:Cr n) {d:Int} {q:Lead} (hq:q∈routesT n d):0≤q.addr∧q.addr<4294967296:=by
 rw[routesT]at hq
 split at hq
 ·obtain ⟨i,hi,hp⟩:=List.mem_filterMap.1 hq
  rw[leadF]at hp
  split at hp
  ·simp only[Option.some.injEq]at hp
   subst hp
   exact Asu hu _ _
  ·cases hp
 ·cases hq
def HopsOK (n:Net) (l:List Fnd):Prop:=∀ f∈l,Vc n f.hop
theorem HopsOK.meet {n:Net} {S:Srch} (h:HopsOK n S.list) (d k:Int) {hp:Hop} (hh:Vc n hp) (a:Int):HopsOK n (meetT S d k hp a).list:=by
 rw[meetT]
 split
 ·exact h
 ·rw[Jx]
  split<;>(intro f hf;rcases List.mem_append.1 hf with hf | hf;exact h f hf;rw[List.mem_singleton]at hf;subst hf;exact hh)
theorem HopsOK.ext1 {n:Net} {k i:Int}:∀ {l:List Hop} {S:Srch},HopsOK n S.list→(∀ h∈l,Vc n h)→HopsOK n (ext1 S k i l).list
 | [],S,h,_=>h
 | x::l,S,h,hl=>HopsOK.ext1 (l:=l) (h.meet x.domain k (hl x y_) i) (fun y hy=>hl y (by simp[hy]))
theorem HopsOK.ext2 {n:Net} {i:Int}:∀ {l:List Lead} {S:Srch},HopsOK n S.list→(∀ q∈l,Vc n ⟨3,0,q.domain,q.addr⟩)→HopsOK n (ext2 S i l).list
 | [],S,h,_=>h
 | x::l,S,h,hl=>HopsOK.ext2 (l:=l) (h.meet x.domain 1 (hl x y_) i) (fun y hy=>hl y (by simp[hy]))
theorem HopsOK.ext {n:Net} (hu:Cr n) {S:Srch} (h:HopsOK n S.list) (i:Int):HopsOK n (extT n S i).list:=by
 rw[extT]
 split
 ·exact(h.ext1 (fun x hx=>Agy hx)).ext2 (fun q hq=>⟨Jq hq,Ac8 hu hq⟩)
 ·exact h.ext1 (fun x hx=>Agy hx)
theorem Ahq {n:Net} {dev:Int} {l:List Int} (h:∀ v∈l,v≠0→0≤B1 n dev v∧(B1 n dev v).toNat<n.domains.length):HopsOK n (Kb n dev l).list:=by
 suffices hs:∀ (l:List Int) (S:Srch),HopsOK n S.list→(∀ v∈l,v≠0→0≤B1 n dev v∧(B1 n dev v).toNat<n.domains.length)→HopsOK n (l.foldl (Hj n dev) S).list from hs l _ (fun f hf=>by simp[Hv]at hf) h
 intro l
 induction l with
 | nil=>exact fun S h _=>h
 | cons x l ih =>
  intro S hS hl
  refine ih _ ?_ (fun v hv=>hl v (by simp[hv]))
  rw[Hj]
  split
  ·exact hS
  ·rename_i hx
   exact hS.meet _ _ ⟨hl x y_ hx,by simp,by simp⟩ _
theorem Ahs {l:List Fnd} (hB:Backs l) {P:Hop→Prop} (hP:∀ f∈l,P f.hop):∀ (k:Nat) (i:Int),i<k→i<l.length→(∀ h∈backC l i,P h)∧((backC l i).length:Int)≤i+1∨i<0:=by
 intro k
 induction k with
 | zero=>intro i hi _;exact .inr q_
 | succ k ih =>
  intro i hi hl
  by_cases h0:0≤i
  ·left
   have hk:i.toNat<l.length:=by omega
   have hb:=hB i.toNat hk
   rw[backC,Ae hk,dif_pos ⟨h0,by omega⟩]
   have hm:=hP _ (List.getElem_mem hk)
   rcases ih (l[i.toNat]'hk).ahead q_ q_ with ⟨h1,h2⟩ | h1
   ·refine⟨fun h hh=>?_,by rw[List.length_cons];omega⟩
    rcases List.mem_cons.1 hh with rfl | hh
    ·exact hm
    ·exact h1 h hh
   ·rw[backC,dif_neg (fun e=>by omega)]
    refine⟨fun h hh=>?_,by simp;omega⟩
    rw[List.mem_singleton]at hh
    subst hh
    exact hm
  ·exact .inr q_
theorem W8 {l:List Fnd} (hB:Backs l) {P:Hop→Prop} (hP:∀ f∈l,P f.hop) {i:Nat} (hi:i<l.length):(∀ h∈backT l i,P h)∧(backT l i).length≤i+1∧backT l i≠[]:=by
 rcases Ahs hB hP (i+1) i q_ q_ with ⟨h1,h2⟩ | h
 ·refine⟨fun h hh=>h1 h (by simpa [backT] using hh),by rw[backT,List.length_reverse];omega,?_⟩
  rw[backT]
  intro e
  have hk:((i:Nat):Int).toNat<l.length:=by simpa using hi
  have hb:=hB ((i:Nat):Int).toNat hk
  rw[backC,Ae hk,dif_pos ⟨by omega,by omega⟩]at e
  simp at e
 ·omega
theorem Qx {n:Net} (hu:Cr n) {to:Int}:∀ (k:Nat) (S:Srch) (i:Nat),S.OK n→Backs S.list→HopsOK n S.list→i≤S.list.length→(Db n to k S i).2=true →
  (∀ h∈(Db n to k S i).1,Vc n h)∧(Db n to k S i).1.length≤2 * n.domains.length∧(Db n to k S i).1≠[]
 | 0,S,i,_,_,_,_,h=>by cases h
 | k+1,S,i,ok,bk,hk,hi,h=>by
  rw[Db]at h ⊢
  split at h
  ·rename_i hlt
   rw[if_pos hlt]
   split at h
   ·rename_i hm2
    rw[if_pos hm2]
    have:=W8 bk hk hlt
    have hle:=ok.le
    exact⟨this.1,by have:=this.2.1;simp only;omega,this.2.2⟩
   ·rename_i hm2
    rw[if_neg hm2]
    have bk':=bk.ext (n:=n) (i:=i) ⟨by omega,by omega⟩
    exact Qx hu k _ _ (ok.ext i) bk'.1 (hk.ext hu i) q_ h
  ·cases h
theorem wayT_facts {n:Net} (hu:Cr n) {from_ to:Int} (h:(wayT n from_ to).2=true) :
  (∀ h∈(wayT n from_ to).1,Vc n h)∧(wayT n from_ to).1.length≤2 * n.domains.length∧(wayT n from_ to).1≠[]∧Ac n=true:=by
 rw[wayT]at h ⊢
 split at h
 ·rename_i hc
  rw[if_pos hc]
  have hp:=J4 hc.1
  have ok0:(beginT n from_).OK n:=by
   rw[beginT,Ae hp.2]
   exact Ql fun v hv h0=>Hr hc.2.2.2 hp.2 hv h0
  have hk0:HopsOK n (beginT n from_).list:=by
   rw[beginT,Ae hp.2]
   exact Ahq fun v hv h0=>Hr hc.2.2.2 hp.2 hv h0
  have bk0:Backs (beginT n from_).list:=by rw[beginT];exact Mg _ _ _
  obtain ⟨h1,h2,h3⟩:=Qx hu _ _ _ ok0 bk0 hk0 (Nat.zero_le _) h
  exact⟨h1,h2,h3,hc.2.2.2⟩
 ·cases h
end Go.Sy.YtcflgpijohhfbaaGreat
namespace Go.Sy.YtcflgpijohhfbaaGreat
open Go.Proofs
attribute [local irreducible] Go.Sy.G Go.Sy.DR
set_option maxRecDepth 20000
set_option maxHeartbeats 8000000
theorem Zw {n:Net} (h:Ac n=true) {i:Nat} (hi:i<n.ports.length):0≤n.ports[i].native∧inB n.ports[i].tagged n.ports[i].native=false:=by
 have:=Aka h hi
 simp only[I7,Bool.and_eq_true,decide_eq_true_eq,Bool.not_eq_true']at this
 exact⟨this.1.1.1.1.1.1.1.2,this.1.1.1.1.2⟩
theorem Aoq {n:Net} (h:Ac n=true) {i:Nat} (hi:i<n.domains.length):n.domains[i].irb=-1∨InIrbs n n.domains[i].irb:=by
 have:=Ar5 h hi
 simp only[Km,Ai,Bool.and_eq_true,Bool.or_eq_true,beq_iff_eq,decide_eq_true_eq]at this
 rcases this.1.2 with h1 | h1
 ·exact .inl h1
 ·exact .inr ⟨h1.1.1,by omega⟩
structure WayD where
 (hops:List Hop) (routed:Bool)
instance:Inhabited WayD:=⟨⟨[],false⟩⟩
end Go.Sy.YtcflgpijohhfbaaGreat
namespace Go.Sy.YtcflgpijohhfbaaGreat
open Go.Proofs
theorem Y1 {α:Type} [Inhabited α] {l m:List α} {i:Int} (h:i.toNat<l.length):nth (l++m) i=nth l i:=by
 rw[nth,nth,List.getElem?_append_left h]
theorem Mh {l m:List Fnd} (hB:Backs l):∀ (k:Nat) (i:Int),i<k→i<l.length→backC (l++m) i=backC l i:=by
 intro k
 induction k with
 | zero =>
  intro i hi hl
  rw[backC,dif_neg (fun h=>by omega),backC,dif_neg (fun h=>by omega)]
 | succ k ih =>
  intro i hi hl
  by_cases h0:0≤i
  ·have hk:i.toNat<l.length:=by omega
   have hb:=hB i.toNat hk
   rw[backC,Y1 hk,backC.eq_1 l i,Ae hk,dif_pos ⟨h0,by omega⟩,dif_pos ⟨h0,by omega⟩]
   rw[ih _ q_ q_]
  ·rw[backC,dif_neg (fun h=>h0 h.1),backC,dif_neg (fun h=>h0 h.1)]
theorem Jj {l m:List Fnd} (hB:Backs l) {i:Int} (h:i<l.length):backT (l++m) i=backT l i:=by
 rw[backT,backT,Mh hB (i+1).toNat i q_ h]
theorem Aac {l:List Fnd} (hB:Backs l) {f:Fnd} (hf:-1≤f.ahead∧f.ahead<l.length):backT (l++[f]) l.length=backT l f.ahead++[f.hop]:=by
 have e:nth (l++[f]) (l.length:Int)=f:=by
  rw[Ae (l:=l++[f]) (i:=(l.length:Int)) y_]
  simp
 rw[backT,backC,e,dif_pos ⟨by omega,by omega⟩,List.reverse_cons,Mh hB (f.ahead+1).toNat _ q_ q_]
 rfl
theorem Akq (l:List Fnd):backT l (-1)=[]:=by
 rw[backT,backC,dif_neg (fun h=>by omega)];rfl
structure Met (n:Net) (S:Srch):Prop where
 ok:S.OK n
 bk:Backs S.list
 dom:∀ f∈S.list,f.hop.domain=f.domain
 m:∀ d:Int,0≤d∧d.toNat<n.domains.length→∀ k:Int,(k=0∨k=1)→(L1 S d k=true↔∃ f∈S.list,f.domain=d∧f.kind=k)
theorem Af8 {l:List Bool} {a b:Nat} (hb:b<l.length):(l.set a true)[b]? = if a=b then some true else l[b]?:=by
 rw[List.getElem?_set]
 split
 ·rename_i h;subst h;simp[hb]
 ·rfl
theorem Ajg {n:Net} {S:Srch} (hS:S.OK n) {d k:Int} (hd:0≤d∧d.toNat<n.domains.length) (hk:k=0∨k=1) (h:Hop) (a:Int) (d2 k2:Int) (hd2:0≤d2∧d2.toNat<n.domains.length) (hk2:k2=0∨k2=1) :
  L1 (Jx S d k h a) d2 k2=true↔L1 S d2 k2=true∨(d2=d∧k2=k):=by
 have h0:d2.toNat<S.m0.length:=by rw[hS.l0];exact hd2.2
 have h1:d2.toNat<S.m1.length:=by rw[hS.l1];exact hd2.2
 have e:(d.toNat=d2.toNat)↔d2=d:=by omega
 rcases hk with rfl | rfl<;>rcases hk2 with rfl | rfl
 ·rw[Jx,if_pos rfl,L1,if_pos rfl,L1,if_pos rfl,nth,nth,Af8 h0]
  by_cases h:d2=d
  ·rw[if_pos (e.2 h)];simp[h]
  ·rw[if_neg (fun x=>h (e.1 x))];simp[h]
 ·rw[Jx,if_pos rfl,L1,if_neg j_,L1,if_neg j_]
  simp
 ·rw[Jx,if_neg j_,L1,if_pos rfl,L1,if_pos rfl]
  simp
 ·rw[Jx,if_neg j_,L1,if_neg j_,L1,if_neg j_,nth,nth,Af8 h1]
  by_cases h:d2=d
  ·rw[if_pos (e.2 h)];simp[h]
  ·rw[if_neg (fun x=>h (e.1 x))];simp[h]
theorem Ss (S:Srch) (d k:Int) (h:Hop) (a:Int):(Jx S d k h a).list=S.list++[⟨d,k,h,a⟩]:=by
 rw[Jx];split<;>rfl
theorem Met.meet {n:Net} {S:Srch} (hS:Met n S) {d k:Int} (hd:0≤d∧d.toNat<n.domains.length) (hk:k=0∨k=1) {h:Hop} (hh:h.domain=d) {a:Int} (ha:-1≤a∧a<S.list.length):Met n (meetT S d k h a) where
 ok:=hS.ok.meet hd hk h a
 bk:=(hS.bk.meet d k h ha).1
 dom:=by
  rw[meetT]
  split
  ·exact hS.dom
  ·rw[Ss]
   intro f hf
   rcases List.mem_append.1 hf with h1 | h1
   ·exact hS.dom f h1
   ·rw[List.mem_singleton.1 h1];exact hh
 m:=by
  rw[meetT]
  split
  ·exact hS.m
  ·intro d2 hd2 k2 hk2
   rw[Ajg hS.ok hd hk h a d2 k2 hd2 hk2,hS.m d2 hd2 k2 hk2,Ss]
   constructor
   ·rintro (⟨f,hf,h1⟩ | ⟨rfl,rfl⟩)
    ·exact⟨f,List.mem_append_left _ hf,h1⟩
    ·exact⟨_,List.mem_append_right _ (List.mem_singleton.2 E),E,E⟩
   ·rintro ⟨f,hf,h1,h2⟩
    rcases List.mem_append.1 hf with h3 | h3
    ·exact .inl ⟨f,h3,h1,h2⟩
    ·rw[List.mem_singleton.1 h3]at h1 h2
     exact .inr ⟨h1.symm,h2.symm⟩
def Succ (n:Net) (x y:Int × Int):Prop:=(∃ h∈Do n x.1,y=(h.domain,x.2))∨(x.2=0∧∃ q∈routesT n x.1,y=(q.domain,1))
def Aal (n:Net) (p:Int) (x:Int × Int):Prop:=∃ v∈(nth n.ports p).native::(nth n.ports p).tagged,v≠0∧x=(B1 n (nth n.ports p).dev v,0)
inductive Walk (n:Net) (p:Int):Nat→Int × Int→Prop
 | start {x:Int × Int}:Aal n p x→Walk n p 0 x
 | step {k:Nat} {x y:Int × Int}:Walk n p k x→Succ n x y→Walk n p (k+1) y
inductive HWay (n:Net) (p:Int):List Hop→Int × Int→Prop
 | start {d:Int}:Aal n p (d,0)→HWay n p [⟨0,0,d,0⟩] (d,0)
 | hop {l:List Hop} {x:Int × Int} {h:Hop}:HWay n p l x→h∈Do n x.1→HWay n p (l++[h]) (h.domain,x.2)
 | lead {l:List Hop} {x:Int × Int} {q:Lead}:HWay n p l x→x.2=0→q∈routesT n x.1→HWay n p (l++[⟨3,0,q.domain,q.addr⟩]) (q.domain,1)
theorem HWay.walk {n:Net} {p:Int} {l:List Hop} {x:Int × Int} (h:HWay n p l x):∃ k,l.length=k+1∧Walk n p k x:=by
 induction h with
 | start hs=>exact⟨0,rfl,.start hs⟩
 | hop _ hh ih =>
  obtain ⟨k,h1,h2⟩:=ih
  exact⟨k+1,by rw[List.length_append,h1];rfl,.step h2 (.inl ⟨_,hh,E⟩)⟩
 | lead _ h0 hq ih =>
  obtain ⟨k,h1,h2⟩:=ih
  exact⟨k+1,by rw[List.length_append,h1];rfl,.step h2 (.inr ⟨h0,_,hq,E⟩)⟩
def lnC (l:List Fnd) (i:Int):Nat:=(backC l i).length
theorem Agh (l:List Fnd):lnC l (-1)=0:=by
 rw[lnC,backC,dif_neg (fun h=>by omega)];rfl
theorem L2 {l m:List Fnd} (hB:Backs l) {i:Int} (h:i<l.length):lnC (l++m) i=lnC l i:=by
 rw[lnC,Mh hB (i+1).toNat i q_ h,lnC]
theorem Arb {l:List Fnd} (hB:Backs l) {f:Fnd} (hf:-1≤f.ahead∧f.ahead<l.length):lnC (l++[f]) (l.length:Int)=lnC l f.ahead+1:=by
 have:=congrArg List.length (Aac hB hf)
 rw[List.length_append,List.length_singleton]at this
 simpa [backT,lnC] using this
theorem Agi (l:List Fnd) (i:Int):lnC l i=(backT l i).length:=by simp[lnC,backT]
theorem Od {l m:List Fnd} {b:Nat} (h:b<l.length):nth (l++m) (b:Int)=nth l (b:Int):=Y1 (by simpa using h)
theorem Y0 (l:List Fnd) (f:Fnd):nth (l++[f]) (l.length:Int)=f:=by
 rw[Ae (l:=l++[f]) (i:=(l.length:Int)) y_];simp
structure BI (n:Net) (p:Int) (S:Srch) (a:Int):Prop where
 met:Met n S
 mono:∀ b c:Nat,b≤c→c<S.list.length→lnC S.list b≤lnC S.list c
 bnd:∀ b:Nat,b<S.list.length→lnC S.list b≤lnC S.list a+1
 walk:∀ b:Nat,b<S.list.length→HWay n p (backT S.list b) ((nth S.list b).domain,(nth S.list b).kind)
def HasB (l:List Fnd) (x:Int × Int) (m:Nat):Prop:=∃ b:Nat,b<l.length∧(nth l (b:Int)).domain=x.1∧(nth l (b:Int)).kind=x.2∧lnC l (b:Int)≤m
theorem HasB.app {l e:List Fnd} (hB:Backs l) {x:Int × Int} {m:Nat}:HasB l x m→HasB (l++e) x m:=fun ⟨b,h1,h2,h3,h4⟩ =>
 ⟨b,by rw[List.length_append];omega,by rw[Od h1];exact h2,by rw[Od h1];exact h3,by rw[L2 hB q_];exact h4⟩
theorem BI.meet {n:Net} {p:Int} {S:Srch} {a:Int} (h:BI n p S a) (ha:-1≤a∧a<S.list.length) {d k:Int} (hd:0≤d∧d.toNat<n.domains.length) (hk:k=0∨k=1) {hp:Hop} (hh:hp.domain=d) (hw:HWay n p (backT S.list a++[hp]) (d,k)) :
  BI n p (meetT S d k hp a) a∧HasB (meetT S d k hp a).list (d,k) (lnC S.list a+1)∧∃ e,(meetT S d k hp a).list=S.list++e:=by
 have hm:=h.met.meet hd hk hh ha
 have hB:=h.met.bk
 cases hb:L1 S d k with
 | true =>
  have e:meetT S d k hp a=S:=by rw[meetT,if_pos hb]
  rw[e]
  refine⟨h,?_,[],by simp⟩
  obtain ⟨f,hf,f1,f2⟩:=(h.met.m d hd k hk).1 hb
  obtain ⟨b,hbl,rfl⟩:=List.getElem_of_mem hf
  have e2:nth S.list (b:Int)=S.list[b]:=Ae (l:=S.list) (i:=((b:Nat):Int)) hbl
  exact⟨b,hbl,by rw[e2];exact f1,by rw[e2];exact f2,h.bnd b hbl⟩
 | false =>
  have e:(meetT S d k hp a).list=S.list++[⟨d,k,hp,a⟩]:=by rw[meetT,if_neg (by rw[hb];decide),Ss]
  have hlast:=Arb hB (f:=⟨d,k,hp,a⟩) ha
  have hla:lnC (S.list++[⟨d,k,hp,a⟩]) a=lnC S.list a:=L2 hB ha.2
  have hlen:(S.list++[(⟨d,k,hp,a⟩:Fnd)]).length=S.list.length+1:=by simp
  dsimp only at hlast
  have hcase:∀ b:Nat,b<(S.list++[(⟨d,k,hp,a⟩:Fnd)]).length→(b<S.list.length∧lnC (S.list++[⟨d,k,hp,a⟩]) (b:Int)=lnC S.list (b:Int))∨(b=S.list.length∧lnC (S.list++[⟨d,k,hp,a⟩]) (b:Int)=lnC S.list a+1):=fun b hb=>by
   by_cases hl:b<S.list.length
   ·exact .inl ⟨hl,L2 hB q_⟩
   ·have:b=S.list.length:=by omega
    subst this
    exact .inr ⟨E,hlast⟩
  refine⟨⟨hm,?_,?_,?_⟩,?_,[⟨d,k,hp,a⟩],e⟩
  ·rw[e]
   intro b c hbc hc
   rcases hcase c hc with ⟨c1,c2⟩ | ⟨c1,c2⟩<;>rcases hcase b q_ with ⟨b1,b2⟩ | ⟨b1,b2⟩
   ·rw[c2,b2];exact h.mono b c hbc c1
   ·omega
   ·rw[c2,b2];exact h.bnd b b1
   ·rw[c2,b2];exact Nat.le_refl _
  ·rw[e]
   intro b hb
   rw[hla]
   rcases hcase b hb with ⟨b1,b2⟩ | ⟨b1,b2⟩
   ·rw[b2];exact h.bnd b b1
   ·rw[b2];exact Nat.le_refl _
  ·rw[e]
   intro b hb
   rcases hcase b hb with ⟨b1,_⟩ | ⟨b1,_⟩
   ·rw[Jj hB q_,Od b1];exact h.walk b b1
   ·subst b1
    rw[Aac hB (f:=⟨d,k,hp,a⟩) ha,Y0]
    exact hw
  ·rw[e]
   exact⟨S.list.length,by omega,by rw[Y0],by rw[Y0],by rw[hlast];exact Nat.le_refl _⟩
theorem BI.ext1 {n:Net} {p:Int} {a k:Int} (hk:k=0∨k=1):∀ {l:List Hop} {S:Srch},BI n p S a→(-1≤a∧a<S.list.length)→(∀ h∈l,(0≤h.domain∧h.domain.toNat<n.domains.length)∧HWay n p (backT S.list a++[h]) (h.domain,k)) →
  BI n p (Go.Sy.YtcflgpijohhfbaaGreat.ext1 S k a l) a∧(∀ h∈l,HasB (Go.Sy.YtcflgpijohhfbaaGreat.ext1 S k a l).list (h.domain,k) (lnC S.list a+1))∧∃ e,(Go.Sy.YtcflgpijohhfbaaGreat.ext1 S k a l).list=S.list++e
 | [],S,h,_,_=>⟨h,fun _ hx=>(by cases hx),[],by simp[Go.Sy.YtcflgpijohhfbaaGreat.ext1]⟩
 | x::l,S,h,ha,hl=>by
  obtain ⟨x1,x2⟩:=hl x y_
  obtain ⟨m1,m2,e,m3⟩:=h.meet ha x1 hk (hp:=x) rfl x2
  have hla:lnC (meetT S x.domain k x a).list a=lnC S.list a:=by rw[m3];exact L2 h.met.bk ha.2
  have hba:backT (meetT S x.domain k x a).list a=backT S.list a:=by rw[m3];exact Jj h.met.bk ha.2
  obtain ⟨i1,i2,e2,i3⟩:=BI.ext1 hk (l:=l) m1 ⟨ha.1,by rw[m3,List.length_append];omega⟩ (fun y hy=>by rw[hba];exact hl y (by simp[hy]))
  refine⟨i1,fun y hy=>?_,e++e2,?_⟩
  ·rcases List.mem_cons.1 hy with rfl | hy
   ·show HasB (Go.Sy.YtcflgpijohhfbaaGreat.ext1 (meetT S y.domain k y a) k a l).list _ _
    rw[i3]
    exact m2.app m1.met.bk
   ·have:=i2 y hy
    rw[hla]at this
    exact this
  ·show (Go.Sy.YtcflgpijohhfbaaGreat.ext1 (meetT S x.domain k x a) k a l).list=_
   rw[i3,m3,List.append_assoc]
theorem BI.ext2 {n:Net} {p:Int} {a:Int}:∀ {l:List Lead} {S:Srch},BI n p S a→(-1≤a∧a<S.list.length)→(∀ h∈l,(0≤h.domain∧h.domain.toNat<n.domains.length)∧HWay n p (backT S.list a++[⟨3,0,h.domain,h.addr⟩]) (h.domain,1)) →
  BI n p (Go.Sy.YtcflgpijohhfbaaGreat.ext2 S a l) a∧(∀ h∈l,HasB (Go.Sy.YtcflgpijohhfbaaGreat.ext2 S a l).list (h.domain,1) (lnC S.list a+1))∧∃ e,(Go.Sy.YtcflgpijohhfbaaGreat.ext2 S a l).list=S.list++e
 | [],S,h,_,_=>⟨h,fun _ hx=>(by cases hx),[],by simp[Go.Sy.YtcflgpijohhfbaaGreat.ext2]⟩
 | x::l,S,h,ha,hl=>by
  obtain ⟨x1,x2⟩:=hl x y_
  obtain ⟨m1,m2,e,m3⟩:=h.meet ha x1 (.inr rfl) (hp:=⟨3,0,x.domain,x.addr⟩) rfl x2
  have hla:lnC (meetT S x.domain 1 ⟨3,0,x.domain,x.addr⟩ a).list a=lnC S.list a:=by rw[m3];exact L2 h.met.bk ha.2
  have hba:backT (meetT S x.domain 1 ⟨3,0,x.domain,x.addr⟩ a).list a=backT S.list a:=by rw[m3];exact Jj h.met.bk ha.2
  obtain ⟨i1,i2,e2,i3⟩:=BI.ext2 (l:=l) m1 ⟨ha.1,by rw[m3,List.length_append];omega⟩ (fun y hy=>by rw[hba];exact hl y (by simp[hy]))
  refine⟨i1,fun y hy=>?_,e++e2,?_⟩
  ·rcases List.mem_cons.1 hy with rfl | hy
   ·show HasB (Go.Sy.YtcflgpijohhfbaaGreat.ext2 (meetT S y.domain 1 ⟨3,0,y.domain,y.addr⟩ a) a l).list _ _
    rw[i3]
    exact m2.app m1.met.bk
   ·have:=i2 y hy
    rw[hla]at this
    exact this
  ·show (Go.Sy.YtcflgpijohhfbaaGreat.ext2 (meetT S x.domain 1 ⟨3,0,x.domain,x.addr⟩ a) a l).list=_
   rw[i3,m3,List.append_assoc]
theorem BI.ext {n:Net} {p:Int} {S:Srch} {i:Nat} (h:BI n p S (i:Int)) (hi:i<S.list.length) :
  BI n p (extT n S (i:Int)) (i:Int)∧(∀ y,Succ n ((nth S.list (i:Int)).domain,(nth S.list (i:Int)).kind) y→HasB (extT n S (i:Int)).list y (lnC S.list (i:Int)+1))∧∃ e,(extT n S (i:Int)).list=S.list++e:=by
 have hw:=h.walk i hi
 have ha:-1≤(i:Int)∧(i:Int)<S.list.length:=⟨by omega,by omega⟩
 have hkk:=(h.met.ok.at_ _ (show nth S.list (i:Int)∈S.list by rw[Ae (l:=S.list) (i:=(i:Int)) (by simpa using hi)];exact List.getElem_mem _)).2
 rw[extT]
 by_cases h0:(nth S.list (i:Int)).kind=0
 ·rw[if_pos h0]
  obtain ⟨i1,i2,e,i3⟩:=h.ext1 (k:=0) (.inl rfl) (l:=Do n (nth S.list (i:Int)).domain) ha (fun x hx=>⟨Iw hx,by have:=HWay.hop hw (h:=x) hx;dsimp only at this;rw[h0]at this;exact this⟩)
  have hba:backT (Go.Sy.YtcflgpijohhfbaaGreat.ext1 S 0 (i:Int) (Do n (nth S.list (i:Int)).domain)).list (i:Int)=backT S.list (i:Int):=by rw[i3];exact Jj h.met.bk ha.2
  have hla:lnC (Go.Sy.YtcflgpijohhfbaaGreat.ext1 S 0 (i:Int) (Do n (nth S.list (i:Int)).domain)).list (i:Int)=lnC S.list (i:Int):=by rw[i3];exact L2 h.met.bk ha.2
  obtain ⟨j1,j2,e2,j3⟩:=i1.ext2 (l:=routesT n (nth S.list (i:Int)).domain) ⟨ha.1,by rw[i3,List.length_append];omega⟩ (fun x hx=>⟨Jq hx,by rw[hba];exact HWay.lead hw h0 hx⟩)
  refine⟨j1,?_,e++e2,by rw[j3,i3,List.append_assoc]⟩
  rintro y (⟨x,hx,rfl⟩ | ⟨_,q,hq,rfl⟩)
  ·have:=i2 x hx
   rw[j3]
   rw[h0]
   exact this.app i1.met.bk
  ·have:=j2 q hq
   rw[hla]at this
   exact this
 ·have h1:(nth S.list (i:Int)).kind=1:=hkk.resolve_left h0
  rw[if_neg h0]
  obtain ⟨i1,i2,e,i3⟩:=h.ext1 (k:=1) (.inr rfl) (l:=Do n (nth S.list (i:Int)).domain) ha (fun x hx=>⟨Iw hx,by have:=HWay.hop hw (h:=x) hx;dsimp only at this;rw[h1]at this;exact this⟩)
  refine⟨i1,?_,e,i3⟩
  rintro y (⟨x,hx,rfl⟩ | ⟨h2,_⟩)
  ·rw[h1]
   exact i2 x hx
  ·exact absurd h2 h0
structure SI (n:Net) (p to:Int) (S:Srch) (i:Nat):Prop where
 met:Met n S
 mono:∀ b c:Nat,b≤c→c<S.list.length→lnC S.list b≤lnC S.list c
 bnd:i<S.list.length→∀ b:Nat,b<S.list.length→lnC S.list b≤lnC S.list i+1
 walk:∀ b:Nat,b<S.list.length→HWay n p (backT S.list b) ((nth S.list b).domain,(nth S.list b).kind)
 succ:∀ j:Nat,j<i→j<S.list.length→∀ y,Succ n ((nth S.list (j:Int)).domain,(nth S.list (j:Int)).kind) y→HasB S.list y (lnC S.list (j:Int)+1)
 start:∀ y,Aal n p y→HasB S.list y 1
 goal:∀ j:Nat,j<i→j<S.list.length→inB (A8 n (nth S.list (j:Int)).domain) to=false
theorem SI.far {n:Net} {p to:Int} {S:Srch} {i M:Nat} (h:SI n p to S i) (hP:∀ b:Nat,b<S.list.length→lnC S.list (b:Int)≤M→b<i):∀ (m:Nat) (x:Int × Int),Walk n p m x→m≤M→HasB S.list x (m+1)
 | 0,x,hw,_=>by
  cases hw with
  | start hs=>exact h.start x hs
 | m+1,x,hw,hm=>by
  cases hw with
  | step hw hs =>
   rename_i y
   obtain ⟨b,b1,b2,b3,b4⟩:=h.far hP m y hw q_
   obtain ⟨c,c1,c2,c3,c4⟩:=h.succ b (hP b b1 q_) b1 x (by rw[b2,b3];exact hs)
   exact⟨c,c1,c2,c3,by omega⟩
theorem SI.none {n:Net} {p to:Int} {S:Srch} {i M:Nat} (h:SI n p to S i) (hP:∀ b:Nat,b<S.list.length→lnC S.list (b:Int)≤M→b<i) {m:Nat} {x:Int × Int} (hw:Walk n p m x) (hg:inB (A8 n x.1) to=true):M≤m:=by
 by_cases hm:m<M
 ·obtain ⟨b,b1,b2,b3,b4⟩:=h.far hP m x hw q_
  have:=h.goal b (hP b b1 q_) b1
  rw[b2,hg]at this
  cases this
 ·omega
theorem SI.next {n:Net} {p to:Int} {S:Srch} {i:Nat} (h:SI n p to S i) (hi:i<S.list.length) (hg:inB (A8 n (nth S.list (i:Int)).domain) to=false):SI n p to (extT n S (i:Int)) (i+1)∧i+1≤(extT n S (i:Int)).list.length:=by
 obtain ⟨b1,b2,e,b3⟩:=BI.ext (p:=p) ⟨h.met,h.mono,h.bnd hi,h.walk⟩ hi
 have hB:=h.met.bk
 refine⟨⟨b1.met,b1.mono,fun hi2 b hb=>?_,b1.walk,fun j hj hjl y hy=>?_,fun y hy=>?_,fun j hj hjl=>?_⟩,?_⟩
 ·have h1:=b1.bnd b hb
  have h2:=b1.mono i (i+1) q_ hi2
  omega
 ·have hji:j<S.list.length:=by omega
  rw[b3,Od hji]at hy
  rw[b3,L2 hB q_,← b3]
  by_cases hje:j=i
  ·subst hje
   exact b2 y hy
  ·rw[b3]
   exact(h.succ j q_ hji y hy).app hB
 ·rw[b3]
  exact(h.start y hy).app hB
 ·have hji:j<S.list.length:=by omega
  rw[b3,Od hji]
  by_cases hje:j=i
  ·subst hje;exact hg
  ·exact h.goal j q_ hji
 ·rw[b3,List.length_append];omega
theorem Tm {n:Net} {p to:Int}:∀ (k:Nat) (S:Srch) (i:Nat),SI n p to S i→i≤S.list.length→2 * n.domains.length+1≤i+k →
  ((Db n to k S i).2=true→∃ m x,Walk n p m x∧inB (A8 n x.1) to=true∧(Db n to k S i).1.length=m+1∧HWay n p (Db n to k S i).1 x∧∀ m' x',Walk n p m' x'→inB (A8 n x'.1) to=true→m≤m') ∧
  ((Db n to k S i).2=false→(Db n to k S i).1=[]∧∀ m' x',Walk n p m' x'→inB (A8 n x'.1) to=true→False)
 | 0,S,i,h,hi,hk=>by
  have:=h.met.ok.le
  omega
 | k+1,S,i,h,hi,hk=>by
  rw[Db]
  by_cases hl:i<S.list.length
  ·rw[if_pos hl]
   cases hg:inB (A8 n (nth S.list (i:Int)).domain) to with
   | true =>
    rw[if_pos rfl]
    refine⟨fun _=>?_,fun hf=>by cases hf⟩
    have hH:=h.walk i hl
    obtain ⟨m,hm,hw⟩:=hH.walk
    rw[← Agi]at hm
    refine⟨m,_,hw,hg,?_,hH,fun m' x' hw' hg'=>?_⟩
    ·show (backT S.list (i:Int)).length=_
     rw[← Agi]
     exact hm
    ·refine h.none (M:=m) (fun b hb hbm=>?_) hw' hg'
     by_cases hbi:b<i
     ·exact hbi
     ·have:=h.mono i b q_ hb
      omega
   | false =>
    rw[if_neg j_]
    obtain ⟨h1,h2⟩:=h.next hl hg
    exact Tm k _ (i+1) h1 h2 q_
  ·rw[if_neg hl]
   refine⟨fun hf=>(by cases hf),fun _=>⟨rfl,fun m' x' hw' hg'=>?_⟩⟩
   have:=h.none (M:=m'+1) (fun b hb _=>by omega) hw' hg'
   omega
theorem Asj {n:Net} (hr:Ac n=true) {p:Int} (hp:0≤p∧p.toNat<n.ports.length) (to:Int):SI n p to (beginT n p) 0:=by
 have e:nth n.ports p=n.ports[p.toNat]:=Ae hp.2
 have hv:∀ v∈(nth n.ports p).native::(nth n.ports p).tagged,v≠0→0≤B1 n (nth n.ports p).dev v∧(B1 n (nth n.ports p).dev v).toNat<n.domains.length:=by
  rw[e]
  exact fun v hv h0=>Hr hr hp.2 hv h0
 have key:∀ (l:List Int) (S:Srch),BI n p S (-1)→(∀ v∈l,v∈(nth n.ports p).native::(nth n.ports p).tagged)→BI n p (l.foldl (Hj n (nth n.ports p).dev) S) (-1)∧(∀ v∈l,v≠0→HasB (l.foldl (Hj n (nth n.ports p).dev) S).list (B1 n (nth n.ports p).dev v,0) 1)∧∃ x,(l.foldl (Hj n (nth n.ports p).dev) S).list=S.list++x:=by
  intro l
  induction l with
  | nil=>exact fun S h _=>⟨h,fun _ hx=>(by cases hx),[],by simp⟩
  | cons v l ih =>
   intro S h hl
   rw[List.foldl_cons,Hj]
   by_cases h0:v=0
   ·rw[if_pos h0]
    obtain ⟨i1,i2,x,i3⟩:=ih S h (fun w hw=>hl w (by simp[hw]))
    refine⟨i1,fun w hw hw0=>?_,x,i3⟩
    rcases List.mem_cons.1 hw with rfl | hw
    ·exact absurd h0 hw0
    ·exact i2 w hw hw0
   ·rw[if_neg h0]
    have hv1:=hl v y_
    obtain ⟨m1,m2,x,m3⟩:=h.meet (a:=-1) q_ (hv v hv1 h0) (.inl rfl) (hp:=⟨0,0,B1 n (nth n.ports p).dev v,0⟩) rfl (by rw[Akq];exact .start ⟨v,hv1,h0,rfl⟩)
    obtain ⟨i1,i2,y,i3⟩:=ih _ m1 (fun w hw=>hl w (by simp[hw]))
    refine⟨i1,fun w hw hw0=>?_,x++y,by rw[i3,m3,List.append_assoc]⟩
    rcases List.mem_cons.1 hw with rfl | hw
    ·rw[i3]
     rw[Agh]at m2
     exact m2.app m1.met.bk
    ·exact i2 w hw hw0
 have h0:BI n p (Hv n) (-1):=by
  refine⟨⟨Ae9 n,fun i hi=>by simp[Hv]at hi,fun f hf=>by simp[Hv]at hf,fun d hd k hk=>?_⟩,fun b c _ hc=>by simp[Hv]at hc,fun b hb=>by simp[Hv]at hb,fun b hb=>by simp[Hv]at hb⟩
  constructor
  ·intro hm
   have:L1 (Hv n) d k=false:=by
    unfold L1 Hv
    dsimp only
    split<;>(rw[Ae (by rw[List.length_replicate];exact hd.2)];simp)
   rw[this]at hm
   cases hm
  ·rintro ⟨f,hf,_⟩
   simp[Hv]at hf
 obtain ⟨i1,i2,x,i3⟩:=key ((nth n.ports p).native::(nth n.ports p).tagged) (Hv n) h0 (fun v hv=>hv)
 refine⟨i1.met,i1.mono,fun hl b hb=>?_,i1.walk,fun j hj=>by omega,?_,fun j hj=>by omega⟩
 ·have h1:=i1.bnd b hb
  rw[Agh]at h1
  show lnC (beginT n p).list (b:Int)≤_
  have h1:lnC (beginT n p).list (b:Int)≤0+1:=h1
  omega
 ·rintro y ⟨v,hv,h0,rfl⟩
  exact i2 v hv h0
theorem K2 {n:Net} {p to:Int}:((wayT n p to).2=true→Ac n=true∧H9 n p=true∧H9 n to=true∧p≠to∧∃ m x,Walk n p m x∧inB (A8 n x.1) to=true∧(wayT n p to).1.length=m+1∧HWay n p (wayT n p to).1 x∧∀ m' x',Walk n p m' x'→inB (A8 n x'.1) to=true→m≤m') ∧
  ((wayT n p to).2=false→(wayT n p to).1=[]∧(Ac n=true→H9 n p=true→H9 n to=true→p≠to→∀ m' x',Walk n p m' x'→inB (A8 n x'.1) to=true→False)):=by
 rw[wayT]
 split
 ·rename_i hc
  obtain ⟨s1,s2⟩:=Tm (2 * n.domains.length+1) (beginT n p) 0 (Asj hc.2.2.2 (J4 hc.1) to) (Nat.zero_le _) q_
  exact⟨fun h=>⟨hc.2.2.2,hc.1,hc.2.1,hc.2.2.1,s1 h⟩,fun h=>⟨(s2 h).1,fun _ _ _ _=>(s2 h).2⟩⟩
 ·rename_i hc
  exact⟨fun h=>(by cases h),fun _=>⟨rfl,fun h1 h2 h3 h4=>absurd ⟨h2,h3,h4,h1⟩ hc⟩⟩
def emptyN:Net:=⟨[],[],[],[],[],[],[],[]⟩
def fitsB (n:Net) (l:LineM) (k:Int):Bool:=l.kind == k && (C5 l && Ac n)
def H6 (n:Net) (s:ByteArray):Int:=B9 (fun d:Device=>d.name == s) n.devices
def Aau (n:Net) (dev:Int) (s:ByteArray):Int:=B9 (fun p:Port=>p.dev == dev && p.name == s) n.ports
def Apf (n:Net) (dev:Int) (s:ByteArray):Int:=B9 (fun v:Vrf=>v.dev == dev && v.name == s) n.vrfs
def putDevice (n:Net) (l:LineM):Net × Int :=
 if fitsB n l 1=false then (emptyN,2) else if n.devices.any (fun d=>d.name == l.dev || d.mac == l.mac)=true then (emptyN,30) else if n.devices.length=8 then (emptyN,3)
 else ({ n with devices:=n.devices++[⟨l.row,l.num,l.dev,l.mac,0⟩] },0)
def Dh (dev:Int) (ds:List Domain) (v:Int):List Domain:=if 0<v∧ds.any (fun d=>d.dev == dev && d.vlan == v)=false then ds++[⟨dev,v,0,-1,0,[]⟩] else ds
def Bd (dev:Int) (ds:List Domain) (l:List Int):List Domain:=l.foldl (Dh dev) ds
def putPort (n:Net) (l:LineM):Net × Int :=
 if fitsB n l 2=false then (emptyN,2) else if H6 n l.dev<0 then (emptyN,31) else if 0≤Aau n (H6 n l.dev) l.port then (emptyN,30) else if n.ports.length=40 then (emptyN,3)
 else if 48<(Bd (H6 n l.dev) n.domains (l.vlan::l.tagged)).length then (emptyN,3)
 else ({ n with ports:=n.ports++[⟨l.row,H6 n l.dev,l.vlan,l.cost,-1,l.port,l.tagged⟩],domains:=Bd (H6 n l.dev) n.domains (l.vlan::l.tagged) },0)
def endI (n:Net) (dev port:ByteArray):Int:=if H6 n dev<0 then -1 else Aau n (H6 n dev) port
def Vj (l:List Port) (i k:Int):List Port:=l.set i.toNat { nth l i with link:=k }
def putLink (n:Net) (l:LineM):Net × Int :=
 if fitsB n l 3=false then (emptyN,2) else
 let a:=endI n l.dev l.port
 let b:=endI n l.peer l.far
 if a<0∨b<0 then (emptyN,31) else if (nth n.ports a).dev=(nth n.ports b).dev∨0≤(nth n.ports a).link∨0≤(nth n.ports b).link then (emptyN,33) else if n.links.length=20 then (emptyN,3)
 else ({ n with ports:=Vj (Vj n.ports a n.links.length) b n.links.length,links:=n.links++[⟨l.row,a,b⟩] },0)
def Ad7 (n:Net) (d mac:Int):Int:=B9 (fun s:Static=>s.domain == d && s.mac == mac) n.statics
def putStatic (n:Net) (l:LineM):Net × Int :=
 if fitsB n l 4=false then (emptyN,2) else
 let dev:=H6 n l.dev
 let port:=Aau n dev l.port
 let dom:=Ej n dev l.vlan
 if dev<0∨port<0 then (emptyN,31) else if dom<0∨Ci (nth n.ports port) l.vlan=false then (emptyN,32) else if 0≤Ad7 n dom l.mac then (emptyN,30) else if n.statics.length=64 then (emptyN,3)
 else ({ n with statics:=n.statics++[⟨l.row,dom,port,l.mac⟩] },0)
def Ea (n:Net) (a:Int):Int:=B9 (fun d:Device=>d.vtep == a) n.devices
def Mw (n:Net) (dev vni:Int):Int:=B9 (fun d:Domain=>d.dev == dev && (d.vni == vni && vni != 0)) n.domains
def H8 (n:Net) (dev vni:Int):Int:=B9 (fun f:Flood=>f.dev == dev && f.vni == vni) n.floods
def begT (n:Net) (l:LineM) (k:Int):Int × Int:=if fitsB n l k=false then (0,2) else if H6 n l.dev<0 then (0,31) else (H6 n l.dev,0)
def Ac7 (l:List Device) (i a:Int):List Device:=l.set i.toNat { nth l i with vtep:=a }
def putVtep (n:Net) (l:LineM):Net × Int :=
 if (begT n l 5).2≠0 then (emptyN,(begT n l 5).2) else
 let dev:=(begT n l 5).1
 if (nth n.devices dev).vtep≠0∨0≤Ea n l.addr then (emptyN,30) else ({ n with devices:=Ac7 n.devices dev l.addr },0)
def putVni (n:Net) (l:LineM):Net × Int :=
 if (begT n l 6).2≠0 then (emptyN,(begT n l 6).2) else
 let dev:=(begT n l 6).1
 let at_:=Ej n dev l.vlan
 if (nth n.devices dev).vtep=0 then (emptyN,35) else if at_<0 then (emptyN,32) else if (nth n.domains at_).vni≠0∨0≤Mw n dev l.num then (emptyN,30)
 else ({ n with domains:=n.domains.set at_.toNat { nth n.domains at_ with vni:=l.num,row:=l.row } },0)
def putFlood (n:Net) (l:LineM):Net × Int :=
 if (begT n l 7).2≠0 then (emptyN,(begT n l 7).2) else
 let dev:=(begT n l 7).1
 if Mw n dev l.num<0 then (emptyN,31) else if 0≤H8 n dev l.num then (emptyN,30) else if inB l.addrs (nth n.devices dev).vtep=true then (emptyN,36) else if n.floods.length=48 then (emptyN,3)
 else ({ n with floods:=n.floods++[⟨l.row,dev,l.num,l.addrs⟩] },0)
def putVrf (n:Net) (l:LineM):Net × Int :=
 if (begT n l 8).2≠0 then (emptyN,(begT n l 8).2) else
 let dev:=(begT n l 8).1
 if 0≤Apf n dev l.name then (emptyN,30) else if n.vrfs.length=16 then (emptyN,3)
 else ({ n with vrfs:=n.vrfs++[⟨l.row,dev,l.name,l.imports,l.exports⟩] },0)
def Vu (a bits x:Int):Bool:=decide (0≤bits) && (decide (bits≤32) && E6 a bits == E6 x bits)
def clashB (n:Net) (dev a bits:Int) (x:Irb):Bool:=x.addr == a || ((nth n.vrfs x.vrf).dev != dev && (Vu x.addr x.bits a || Vu a bits x.addr))
def putIrb (n:Net) (l:LineM):Net × Int :=
 if (begT n l 9).2≠0 then (emptyN,(begT n l 9).2) else
 let dev:=(begT n l 9).1
 let vrf:=Apf n dev l.name
 let at_:=Ej n dev l.vlan
 if vrf<0 then (emptyN,31) else if at_<0 then (emptyN,32) else if 0≤(nth n.domains at_).irb∨n.irbs.any (clashB n dev l.addr l.bits)=true then (emptyN,37)
 else ({ n with domains:=n.domains.set at_.toNat { nth n.domains at_ with irb:=n.irbs.length },irbs:=n.irbs++[⟨l.row,at_,vrf,l.addr,l.bits⟩] },0)
def putT (n:Net) (l:LineM):Net × Int :=
 if l.kind=1 then putDevice n l else if l.kind=2 then putPort n l else if l.kind=3 then putLink n l else if l.kind=4 then putStatic n l else if l.kind=5 then putVtep n l
 else if l.kind=6 then putVni n l else if l.kind=7 then putFlood n l else if l.kind=8 then putVrf n l else if l.kind=9 then putIrb n l else (emptyN,2)
def agreeA (n:Net) (f:Flood) (a:Int):Bool :=
 let dev:=Ea n a
 decide (0≤dev) && (a != 0 && (decide (0≤Mw n dev f.vni) && (decide (0≤H8 n dev f.vni) &&
  (inB (nth n.floods (H8 n dev f.vni)).addrs (nth n.devices f.dev).vtep && f.addrs.all fun b=>b == a || inB (nth n.floods (H8 n dev f.vni)).addrs b))))
def agreesB (n:Net) (f:Flood):Bool:=decide (0≤Mw n f.dev f.vni) && f.addrs.all (agreeA n f)
def peersT (n:Net) (d:Domain):List Int:=if d.vni≠0∧0≤H8 n d.dev d.vni then (nth n.floods (H8 n d.dev d.vni)).addrs.map (fun a=>Mw n (Ea n a) d.vni) else []
def Hd (n:Net):Net:={ n with domains:=n.domains.map fun d=>{ d with peers:=peersT n d } }
def meshNT (n:Net):Net × Int × Int :=
 if Ac n=false then (emptyN,0,2) else match n.floods.find? (fun f=>!(agreesB n f)) with
 | some f=>(emptyN,f.row,36)
 | none=>if Ac (Hd n)=false then (emptyN,0,36) else (Hd n,0,0)
def Cp (f:List Int):Prop:=∀ i (h:i<f.length),0≤f[i]∧f[i]≤i
def Ae2:Nat→List Int→Int→List Int × Int
 | 0,f,i=>(f,i)
 | k+1,f,i=>if nth f i=i then (f,i) else Ae2 k (f.set i.toNat (nth f (nth f i))) (nth f (nth f i))
def I0 (f:List Int) (i:Int):List Int × Int:=Ae2 (i.toNat+1) f i
def Q9 (f:List Int) (a b:Int):List Int × Bool :=
 let x:=I0 f a
 let y:=I0 x.1 b
 (y.1.set (max x.2 y.2).toNat (min x.2 y.2),x.2 != y.2)
def Kd (k:Nat):List Int:=(List.range k).map fun i:Nat=>(i:Int)
def Cw (n:Net) (f:List Int) (i:Int) (v:Int):List Int:=if (linkDomT n i v).2=true then (Q9 f (Ej n (nth n.ports i).dev v) (linkDomT n i v).1).1 else f
def E8 (n:Net) (f:List Int) (i:Nat):List Int:=((nth n.ports i).tagged++[(nth n.ports i).native]).foldl (fun f v=>Cw n f i v) f
def Qe (n:Net) (f:List Int):List Int:=(List.range n.ports.length).foldl (E8 n) f
def Aaz:Int→List Int→Int
 | m,[]=>m
 | m,x::l=>Aaz (min m x) l
def Aga (l:List Int):Int:=Aaz (nth l 0) (l.drop 1)
def Vz (n:Net):List Int→Nat→List Domain→Int × Bool
 | _,_,[]=>(0,false)
 | f,i,d::r=>if d.peers=[] then Vz n f (i+1) r else
  let x:=Q9 f i ((n.domains.length:Int)+min (i:Int) (Aga d.peers))
  if x.2=false then (d.row,true) else Vz n x.1 (i+1) r
def loopT (n:Net):Int × Bool:=if Ac n=false then (0,false) else Vz n (Qe n (Kd (2 * n.domains.length))) 0 n.domains
def finishT (n:Net):Net × Int × Int:=if (meshNT n).2.2≠0 then meshNT n else if (loopT (meshNT n).1).2=true then (emptyN,(loopT (meshNT n).1).1,38) else ((meshNT n).1,0,0)
def He:Net→List LineM→Net × Int × Int
 | n,[]=>finishT n
 | n,l::r=>if (putT n l).2≠0 then (emptyN,l.row,(putT n l).2) else He (putT n l).1 r
def Cv (l:List LineM):Net × Int × Int:=He emptyN l
theorem bareB_iff {n:Net} {i:Nat} {d:Domain}:Km n i d=true↔Ai d.dev n.devices.length=true∧(1≤d.vlan∧d.vlan≤4094)∧(0≤d.vni∧d.vni≤16777215)∧(d.irb=-1∨Ai d.irb n.irbs.length=true∧(nth n.irbs d.irb).domain=i)∧Ej n d.dev d.vlan=i:=by
 simp only[Km,Bool.and_eq_true,Bool.or_eq_true,decide_eq_true_eq,beq_iff_eq]
 constructor
 ·rintro ⟨⟨⟨⟨⟨⟨a,b⟩,c⟩,d⟩,e⟩,f⟩,g⟩
  exact⟨a,⟨b,c⟩,⟨d,e⟩,f,g⟩
 ·rintro ⟨a,⟨b,c⟩,⟨d,e⟩,f,g⟩
  exact⟨⟨⟨⟨⟨⟨a,b⟩,c⟩,d⟩,e⟩,f⟩,g⟩
theorem At7 {α:Type} {p:α→Bool} {l:List α} {i:Int} (h:B9 p l=i) (h0:0≤i):∃ hi:i.toNat<l.length,p l[i.toNat]=true:=by
 unfold B9 at h
 split at h
 ·rename_i j hj
  rw[List.findIdx?_eq_some_iff_getElem]at hj
  obtain ⟨h1,h2,_⟩:=hj
  subst h
  exact⟨by simpa using h1,by simpa using h2⟩
 ·omega
theorem Ai9 {n:Net} {i:Int} (h:0≤B3 n i):(0≤i∧i.toNat<n.ports.length)∧0≤(nth n.ports i).link∧(nth n.ports i).link.toNat<n.links.length:=by
 have ht:=D7 h
 unfold B3 at h
 split at h
 ·rename_i hc
  have e1:nth n.ports i=n.ports[i.toNat]:=Ae ht.1.2
  rw[e1]at hc ⊢
  exact⟨ht.1,hc.2.1,(Ew hc.2.2 ht.1.2 hc.2.1).1⟩
 ·omega
theorem memberB_iff {p:Port} {v:Int}:Ci p v=true↔v≠0∧(v=p.native∨v∈p.tagged):=by
 simp[Ci,inB]
theorem Kh {n:Net} (hr:Ac n=true) {d p:Int} (hd:0≤d∧d.toNat<n.domains.length) :
  p∈A8 n d↔(0≤p∧p.toNat<n.ports.length)∧(nth n.ports p).dev=(nth n.domains d).dev∧Ci (nth n.ports p) (nth n.domains d).vlan=true:=by
 rw[A8,if_pos ⟨⟨hd.1,by omega⟩,hr⟩,A6,Lj]
 constructor
 ·rintro ⟨h1,h2,h3⟩
  rw[Mr,Int.toNat_of_nonneg h1]at h3
  simp only[Bool.and_eq_true,beq_iff_eq]at h3
  exact⟨⟨h1,by omega⟩,h3⟩
 ·rintro ⟨⟨h1,h2⟩,h3⟩
  refine⟨h1,by omega,?_⟩
  rw[Mr,Int.toNat_of_nonneg h1]
  simpa using h3
theorem Al3 {n:Net} (hr:Ac n=true) {d:Int} (hd:0≤d∧d.toNat<n.domains.length):Ej n (nth n.domains d).dev (nth n.domains d).vlan=d:=by
 rw[Ae hd.2,(bareB_iff.1 (Ar5 hr hd.2)).2.2.2.2]
 exact Int.toNat_of_nonneg hd.1
theorem Ar7 {n:Net} {dev v:Int} (h:0≤Ej n dev v):(0≤Ej n dev v∧(Ej n dev v).toNat<n.domains.length)∧(nth n.domains (Ej n dev v)).dev=dev∧(nth n.domains (Ej n dev v)).vlan=v:=by
 have h0:Ej n dev v=B9 (fun d:Domain=>d.dev == dev && d.vlan == v) n.domains:=rfl
 obtain ⟨a,b⟩:=At7 (p:=fun d:Domain=>d.dev == dev && d.vlan == v) h0.symm h
 simp only[Bool.and_eq_true,beq_iff_eq]at b
 exact⟨⟨h,a⟩,by rw[Ae a];exact b.1,by rw[Ae a];exact b.2⟩
theorem Aja {n:Net} {p:Int} (h:0≤B3 n p):B3 n (B3 n p)=p:=by
 have ht:=D7 h
 have hr:=ht.2.1
 have hl:=Ai9 h
 obtain ⟨⟨p0,p1⟩,l0,l1⟩:=hl
 have e:B3 n p=if (nth n.links (nth n.ports p).link).a=p then (nth n.links (nth n.ports p).link).b else (nth n.links (nth n.ports p).link).a:=by
  rw[B3,if_pos ⟨⟨p0,by omega⟩,l0,hr⟩]
 have hlk:Og n (nth n.ports p).link.toNat (nth n.links (nth n.ports p).link)=true:=by
  have h2:=hr
  simp only[Ac,Bool.and_eq_true]at h2
  rw[Ae l1]
  exact allB_iff.1 h2.1.1.1.1.2 _ l1
 have hpl:=Ew hr p1 (by rw[← Ae p1];exact l0)
 rw[← Ae p1]at hpl
 have hcp:((p.toNat:Nat):Int)=p:=Int.toNat_of_nonneg p0
 have hcl:(((nth n.ports p).link.toNat:Nat):Int)=(nth n.ports p).link:=Int.toNat_of_nonneg l0
 rw[hcp]at hpl
 simp only[Og,Ai,Bool.and_eq_true,decide_eq_true_eq,beq_iff_eq,bne_iff_ne]at hlk
 rw[hcl]at hlk
 obtain ⟨⟨⟨⟨⟨a1,a2⟩,b1,b2⟩,hne⟩,la⟩,lb⟩:=hlk
 have hab:(nth n.links (nth n.ports p).link).a≠(nth n.links (nth n.ports p).link).b:=fun e=>hne (by rw[e])
 by_cases hp:(nth n.links (nth n.ports p).link).a=p
 ·rw[if_pos hp]at e
  have e2:B3 n (nth n.links (nth n.ports p).link).b=if (nth n.links (nth n.ports p).link).a=(nth n.links (nth n.ports p).link).b then (nth n.links (nth n.ports p).link).b else (nth n.links (nth n.ports p).link).a:=by
   rw[B3,if_pos ⟨⟨b1,b2⟩,by rw[lb];exact l0,hr⟩,lb]
  rw[e,e2,if_neg hab,hp]
 ·rw[if_neg hp]at e
  have hpb:=hpl.2.resolve_left hp
  have e2:B3 n (nth n.links (nth n.ports p).link).a=(nth n.links (nth n.ports p).link).b:=by
   rw[B3,if_pos ⟨⟨a1,a2⟩,by rw[la];exact l0,hr⟩,la,if_pos rfl]
  rw[e,e2,hpb]
theorem An4 {n:Net} (hr:Ac n=true) {d e p:Int} (hd:0≤d∧d.toNat<n.domains.length) (hp:p∈A8 n d) (h:linkDomT n p (nth n.domains d).vlan=(e,true)) :
  (0≤e∧e.toNat<n.domains.length)∧∃ q∈A8 n e,linkDomT n q (nth n.domains e).vlan=(d,true):=by
 obtain ⟨hp0,hp1,hp2⟩:=(Kh hr hd).1 hp
 have hin:=Ki (n:=n) (i:=p) (v:=(nth n.domains d).vlan) (by rw[h])
 rw[h]at hin
 dsimp only at hin
 refine⟨hin,?_⟩
 have hc:(crossT n p (nth n.domains d).vlan).2.2=true:=by
  cases hcc:(crossT n p (nth n.domains d).vlan).2.2
  ·rw[linkDomT,if_neg (by rw[hcc];decide)]at h;cases h
  ·rfl
 rw[linkDomT,if_pos hc]at h
 have hcr:0≤B3 n p∧Ci (nth n.ports p) (nth n.domains d).vlan=true∧Dd n p (nth n.domains d).vlan≠0:=by
  rw[crossT]at hc
  split at hc
  ·assumption
  ·cases hc
 rw[crossT,if_pos hcr]at h
 dsimp only at h
 obtain ⟨he,_⟩:=Prod.mk.inj h
 rw[B1,if_pos hr]at he
 have hot:=D7 hcr.1
 have hq:0≤B3 n p∧(B3 n p).toNat<n.ports.length:=⟨hcr.1,hot.2.2⟩
 have hback:=Aja hcr.1
 generalize hqe:B3 n p=q at *
 generalize hve:(nth n.domains d).vlan=v at *
 have hdo:=Ar7 (n:=n) (dev:=(nth n.ports q).dev) (v:=Dd n p v) (by rw[he];exact hin.1)
 rw[he]at hdo
 obtain ⟨_,d1,d2⟩:=hdo
 obtain ⟨v0,hv⟩:=memberB_iff.1 hp2
 have nat_q:=(Zw hr hq.2).2
 have nat_p:=(Zw hr hp0.2).2
 rw[← Ae hq.2]at nat_q
 rw[← Ae hp0.2]at nat_p
 have hto0:=hcr.2.2
 have hto:Dd n p v=(if v=(nth n.ports p).native then (nth n.ports q).native else if inB (nth n.ports q).tagged v=true then v else 0):=by rw[Dd,hqe]
 have hfrom:Dd n q (Dd n p v)=(if Dd n p v=(nth n.ports q).native then (nth n.ports p).native else if inB (nth n.ports p).tagged (Dd n p v)=true then Dd n p v else 0):=by rw[Dd,hback]
 have hinb:∀ {l:List Int} {x:Int},inB l x=true↔x∈l:=by intro l x;simp[inB]
 have key:Ci (nth n.ports q) (Dd n p v)=true∧Dd n q (Dd n p v)=v:=by
  by_cases hn:v=(nth n.ports p).native
  ·rw[if_pos hn]at hto
   rw[hto]at hfrom ⊢
   rw[if_pos rfl]at hfrom
   rw[hto]at hto0
   exact⟨memberB_iff.2 ⟨hto0,.inl E⟩,by rw[hfrom,hn]⟩
  ·rw[if_neg hn]at hto
   cases hi:inB (nth n.ports q).tagged v with
   | false =>
    rw[hi,if_neg j_]at hto
    exact absurd hto hto0
   | true =>
    rw[hi,if_pos rfl]at hto
    rw[hto]at hfrom ⊢
    have hne:v≠(nth n.ports q).native:=fun e=>by rw[← e,hi]at nat_q;cases nat_q
    rw[if_neg hne,if_pos (hinb.2 (hv.resolve_left hn))]at hfrom
    exact⟨memberB_iff.2 ⟨v0,.inr (hinb.1 hi)⟩,hfrom⟩
 refine⟨q,(Kh hr hin).2 ⟨hq,d1.symm,by rw[d2];exact key.1⟩,?_⟩
 rw[d2,linkDomT]
 have hcq:crossT n q (Dd n p v)=(p,v,true):=by
  rw[crossT,if_pos ⟨by rw[hback];exact hp0.1,key.1,by rw[key.2];exact v0⟩,hback,key.2]
 rw[hcq,if_pos rfl]
 dsimp only
 rw[B1,if_pos hr,hp1,← hve,Al3 hr hd]
theorem Ann {n:Net} (hr:Ac n=true) {d k:Int} (hd:0≤d∧d.toNat<n.domains.length) (hk:k∈(nth n.domains d).peers):(0≤k∧k.toNat<n.domains.length)∧d∈(nth n.domains k).peers:=by
 rw[Ae hd.2]at hk
 refine⟨Akb hr hd.2 hk,?_⟩
 have h:=hr
 simp only[Ac,Bool.and_eq_true]at h
 have h1:=allB_iff.1 h.1.1.1.1.1.1.2 _ hd.2
 obtain ⟨j,hj,e⟩:=List.mem_iff_getElem.1 hk
 have h2:=allB_iff.1 h1 j hj
 rw[e]at h2
 simp only[Wo,Bool.and_eq_true]at h2
 have h3:inB (nth n.domains k).peers ((d.toNat:Nat):Int)=true:=h2.1.2
 rw[Int.toNat_of_nonneg hd.1]at h3
 simpa [inB] using h3
theorem Aoe {n:Net} {d:Int} {h:Hop} (hh:h∈Do n d):∃ g∈Do n h.domain,g.domain=d:=by
 have hin:=Iw hh
 rw[Do]at hh
 split at hh
 ·rename_i hd
  have hr:=hd.2
  have hdd:0≤d∧d.toNat<n.domains.length:=by have:=hd.1;omega
  rw[Do,if_pos ⟨⟨hin.1,by omega⟩,hr⟩]
  rcases List.mem_append.1 hh with hh | hh
  ·obtain ⟨p,hp,hl⟩:=List.mem_filterMap.1 hh
   rw[linkHop]at hl
   split at hl
   ·rename_i hok
    cases hl
    obtain ⟨_,q,hq,hb⟩:=An4 hr hdd hp (e:=(linkDomT n p (nth n.domains d).vlan).1) (Prod.ext rfl hok)
    refine⟨⟨1,q,d,0⟩,List.mem_append_left _ (List.mem_filterMap.2 ⟨q,hq,?_⟩),E⟩
    rw[linkHop,hb,if_pos rfl]
   ·cases hl
  ·obtain ⟨k,hk,rfl⟩:=List.mem_map.1 hh
   obtain ⟨_,hb⟩:=Ann hr hdd hk
   exact⟨Jh d,List.mem_append_right _ (List.mem_map.2 ⟨d,hb,E⟩),E⟩
 ·cases hh
inductive Path (n:Net):Nat→Int→Int→Prop
 | nil (d:Int):Path n 0 d d
 | snoc {k:Nat} {d e:Int} {h:Hop}:Path n k d e→h∈Do n e→Path n (k+1) d h.domain
theorem Path.cons {n:Net} {d:Int} {h:Hop} (hh:h∈Do n d):∀ {k:Nat} {e:Int},Path n k h.domain e→Path n (k+1) d e:=by
 intro k e hp
 generalize hx:h.domain=x at hp
 induction hp with
 | nil=>subst hx;exact .snoc (.nil d) hh
 | snoc _ hg ih=>exact .snoc (ih hx) hg
theorem Path.back {n:Net} {k:Nat} {d e:Int} (h:Path n k d e):Path n k e d:=by
 induction h with
 | nil=>exact .nil _
 | snoc _ hg ih =>
  obtain ⟨g,hg1,hg2⟩:=Aoe hg
  have:=Path.cons hg1 (e:=_) (by rw[hg2];exact ih)
  exact this
theorem Afh {n:Net} (h:n.irbs=[]) (d:Int):routesT n d=[]:=by
 rw[routesT]
 split
 ·rw[h];rfl
 ·rfl
theorem Amh {n:Net} (h:n.irbs=[]) {p:Int} {k:Nat} {x:Int × Int} (hw:Walk n p k x):x.2=0∧∃ d,Aal n p (d,0)∧Path n k d x.1:=by
 induction hw with
 | start hs =>
  obtain ⟨v,hv,h0,rfl⟩:=hs
  exact⟨E,_,⟨v,hv,h0,E⟩,.nil _⟩
 | step _ hs ih =>
  obtain ⟨i1,d,i2,i3⟩:=ih
  rcases hs with ⟨g,hg,rfl⟩ | ⟨_,q,hq,_⟩
  ·exact⟨i1,d,i2,.snoc i3 hg⟩
  ·rw[Afh h]at hq;cases hq
theorem Ano {n:Net} {p d:Int} (hs:Aal n p (d,0)) {k:Nat} {e:Int} (h:Path n k d e):Walk n p k (e,0):=by
 induction h with
 | nil=>exact .start hs
 | snoc _ hg ih=>exact .step (ih hs) (.inl ⟨_,hg,rfl⟩)
theorem Sn {n:Net} (hr:Ac n=true) {p d:Int} (hp:0≤p∧p.toNat<n.ports.length):Aal n p (d,0)↔(0≤d∧d.toNat<n.domains.length)∧inB (A8 n d) p=true:=by
 have e:nth n.ports p=n.ports[p.toNat]:=Ae hp.2
 constructor
 ·rintro ⟨v,hv,h0,he⟩
  obtain ⟨rfl,_⟩:=Prod.mk.inj he
  have hm:Ci (nth n.ports p) v=true:=memberB_iff.2 ⟨h0,by simpa using hv⟩
  rw[B1,if_pos hr]
  have hd:=Ox hr hp.2 (by rw[← e];exact hm)
  rw[← e]at hd
  obtain ⟨d0,d1,d2⟩:=Ar7 (n:=n) (dev:=(nth n.ports p).dev) (v:=v) hd.1
  refine⟨d0,?_⟩
  have:=(Kh hr d0).2 ⟨hp,d1.symm,by rw[d2];exact hm⟩
  simpa [inB] using this
 ·rintro ⟨hd,hm⟩
  have hm:p∈A8 n d:=by simpa [inB] using hm
  obtain ⟨_,h1,h2⟩:=(Kh hr hd).1 hm
  obtain ⟨h3,h4⟩:=memberB_iff.1 h2
  refine⟨(nth n.domains d).vlan,by simpa using h4,h3,?_⟩
  rw[B1,if_pos hr,h1,Al3 hr hd]
theorem As3 {n:Net} (hr:Ac n=true) {p:Int} (hp:0≤p∧p.toNat<n.ports.length) {k:Nat} {x:Int × Int} (hw:Walk n p k x):0≤x.1∧x.1.toNat<n.domains.length:=by
 cases hw with
 | start hs =>
  obtain ⟨v,hv,h0,rfl⟩:=hs
  exact((Sn hr hp).1 ⟨v,hv,h0,E⟩).1
 | step _ hs =>
  rcases hs with ⟨h,hh,rfl⟩ | ⟨_,q,hq,rfl⟩
  ·exact Iw hh
  ·exact Jq hq
theorem Ami {n:Net} (hr:Ac n=true) (h:n.irbs=[]) {p q:Int} (hp:0≤p∧p.toNat<n.ports.length) (hq:0≤q∧q.toNat<n.ports.length) {k:Nat} {x:Int × Int} (hw:Walk n p k x) (hg:inB (A8 n x.1) q=true) :
  ∃ y,Walk n q k y∧inB (A8 n y.1) p=true:=by
 obtain ⟨_,d,h1,h2⟩:=Amh h hw
 have hx:=As3 hr hp hw
 have hs:Aal n q (x.1,0):=(Sn hr hq).2 ⟨hx,hg⟩
 exact⟨(d,0),Ano hs h2.back,((Sn hr hp).1 h1).2⟩
theorem Ape {n:Net} (h:n.irbs=[]) (p q:Int):(wayT n p q).2=(wayT n q p).2∧(wayT n p q).1.length=(wayT n q p).1.length:=by
 have one:∀ p q:Int,(wayT n p q).2=true→(wayT n q p).2=true∧(wayT n q p).1.length≤(wayT n p q).1.length:=by
  intro p q hpq
  obtain ⟨hr,h1,h2,h3,m,x,w1,w2,w3,_,_⟩:=(K2 (n:=n) (p:=p) (to:=q)).1 hpq
  obtain ⟨y,y1,y2⟩:=Ami hr h (J4 h1) (J4 h2) w1 w2
  cases hqp:(wayT n q p).2 with
  | false=>exact absurd y2 (fun y2=>((K2 (n:=n) (p:=q) (to:=p)).2 hqp).2 hr h2 h1 (Ne.symm h3) m y y1 y2)
  | true =>
   obtain ⟨_,_,_,_,m',x',v1,v2,v3,_,v4⟩:=(K2 (n:=n) (p:=q) (to:=p)).1 hqp
   have:=v4 m y y1 y2
   exact⟨E,by omega⟩
 cases a:(wayT n p q).2 with
 | true =>
  obtain ⟨b1,b2⟩:=one p q a
  obtain ⟨_,c2⟩:=one q p b1
  exact⟨b1.symm,by omega⟩
 | false =>
  cases b:(wayT n q p).2 with
  | true =>
   have:=(one q p b).1
   rw[a]at this;cases this
  | false =>
   rw[((K2 (n:=n) (p:=p) (to:=q)).2 a).1,((K2 (n:=n) (p:=q) (to:=p)).2 b).1]
   exact⟨E,E⟩
structure EntryM where
 mac:Nat
 where_:Int
 seen:Int
deriving DecidableEq
def Ay (e:EntryM):SV:=.agg [A9 e.mac,Aa e.where_,Aa e.seen]
def Ip (m:Nat):Bool:=decide (m≤281474976710655) && !Hh m
def Ht (now:Int):Bool:=decide (0≤now) && decide (now≤1099511627776)
def Et (t:List EntryM) (m:Nat):Int:=B9 (fun e=>decide (e.mac=m)) t
def V7 (t:List EntryM) (i:Nat) (e:EntryM):Bool:=Ip e.mac && Ht e.seen && decide (Et t e.mac=i)
def tableB (t:List EntryM):Bool:=decide (t.length≤8) && Er (V7 t) t
def findE (t:List EntryM) (m:Nat):Int × Bool:=if Et t m<0 then (0,false) else (((t[(Et t m).toNat]?).map (·.where_)).getD 0,true)
def oldestU (t:List EntryM):Nat→Nat
 | 0=>0
 | j+1=>if ((t[j]?).map (·.seen)).getD 0<((t[oldestU t j]?).map (·.seen)).getD 0 then j else oldestU t j
def learnT (t:List EntryM) (m:Nat) (wh now:Int):List EntryM :=
 if tableB t=false∨Ip m=false∨Ht now=false then t
 else if 0≤Et t m then t.set (Et t m).toNat ⟨m,wh,now⟩
 else (if t.length=8 then t.eraseIdx (oldestU t t.length) else t)++[⟨m,wh,now⟩]
def ageT (t:List EntryM) (now:Int):List EntryM:=if tableB t=false∨Ht now=false then t else t.filter fun e=>decide (now-4≤e.seen)
def noF:FrameM:=⟨0,0,0,[]⟩
structure FrameOK (f:FrameM):Prop where
 dst:f.dst<281474976710656
 src:f.src<281474976710656
 typ:f.typ≤65535
 body:f.body.length≤1504
def takeF (b:List UInt8):FrameM × Int :=
 if b.length<14 then (noF,10) else if 1518<b.length then (noF,14)
 else (⟨I9 (b.take 6),I9 ((b.drop 6).take 6),I9 ((b.drop 12).take 2),b.drop 14⟩,0)
def Sp (f:FrameM):List UInt8:=frame f.dst f.src f.typ f.body
def stripT (f:FrameM):FrameM × Int × Int × Int :=
 if f.typ≠33024 then (noF,0,0,11) else if f.body.length<4 then (noF,0,0,10)
 else if 4094<I9 (f.body.take 2) % 4096∨I9 ((f.body.drop 2).take 2)=33024 then (noF,0,0,15)
 else (⟨f.dst,f.src,I9 ((f.body.drop 2).take 2),f.body.drop 4⟩,(I9 (f.body.take 2) % 4096:Nat),(I9 (f.body.take 2) / 4096:Nat),0)
def tagT (f:FrameM) (v:Int):FrameM × Int :=
 if f.typ=33024 then (noF,15) else if 1500<f.body.length then (noF,14)
 else (⟨f.dst,f.src,33024,[UInt8.ofNat (v.toNat / 256),UInt8.ofNat v.toNat,UInt8.ofNat (f.typ / 256),UInt8.ofNat f.typ]++f.body⟩,0)
def vlanT (p:Port) (tagged:Bool) (vid:Int):Int × Bool :=
 if tagged=false∨vid=0 then (p.native,decide (p.native≠0)) else if inB p.tagged vid=true then (vid,true) else (0,false)
def J8 (n:Net) (port:Int) (f:FrameM) (tagged:Bool) (vid:Int):Int × FrameM × Int :=
 if Hh f.src=true then (0,noF,11)
 else if (vlanT (nth n.ports port) tagged vid).2=false then (0,noF,16)
 else (B1 n (nth n.ports port).dev (vlanT (nth n.ports port) tagged vid).1,f,0)
def enterT (n:Net) (port:Int) (b:List UInt8):Int × FrameM × Int :=
 if Ai port n.ports.length=false∨Ac n=false then (0,noF,2)
 else if (takeF b).2≠0 then (0,noF,(takeF b).2)
 else if (takeF b).1.typ=33024 then
  (if (stripT (takeF b).1).2.2.2≠0 then (0,noF,(stripT (takeF b).1).2.2.2) else J8 n port (stripT (takeF b).1).1 true (stripT (takeF b).1).2.1)
 else J8 n port (takeF b).1 false 0
def leaveT (n:Net) (port dom:Int) (f:FrameM):List UInt8 × Int :=
 if Ai port n.ports.length=false∨Ai dom n.domains.length=false∨Ac n=false then ([],2)
 else if (nth n.ports port).dev≠(nth n.domains dom).dev∨Ci (nth n.ports port) (nth n.domains dom).vlan=false then ([],16)
 else if f.typ=33024 then ([],15)
 else if (nth n.domains dom).vlan=(nth n.ports port).native then (Sp f,0)
 else if (tagT f (nth n.domains dom).vlan).2≠0 then ([],(tagT f (nth n.domains dom).vlan).2)
 else (Sp (tagT f (nth n.domains dom).vlan).1,0)
def linkT (n:Net) (port:Int) (b:List UInt8):Int × Int × FrameM × Int :=
 if B3 n port<0 then (0,0,noF,2) else (B3 n port,enterT n (B3 n port) b)
structure QueuedM where
 from_:Int
 peer:Int
 origin:Int
 frame:FrameM
def Bo (q:QueuedM):SV:=.agg [Aa q.from_,Aa q.peer,Aa q.origin,A9 q.frame.dst,A9 q.frame.src,Aa q.frame.typ,.sl 1 Al q.frame.body]
def noQ:QueuedM:=⟨0,0,0,noF⟩
def pushT (l:List QueuedM) (q:QueuedM):List QueuedM × Bool:=if 64≤l.length then (l,false) else (l++[q],true)
def takeT (l:List QueuedM) (at_:Int):QueuedM × List QueuedM × Bool :=
 if at_<0∨(l.length:Int)≤at_ then (noQ,l,false) else ((l[at_.toNat]?).getD noQ,l.eraseIdx at_.toNat,true)
def usableB (n:Net) (fw:List Bool) (p:Int):Bool:=decide ((nth n.ports p).link<0) || (fw[(nth n.ports p).link.toNat]?).getD false
def Mo (n:Net) (fw:List Bool) (dom from_:Int):Bool :=
 Ai dom n.domains.length && decide (fw.length=n.links.length) && Ac n && (decide (from_=-1) || decide (from_=-2) || inB (A6 n dom) from_)
def D9 (n:Net) (fw:List Bool) (from_:Int) (l:List Int):List Int:=l.filter fun p=>!(decide (p=from_) || !(usableB n fw p))
def peersOut (n:Net) (dom from_:Int):List Int:=if from_=-1 then [] else (nth n.domains dom).peers
def floodT (n:Net) (fw:List Bool) (dom from_:Int):List Int × List Int × Int :=
 if Mo n fw dom from_=false then ([],[],2) else (D9 n fw from_ (A6 n dom),peersOut n dom from_,0)
def Dw (n:Net) (dom:Int) (m:Nat):Int:=B9 (fun s:Static=>decide (s.domain=dom) && decide (s.mac=(m:Int))) n.statics
def Cz (n:Net) (fw:List Bool) (t:List EntryM) (dom from_:Int) (m:Nat):List Int × List Int × Int :=
 if Mo n fw dom from_=false then ([],[],2)
 else if Hh m=true then (D9 n fw from_ (A6 n dom),peersOut n dom from_,0)
 else if 0≤Dw n dom m then (D9 n fw from_ [(nth n.statics (Dw n dom m)).port],[],0)
 else if (findE t m).2=true∧0≤(findE t m).1∧inB (A6 n dom) (findE t m).1=true then (D9 n fw from_ [(findE t m).1],[],0)
 else if (findE t m).2=true∧(findE t m).1<0∧inB (nth n.domains dom).peers (-1-(findE t m).1)=true then ([],if from_=-1 then [] else [-1-(findE t m).1],0)
 else (D9 n fw from_ (A6 n dom),peersOut n dom from_,0)
def bAt (b:List UInt8) (i:Nat):UInt8:=b.getD i 0
def numAt (b:List UInt8) (k m:Nat):Nat:=I9 ((b.drop k).take m)
def De (l:List Nat):List UInt8:=l.flatMap fun n=>[UInt8.ofNat (n / 256),UInt8.ofNat n]
def udpPort (a b:Nat):Nat:=49152+(a ^^^ b) % 16384
def Apl (src dst:Nat) (body:List UInt8):List UInt8:=De [src,dst,8+body.length,0]++body
def udpTakeT (b:List UInt8):Int × Int × List UInt8 × Int :=
 if b.length<8 then (0,0,[],10) else if numAt b 4 2<8 then (0,0,[],11) else if b.length<numAt b 4 2 then (0,0,[],10)
 else if numAt b 6 2≠0 then (0,0,[],12) else (numAt b 0 2,numAt b 2 2,(b.take (numAt b 4 2)).drop 8,0)
structure PacketM where
 tos:Nat
 id:Nat
 ttl:Nat
 proto:Nat
 src:Nat
 dst:Nat
 body:List UInt8
def noP:PacketM:=⟨0,0,0,0,0,0,[]⟩
def T1 (p:PacketM):SV:=.agg [Aa p.tos,Aa p.id,Aa p.ttl,Aa p.proto,A4 p.src,A4 p.dst,.sl 1 Al p.body]
structure PacketOK (p:PacketM):Prop where
 tos:p.tos≤255
 id:p.id≤65535
 ttl:p.ttl≤255
 proto:p.proto≤255
 src:p.src<4294967296
 dst:p.dst<4294967296
def Ig (p:PacketM) (s:Nat):List UInt8:=De [17664+p.tos,20+p.body.length,p.id,0,p.ttl * 256+p.proto,s,p.src / 65536,p.src,p.dst / 65536,p.dst]
def Ab5 (p:PacketM):Nat:=Ak4 (Ig p 0)
def Xl (p:PacketM):List UInt8:=Ig p (Ab5 p)++p.body
def ipPutT (p:PacketM):List UInt8 × Int:=if 1480<p.body.length then ([],14) else (Xl p,0)
def ipTakeT (b:List UInt8):PacketM × Int :=
 if b.length<20 then (noP,10) else if bAt b 0≠69∨numAt b 2 2<20 then (noP,11) else if b.length<numAt b 2 2 then (noP,10)
 else if numAt b 6 2≠0 then (noP,11) else if Ia (S8 (b.take 20) 10)≠65535 then (noP,12)
 else (⟨(bAt b 1).toNat,numAt b 4 2,(bAt b 8).toNat,(bAt b 9).toNat,numAt b 12 4,numAt b 16 4,(b.take (numAt b 2 2)).drop 20⟩,0)
def Ms (v:Nat):List UInt8:=[8,0,0,0,UInt8.ofNat (v / 65536),UInt8.ofNat (v / 256),UInt8.ofNat v,0]
def Vh (v:Int):Bool:=decide (v<1) || decide (16777215<v)
def vniT (b:List UInt8):Int × List UInt8 × Int :=
 if b.length<8 then (0,[],10) else if numAt b 4 3=0∨b.take 8≠Ms (numAt b 4 3) then (0,[],11) else (numAt b 4 3,b.drop 8,0)
def Qt (from_ to:Nat) (v:Nat) (f:FrameM):PacketM:=⟨0,0,64,17,from_,to,Apl (udpPort f.dst f.src) 4789 (Ms v++Sp f)⟩
def wrapT (from_ to:Nat) (v:Int) (f:FrameM):List UInt8 × Int :=
 if f.typ=33024 then ([],15) else if Vh v=true then ([],17) else if 1450<f.body.length then ([],14)
 else (frame (Iv to) (Iv from_) 2048 (Xl (Qt from_ to v.toNat f)),0)
def outerT (b:List UInt8):PacketM × Int :=
 if (takeF b).2≠0 then (noP,(takeF b).2) else if (takeF b).1.typ≠2048 then (noP,11)
 else if (ipTakeT (takeF b).1.body).2≠0 then (noP,(ipTakeT (takeF b).1.body).2)
 else ((ipTakeT (takeF b).1.body).1,if (ipTakeT (takeF b).1.body).1.proto≠17 then 11 else 0)
def Kz (b:List UInt8):Int × FrameM × Int :=
 if (udpTakeT b).2.2.2≠0 then (0,noF,(udpTakeT b).2.2.2) else if (udpTakeT b).2.1≠4789 then (0,noF,11)
 else if (vniT (udpTakeT b).2.2.1).2.2≠0 then (0,noF,(vniT (udpTakeT b).2.2.1).2.2)
 else if (takeF (vniT (udpTakeT b).2.2.1).2.1).2≠0 then (0,noF,(takeF (vniT (udpTakeT b).2.2.1).2.1).2)
 else if (takeF (vniT (udpTakeT b).2.2.1).2.1).1.typ=33024 then (0,noF,15)
 else ((vniT (udpTakeT b).2.2.1).1,(takeF (vniT (udpTakeT b).2.2.1).2.1).1,0)
def B5 (b:List UInt8):Nat × Nat × Int × FrameM × Int :=
 if (outerT b).2≠0 then (0,0,0,noF,(outerT b).2) else if (Kz (outerT b).1.body).2.2≠0 then (0,0,0,noF,(Kz (outerT b).1.body).2.2)
 else ((outerT b).1.src,(outerT b).1.dst,(Kz (outerT b).1.body).1,(Kz (outerT b).1.body).2.1,0)
structure Net.Num (n:Net):Prop where
 vtep:∀ d∈n.devices,0≤d.vtep∧d.vtep<4294967296
 addr:∀ i∈n.irbs,0≤i.addr∧i.addr<4294967296
def I6 (n:Net) (dom:Int):Int:=(nth n.devices (nth n.domains dom).dev).vtep
def meshT (n:Net) (dom peer:Int) (f:FrameM):List UInt8 × Int :=
 if Ai peer n.domains.length=false∨Ai dom n.domains.length=false∨Ac n=false then ([],2)
 else if inB (nth n.domains dom).peers peer=false then ([],17)
 else wrapT (I6 n dom).toNat (I6 n peer).toNat (nth n.domains dom).vni f
def endsT (n:Net) (src dst:Nat) (vni:Int):Int × Int :=
 let dev:=B9 (fun d:Device=>decide (d.vtep=(dst:Int))) n.devices
 let dom:=B9 (fun d:Domain=>decide (d.dev=dev) && decide (d.vni=vni)) n.domains
 if dev<0∨dom<0 then (-1,-1)
 else
  let i:=B9 (fun k:Int=>decide (I6 n k=(src:Int))) (nth n.domains dom).peers
  if i<0 then (-1,-1) else (nth (nth n.domains dom).peers i,dom)
def comeT (n:Net) (b:List UInt8):Int × Int × FrameM × Int :=
 if Ac n=false then (0,0,noF,2)
 else if (B5 b).2.2.2.2≠0 then (0,0,noF,(B5 b).2.2.2.2)
 else if (endsT n (B5 b).1 (B5 b).2.1 (B5 b).2.2.1).1<0 then (0,0,noF,17)
 else if Hh (B5 b).2.2.2.1.src=true then (0,0,noF,11)
 else ((endsT n (B5 b).1 (B5 b).2.1 (B5 b).2.2.1).1,(endsT n (B5 b).1 (B5 b).2.1 (B5 b).2.2.1).2,(B5 b).2.2.2.1,0)
def routerT (n:Net) (dom:Int) (m:Nat):Int × Bool :=
 if Ai dom n.domains.length=false∨Ac n=false then (0,false)
 else if (nth n.domains dom).irb<0∨Iv (nth n.irbs (nth n.domains dom).irb).addr≠m then (0,false)
 else ((nth n.domains dom).irb,true)
def Ajv (p:PacketM):PacketM:=⟨p.tos,p.id,p.ttl-1,p.proto,p.src,p.dst,p.body⟩
def hopT (n:Net) (irb:Int) (f:FrameM):Int × FrameM × Int :=
 if Ai irb n.irbs.length=false∨Ac n=false then (0,noF,2)
 else if f.typ≠2048 then (0,noF,11)
 else if (ipTakeT f.body).2≠0 then (0,noF,(ipTakeT f.body).2)
 else if (ipTakeT f.body).1.ttl≤1 then (0,noF,13)
 else if (lookT n irb (ipTakeT f.body).1.dst).2=false then (0,noF,31)
 else if 1480<(ipTakeT f.body).1.body.length then (0,noF,14)
 else ((nth n.irbs (lookT n irb (ipTakeT f.body).1.dst).1).domain,
  ⟨Iv (ipTakeT f.body).1.dst,Iv (nth n.irbs (lookT n irb (ipTakeT f.body).1.dst).1).addr,2048,Xl (Ajv (ipTakeT f.body).1)⟩,0)
structure OutM where
 kind:Int
 port:Int
 domain:Int
 bytes:List UInt8
 frame:FrameM
 error:Int
def Eb (o:OutM):SV:=.agg [Aa o.kind,Aa o.port,Aa o.domain,.sl 1 Al o.bytes,A9 o.frame.dst,A9 o.frame.src,Aa o.frame.typ,.sl 1 Al o.frame.body,Aa o.error]
def learnQ (t:List EntryM) (q:QueuedM) (now:Int):List EntryM :=
 if q.from_=-2 then t else learnT t q.frame.src (if q.from_=-1 then -1-q.peer else q.from_) now
def Ua (o:OutM) (r:List UInt8 × Int):OutM:=if r.2≠0 then ⟨5,o.port,o.domain,[],o.frame,r.2⟩ else ⟨o.kind,o.port,o.domain,r.1,o.frame,o.error⟩
def Aax (n:Net) (dom:Int) (f:FrameM) (p:Int):OutM:=Ua ⟨if (nth n.ports p).link<0 then 1 else 2,p,0,[],noF,0⟩ (leaveT n p dom f)
def Adm (n:Net) (dom:Int) (f:FrameM) (p:Int):OutM:=Ua ⟨3,0,p,[],noF,0⟩ (meshT n dom p f)
def bridgeT (n:Net) (fw:List Bool) (t:List EntryM) (dom:Int) (q:QueuedM) (now:Int):List EntryM × List OutM × Int :=
 if Mo n fw dom q.from_=false∨tableB t=false then ([],[],2)
 else if (routerT n dom q.frame.dst).2=true then
  (if (hopT n (routerT n dom q.frame.dst).1 q.frame).2.2≠0 then (learnQ t q now,[],(hopT n (routerT n dom q.frame.dst).1 q.frame).2.2)
   else (learnQ t q now,[⟨4,0,(hopT n (routerT n dom q.frame.dst).1 q.frame).1,[],(hopT n (routerT n dom q.frame.dst).1 q.frame).2.1,0⟩],0))
 else (learnQ t q now,(Cz n fw (learnQ t q now) dom q.from_ q.frame.dst).1.map (Aax n dom q.frame)++(Cz n fw (learnQ t q now) dom q.from_ q.frame.dst).2.1.map (Adm n dom q.frame),0)
end Go.Sy.YtcflgpijohhfbaaGreat
namespace Go.Sy.YtcflgpijohhfbaaGreat
open Go.Proofs
attribute [local irreducible] Go.Sy.G Go.Sy.DR
set_option maxRecDepth 100000
set_option maxHeartbeats 4000000
theorem Mf (l:List UInt8) (hl:l.length<2147483648):Sy.Spec Tryz.prog 222 [.sl 1 Al l] [] (.sl 1 Al l) []:=cT F222 Tryz.ntmps222 fun F hF=>by
 conv=>whnf
 refine C3 E (.inl E) E E E .sl E E ?_
 intro b hb
 cases b
 ·refine oF ?_
  refine Af (Ag Γ.toTy 7 E E E E E (.lit (e:=Al) (l:=[]) E E) .sl y_ (by simp;omega) (by simp;omega)) E E ?_
  refine Ah 7 E ?_
  refine oO ?_
  exact dN
 ·have h0:l=[]:=List.eq_nil_of_length_eq_zero (hb rfl)
  subst h0
  refine oT ?_
  refine Ao 2 1 Al E ?_
  exact dN
theorem cut6 (b:List UInt8) (k j:Nat) (hj:j<6) (h:k+6≤b.length):I9 (((b.drop k).take 6).take (j+1))=I9 (((b.drop k).take 6).take j) * 256+(b[k+j]'q_).toNat:=by
 rw[Aml _ (by rw[List.length_take,List.length_drop];omega)]
 congr 2
 rw[List.getElem_take,List.getElem_drop]
theorem Agc (b:List UInt8) (k:Nat) (h:k+6≤b.length) (hb:b.length<100000):Sy.Spec Tryz.prog 114 [.sl 1 Al b,Aa k] [] (.tup [A9 (I9 ((b.drop k).take 6)),Ab true]) []:=cT F114 Tryz.ntmps114 fun F hF=>by
 ((conv=>whnf);refine aF ?_;refine rg ?_;conv=>whnf)
 refine iW ?_
 (refine⟨fun h=>False.elim (by simp at h;omega),fun _=>?_⟩;refine rg ?_;conv=>whnf)
 refine A3 6 (fun j=>[(0,.sl 1 Al b),(1,Aa k),(6,A9 (I9 (((b.drop k).take 6).take j))),(17,Aa j)]) (fun _=>[]) [] ⟨⟨E,E,E,E,E,E,E,E,Y⟩,Y,E,E⟩ ?_
 intro j hj
 have hlt2:=Lq _ (((b.drop k).take 6).take j) rfl
 refine oO ?_
 refine⟨fun h2=>?_,fun h2=>?_⟩
 ·have hj6:j<6:=by have:=of_decide_eq_true h2;omega
  have hs:=cut6 b k j hj6 h
  have hll:(((b.drop k).take 6).take j).length=j:=by rw[List.length_take,List.length_take,List.length_drop];omega
  rw[hll]at hlt2
  have h5:I9 (((b.drop k).take 6).take j)<1099511627776:=Nat.lt_of_lt_of_le hlt2 (by
   have:(256:Nat) ^ j≤256 ^ 5:=Nat.pow_le_pow_right j_ q_
   exact this)
  have hi0:((k:Int)+(j:Int)).toNat<b.length:=by omega
  obtain ⟨c,hc⟩:∃ c,b[((k:Int)+(j:Int)).toNat]'hi0=c:=⟨_,rfl⟩
  have hc':b[k+j]'q_=c:=by rw[← hc];congr 1
  rw[hc']at hs
  have hcat:=Ata _ c h5
  refine oO ?_
  refine⟨by decide,?_⟩
  conv=>whnf
  refine iW ?_
  refine⟨E,by omega,hi0,?_⟩
  rw[hc]
  conv=>whnf
  refine iW ?_
  exact Av [] hj6 ⟨⟨E,E,E,E,congrArg (fun z:Int=>SV.val (.int .u64 z)) (hcat.trans (congrArg Int.ofNat hs.symm)).symm,E,E,E,Y⟩,Y,E,E⟩
 ·have hj6:j=6:=by have:=of_decide_eq_false h2;omega
  subst hj6
  rw[List.take_take,Nat.min_self]
  refine oO ?_
  exact dN
theorem Ak0 (a b:UInt8):I9 [a,b]=a.toNat * 256+b.toNat:=by simp[I9]
theorem Th {b:List UInt8} {k:Nat} (h:k+2≤b.length):(b.drop k).take 2=[b[k]'q_,b[k+1]'q_]:=by
 rw[List.drop_eq_getElem_cons (by omega:k<b.length),List.drop_eq_getElem_cons (by omega:k+1<b.length)];rfl
theorem Mb (b:List UInt8) (hb:b.length<100000):Sy.Spec Tryz.prog 67 [.sl 1 Al b] [] (.tup [Ce (takeF b).1,Aa (takeF b).2]) []:=cT F67 Tryz.ntmps67 fun F hF=>by
 have hres:=takeF.eq_1 b
 generalize takeF b=res at *
 conv=>whnf
 refine⟨fun h=>?_,fun h=>?_⟩
 ·rw[if_pos (qA h)]at hres
  subst hres
  refine oO ?_
  refine Am 2 [A9 0,A9 0,Aa 0,.sl 1 Al []] E vL ?_
  exact dN
 rw[if_neg (qB h)]at hres
 have h14:14≤b.length:=qB h
 refine oO ?_
 refine⟨fun h=>?_,fun h=>?_⟩
 ·rw[if_pos (qA h)]at hres
  subst hres
  refine oO ?_
  refine Am 2 [A9 0,A9 0,Aa 0,.sl 1 Al []] E vL ?_
  exact dN
 rw[if_neg (qB h)]at hres
 have q1:=Agc b 0 q_ hb
 have q2:=Agc b 6 q_ hb
 rw[Th q_,Ak0]at hres
 have hp:=E1 (b[12]'q_) (b[13]'q_)
 have hdl:(b.drop 14).length=b.length-14:=List.length_drop
 have hn:((b.length:Int)-14)=((b.length-14:Nat):Int):=by omega
 have hcp:(b.drop 14).take (List.replicate (b.length-14) (0:UInt8)).length++(List.replicate (b.length-14) (0:UInt8)).drop (b.drop 14).length=b.drop 14:=by
  have e1:(List.replicate (b.length-14) (0:UInt8)).drop (b.length-14)=[]:=List.drop_eq_nil_of_le y_
  rw[List.length_replicate,hdl,e1,List.append_nil]
  exact List.take_of_length_le q_
 have etk:(b.take b.length).drop 14=b.drop 14:=by rw[List.take_length]
 have i12:(12:Int).toNat<b.length:=by show 12<_;omega
 have i13:(13:Int).toNat<b.length:=by show 13<_;omega
 refine oO ?_
 refine c0 q1 F114 ?_
 refine oO ?_
 refine c0 q2 F114 ?_
 refine oO ?_
 refine iW ?_
 refine Af (Bp Γ.toTy (d:=32) (n:=b.length-14) Al 0 E E E E E E (congrArg (fun z=>SV.val (.int .i64 z)) hn) (congrArg (fun z=>SV.val (.int .i64 z)) hn) q_ q_ E E E) E E ?_
 refine oO ?_
 refine Af (Cs (lo:=14) (hi:=b.length) Γ.toTy E E E E (.inr ⟨_,_,E,E⟩) (.inl ⟨E,E⟩) q_ (Nat.le_refl _)) E E ?_
 rw[etk]
 refine oO ?_
 refine Af (V4 Γ.toTy E E E E E .sl) E E ?_
 rw[hcp]
 refine Ah 32 E ?_
 refine oO ?_
 refine⟨E,by decide,i12,?_⟩
 conv=>whnf
 refine⟨by decide,?_⟩
 conv=>whnf
 refine⟨E,by decide,i13,?_⟩
 conv=>whnf
 refine kW ?_
 refine Ap E (.cons (.cell E E E E) (.cons .tmp .nil)) ?_ E
 rw[hres]
 show SV.tup [.agg [_,_,Aa ((b[12].toNat * 256+b[13].toNat:Nat):Int),_],_]=_
 rw[← hp]
 rfl
theorem Jy (m:Nat) (h:m<18446744073709551616):Sy.Spec Tryz.prog 158 [A9 m] [] (Ab (Hh m)) []:=cT F158 Tryz.ntmps158 fun F hF=>by
 have e:=Acd m h
 refine fW ?_
 refine Ap E (.cons .tmp .nil) ?_ E
 exact congrArg Ab e.symm
theorem O8 (f:FrameM):Sy.Spec Tryz.prog 115 [Ce f] [] (Ab (decide (f.typ=33024))) []:=cT F115 Tryz.ntmps115 fun F hF=>by
 conv=>whnf
 refine Ap E (.cons .tmp .nil) ?_ E
 refine congrArg Ab ?_
 rw[Bool.eq_iff_iff];simp;omega
theorem Mc (p:Port) (tg:Bool) (vid:Int) (hl:Ak p.tagged):Sy.Spec Tryz.prog 159 [Au p,Ab tg,Aa vid] [] (.tup [Aa (vlanT p tg vid).1,Ab (vlanT p tg vid).2]) []:=cT F159 Tryz.ntmps159 fun F hF=>by
 have hres:=vlanT.eq_1 p tg vid
 generalize vlanT p tg vid=res at *
 have q:=C0 p.tagged vid hl
 have hz:decide (p.native≠0)=(p.native != 0):=by rw[Bool.eq_iff_iff];simp
 rw[hz]at hres
 cases tg
 ·rw[if_pos (.inl rfl)]at hres
  subst hres
  ((conv=>whnf);refine aT ?_;refine rg ?_;conv=>whnf)
  refine kW ?_
  exact dN
 ((conv=>whnf);refine aF ?_;refine rg ?_;conv=>whnf)
 refine⟨fun h=>?_,fun h=>?_⟩
 ·rw[if_pos (.inr (by simpa using h))]at hres
  subst hres
  refine oO ?_
  refine kW ?_
  exact dN
 rw[if_neg (by simpa using h)]at hres
 refine oO ?_
 refine c0 q F14 ?_
 cases hi:inB p.tagged vid
 ·rw[if_neg (by simp[hi])]at hres
  subst hres
  refine oF ?_
  exact dN
 ·rw[if_pos hi]at hres
  subst hres
  refine oT ?_
  exact dN
theorem Asn (n:Nat) (h:n<9223372036854775808):bits .and .i64 (n:Int) 4095=((n % 4096:Nat):Int):=by
 have:=Ij n 4095 h j_
 rw[show ((4095:Nat):Int)=4095 from rfl]at this
 rw[this]
 have h2:=Nat.and_two_pow_sub_one_eq_mod n 12
 rw[show 2 ^ 12-1=4095 from rfl,show 2 ^ 12=4096 from rfl]at h2
 rw[h2]
theorem Ask {b:List UInt8} (h:4≤b.length):b.take 2=[b[0]'q_,b[1]'q_]∧(b.drop 2).take 2=[b[2]'q_,b[3]'q_]:=by
 have h1:=Th (b:=b) (k:=0) q_
 have h2:=Th (b:=b) (k:=2) q_
 exact⟨h1,h2⟩
abbrev zF:List SV:=[A9 0,A9 0,Aa 0,.sl 1 Al []]
theorem Amp (f:FrameM) (hb:f.body.length<100000):Sy.Spec Tryz.prog 157 [Ce f] [] (.tup [Ce (stripT f).1,Aa (stripT f).2.1,Aa (stripT f).2.2.1,Aa (stripT f).2.2.2]) []:=cT F157 Tryz.ntmps157 fun F hF=>by
 have hres:=stripT.eq_1 f
 generalize stripT f=res at *
 have q0:=O8 f
 obtain ⟨d,s,t,b⟩:=f
 dsimp only at hres hb q0
 conv=>whnf
 refine c0 q0 F115 ?_
 by_cases ht:t=33024
 rotate_left
 ·rw[if_pos ht]at hres
  subst hres
  rw[decide_eq_false ht]
  refine oT ?_
  refine Am 2 zF E vL ?_
  exact dN
 rw[if_neg (by simpa using ht)]at hres
 rw[decide_eq_true ht]
 refine oF ?_
 refine⟨fun h=>?_,fun h=>?_⟩
 ·rw[if_pos (by have:=of_decide_eq_true h;dsimp only at this;omega)]at hres
  subst hres
  refine oO ?_
  refine Am 2 zF E vL ?_
  exact dN
 have h4:4≤b.length:=by have:=of_decide_eq_false h;dsimp only at this;omega
 rw[if_neg q_,(Ask h4).1,(Ask h4).2,Ak0,Ak0]at hres
 have c1:=Mf (b.drop 4) (by rw[List.length_drop];omega)
 have etk:(b.take b.length).drop 4=b.drop 4:=by rw[List.take_length]
 rw[← etk]at c1
 have i0:(0:Int).toNat<b.length:=by show 0<_;omega
 have i1:(1:Int).toNat<b.length:=by show 1<_;omega
 have i2:(2:Int).toNat<b.length:=by show 2<_;omega
 have i3:(3:Int).toNat<b.length:=by show 3<_;omega
 have e0:b[(0:Int).toNat]'i0=b[0]'q_:=rfl
 have e1:b[(1:Int).toNat]'i1=b[1]'q_:=rfl
 have e2:b[(2:Int).toNat]'i2=b[2]'q_:=rfl
 have e3:b[(3:Int).toNat]'i3=b[3]'q_:=rfl
 have hp1:=E1 (b[0]'q_) (b[1]'q_)
 have hp2:=E1 (b[2]'q_) (b[3]'q_)
 have l0:=(b[0]'q_).toNat_lt
 have l1:=(b[1]'q_).toNat_lt
 obtain ⟨P,hP⟩:∃ P,(b[0]'q_).toNat * 256+(b[1]'q_).toNat=P:=⟨_,rfl⟩
 obtain ⟨Q,hQ⟩:∃ Q,(b[2]'q_).toNat * 256+(b[3]'q_).toNat=Q:=⟨_,rfl⟩
 have hPl:P<65536:=by omega
 rw[hP]at hp1 hres
 rw[hQ]at hp2 hres
 have ha:=Asn P q_
 have hs:(P:Int).fdiv (2 ^ (min (Int.toNat 12) IntKind.i64.bits))=((P / 4096:Nat):Int):=Ak7 P 12 j_
 refine oO ?_
 refine⟨E,by decide,i0,?_⟩
 rw[e0]
 conv=>whnf
 refine⟨by decide,?_⟩
 conv=>whnf
 refine⟨E,by decide,i1,?_⟩
 rw[e1]
 conv=>whnf
 refine⟨z_,?_⟩
 rw[hp1]
 conv=>whnf
 refine⟨E,by decide,i2,?_⟩
 rw[e2]
 conv=>whnf
 refine⟨by decide,?_⟩
 conv=>whnf
 refine⟨E,by decide,i3,?_⟩
 rw[e3]
 conv=>whnf
 refine⟨z_,?_⟩
 rw[hp2]
 conv=>whnf
 refine⟨by decide,?_⟩
 rw[ha,hs]
 conv=>whnf
 refine⟨fun h=>?_,fun h=>?_⟩
 ·rw[if_pos (.inl (qA h))]at hres
  subst hres
  refine oO ?_
  refine Am 2 zF E vL ?_
  exact dN
 have h5:¬ 4094<P % 4096:=qB h
 refine oO ?_
 refine⟨fun h=>?_,fun h=>?_⟩
 ·rw[if_pos (.inr (by have:(Q:Int)=33024:=(by simpa using h);omega))]at hres
  subst hres
  refine oO ?_
  refine Am 2 zF E vL ?_
  exact dN
 have h6:¬ Q=33024:=fun e=>by rw[e]at h;simp at h
 rw[if_neg q_]at hres
 subst hres
 refine oO ?_
 refine Bm (Cs (lo:=4) (hi:=b.length) Γ.toTy E E E E (.inr ⟨_,_,E,E⟩) (.inl ⟨E,E⟩) h4 (Nat.le_refl _)) z_ E ?_
 refine oD ?_
 refine cD c1 F222 ?_
 refine oD ?_
 refine kW ?_
 refine Ap E (.cons (.cell E E E E) (.cons .tmp (.cons .tmp (.cons .tmp .nil)))) ?_ E
 show SV.tup [.agg [_,_,_,.sl 1 Al (b.drop 4)],_,_,_]=SV.tup [.agg [_,_,_,.sl 1 Al ((b.take b.length).drop 4)],_,_,_]
 rw[etk]
 rfl
theorem Jk (f:FrameM) (h:FrameOK f):Sy.Spec Tryz.prog 28 [Ce f] [] (.tup [.osl 0,Aa 0]) [(0,.row 1 Al (Sp f))]:=Ag7 f.dst f.src f.typ f.body h.dst h.src h.typ h.body
theorem Ae5 (f:FrameM) (v:Nat) (h:FrameOK f) (hv:v≤4094):Sy.Spec Tryz.prog 68 [Ce f,Aa v,Aa 0] [] (.tup [Ce (tagT f v).1,Aa (tagT f v).2]) []:=by
 have hres:=tagT.eq_1 f v
 have q0:=O8 f
 obtain ⟨d,s,t,b⟩:=f
 have h1:=h.typ
 have h2:=h.body
 dsimp only at hres q0 h1 h2
 by_cases ht:t=33024
 ·rw[if_pos ht]at hres
  rw[hres]
  rw[decide_eq_true ht]at q0
  refine U0 Γ hm 100 F68 Tryz.ntmps68 E fun F hF=>by
   conv=>whnf
   refine c0 q0 F115 ?_
   (refine oT ?_;refine bT ?_;refine bT ?_;refine bT ?_;refine bT ?_)
   refine Am 6 zF E vL ?_
   exact dN
 rw[if_neg ht]at hres
 by_cases hb:1500<b.length
 ·rw[if_pos hb]at hres
  rw[hres]
  rw[decide_eq_false ht]at q0
  refine U0 Γ hm 100 F68 Tryz.ntmps68 E fun F hF=>by
   conv=>whnf
   refine c0 q0 F115 ?_
   (refine oF ?_;refine bF ?_)
   (refine⟨fun h=>False.elim (by simp at h;omega),fun _=>?_⟩;refine rg ?_;(conv=>whnf);refine aF ?_;refine rg ?_;(conv=>whnf);refine aF ?_;refine rg ?_;(conv=>whnf);refine aF ?_;refine rg ?_;(conv=>whnf);refine⟨fun h=>False.elim (by simp at h;omega),fun _=>?_⟩;refine rg ?_;(conv=>whnf);refine⟨fun _=>?_,fun h=>False.elim (by simp at h;omega)⟩;refine rg ?_;conv=>whnf)
   refine Am 6 zF E vL ?_
   exact dN
 rw[if_neg hb]at hres
 rw[hres]
 exact Atd d s t v b ht h1 hv q_
theorem Amo {b:List UInt8} (h:(takeF b).2≠0):(takeF b).1=noF:=by
 unfold takeF at h ⊢
 split
 ·rfl
 rw[if_neg (by assumption)]at h
 split
 ·rfl
 rw[if_neg (by assumption)]at h
 exact absurd E h
theorem X8 {b:List UInt8} (h:(takeF b).2=0):FrameOK (takeF b).1:=by
 unfold takeF at h ⊢
 split
 ·rw[if_pos (by assumption)]at h;cases h
 rw[if_neg (by assumption)]at h
 split
 ·rw[if_pos (by assumption)]at h;cases h
 rename_i h1 h2
 have l1:((b.take 6).length)=6:=by rw[List.length_take];omega
 have l2:(((b.drop 6).take 6).length)=6:=by rw[List.length_take,List.length_drop];omega
 have l3:(((b.drop 12).take 2).length)=2:=by rw[List.length_take,List.length_drop];omega
 have a1:=Lq _ _ l1
 have a2:=Lq _ _ l2
 have a3:=Lq _ _ l3
 refine⟨a1,a2,?_,?_⟩
 ·dsimp only;exact Nat.le_of_lt_succ a3
 ·dsimp only;rw[List.length_drop];omega
theorem Apw {f:FrameM} (hf:FrameOK f) (h:(stripT f).2.2.2=0):FrameOK (stripT f).1:=by
 unfold stripT at h ⊢
 split
 ·rw[if_pos (by assumption)]at h;cases h
 rw[if_neg (by assumption)]at h
 split
 ·rw[if_pos (by assumption)]at h;cases h
 rw[if_neg (by assumption)]at h
 split
 ·rw[if_pos (by assumption)]at h;cases h
 rename_i h1 h2 h3
 have l3:(((f.body.drop 2).take 2).length)=2:=by rw[List.length_take,List.length_drop];omega
 have a3:=Lq _ _ l3
 have hb:=hf.body
 refine⟨hf.dst,hf.src,?_,?_⟩
 ·dsimp only;exact Nat.le_of_lt_succ a3
 ·dsimp only;rw[List.length_drop];omega
theorem strip_bad {f:FrameM} (h:(stripT f).2.2.2≠0):(stripT f).1=noF∧(stripT f).2.1=0:=by
 unfold stripT at h ⊢
 split
 ·exact⟨E,E⟩
 rw[if_neg (by assumption)]at h
 split
 ·exact⟨E,E⟩
 rw[if_neg (by assumption)]at h
 split
 ·exact⟨E,E⟩
 rw[if_neg (by assumption)]at h
 exact absurd E h
theorem Ag8 (n:Net) (hn:n.Fin) (port:Int) (b:List UInt8) (hb:b.length<100000) :
  Sy.Spec Tryz.prog 105 [Aj n,Aa port,.sl 1 Al b] [] (.tup [Aa (enterT n port b).1,Ce (enterT n port b).2.1,Aa (enterT n port b).2.2]) []:=cT F105 Tryz.ntmps105 fun F hF=>by
 have hres:=enterT.eq_1 n port b
 generalize enterT n port b=res at *
 have hr:=At n hn
 refine fW ?_
 by_cases hneg:port<0
 ·rw[if_pos (.inl (by rw[Ai,decide_eq_false q_];rfl))]at hres
  subst hres
  (repeat (first | (refine⟨fun h=>False.elim (by first | (exact absurd h j_) | (simp at h;done) | (simp at h;omega)),fun _=>?_⟩;(refine fU ?_)) | (refine⟨fun _=>?_,fun h=>False.elim (by first | (exact absurd h j_) | (simp at h;done) | (simp at h;omega))⟩;(refine fU ?_))))
  refine Am 7 zF E vL ?_
  exact dN
 refine⟨fun h=>absurd (of_decide_eq_true h) hneg,fun _=>?_⟩
 refine Aw 3 8 (Aj n) E E E ?_
 by_cases hge:(n.ports.length:Int)≤port
 ·rw[if_pos (.inl (by rw[Ai,decide_eq_false (by omega:¬ port<_),Bool.and_false]))]at hres
  subst hres
  refine fU ?_
  (repeat (first | (refine⟨fun h=>False.elim (by first | (exact absurd h j_) | (simp at h;done) | (simp at h;omega)),fun _=>?_⟩;(refine fU ?_)) | (refine⟨fun _=>?_,fun h=>False.elim (by first | (exact absurd h j_) | (simp at h;done) | (simp at h;omega))⟩;(refine fU ?_))))
  refine Am 7 zF E vL ?_
  exact dN
 have hpl:Ai port n.ports.length=true:=by rw[Ai,decide_eq_true q_,decide_eq_true q_];rfl
 refine fU ?_
 (refine⟨fun h=>False.elim (by first | (exact absurd h j_) | (simp at h;done) | (simp at h;omega)),fun _=>?_⟩;(refine fU ?_))
 refine c0 hr F12 ?_
 cases hbn:Ac n
 ·rw[if_pos (.inr hbn)]at hres
  subst hres
  refine fU ?_
  refine Am 7 zF E vL ?_
  exact dN
 rw[if_neg (by simp[hbn,hpl])]at hres
 have hp0:0≤port:=by omega
 have hk:port.toNat<n.ports.length:=by omega
 have e1:nth n.ports port=n.ports[port.toNat]:=Ae hk
 have hsh:=hn.tagged _ (List.getElem_mem hk)
 obtain ⟨p,hp⟩:∃ p,n.ports[port.toNat]'hk=p:=⟨_,rfl⟩
 rw[hp]at e1 hsh
 have qt:=Mb b hb
 have hto:=@X8 b
 have htb:=@Amo b
 generalize takeF b=tf at *
 obtain ⟨f,e⟩:=tf
 dsimp only at hres qt hto htb
 have qi:=O8 f
 refine fU ?_
 refine c0 qt F67 ?_
 refine fU ?_
 refine c0 qi F115 ?_
 by_cases he:e=0
 rotate_left
 ·rw[if_pos he]at hres
  subst hres
  obtain rfl:=htb he
  refine fU ?_
  (refine⟨fun h=>False.elim (by first | (exact absurd h j_) | (simp at h;done) | (simp at h;omega)),fun _=>?_⟩;(refine fU ?_))
  (refine⟨fun h=>False.elim (by first | (exact absurd h j_) | (simp at h;done) | (simp at h;omega)),fun _=>?_⟩;(refine fU ?_))
  refine⟨E,hp0,hk,?_⟩
  rw[hp]
  refine fW ?_
  refine c0 (Mc p false 0 hsh) F159 ?_
  refine fU ?_
  (repeat (first | (refine⟨fun h=>False.elim (by first | (exact absurd h j_) | (simp at h;done) | (simp at h;omega)),fun _=>?_⟩;(refine fU ?_)) | (refine⟨fun _=>?_,fun h=>False.elim (by first | (exact absurd h j_) | (simp at h;done) | (simp at h;omega))⟩;(refine fU ?_))))
  refine Am 7 zF E vL ?_
  exact dN
 subst he
 rw[if_neg j_]at hres
 have hfo:=hto rfl
 by_cases ht:f.typ=33024
 ·rw[if_pos ht]at hres
  rw[decide_eq_true ht]
  have qs:=Amp f (by have:=hfo.body;omega)
  have hso:=@Apw f hfo
  have hsb:=@strip_bad f
  generalize stripT f=st at *
  obtain ⟨g,vid,prio,e2⟩:=st
  dsimp only at hres qs hso hsb
  refine fU ?_
  refine c0 qs F157 ?_
  by_cases he2:e2=0
  rotate_left
  ·rw[if_pos he2]at hres
   subst hres
   obtain ⟨rfl,rfl⟩:=hsb he2
   refine fU ?_
   (refine⟨fun h=>False.elim (by first | (exact absurd h j_) | (simp at h;done) | (simp at h;omega)),fun _=>?_⟩;(refine fU ?_))
   refine⟨E,hp0,hk,?_⟩
   rw[hp]
   refine fW ?_
   refine c0 (Mc p true 0 hsh) F159 ?_
   refine fU ?_
   (repeat (first | (refine⟨fun h=>False.elim (by first | (exact absurd h j_) | (simp at h;done) | (simp at h;omega)),fun _=>?_⟩;(refine fU ?_)) | (refine⟨fun _=>?_,fun h=>False.elim (by first | (exact absurd h j_) | (simp at h;done) | (simp at h;omega))⟩;(refine fU ?_))))
   refine Am 7 zF E vL ?_
   exact dN
  subst he2
  rw[if_neg j_]at hres
  have hgo:=hso rfl
  have hgs:=hgo.src
  have qg:=Jy g.src q_
  rw[J8,e1]at hres
  have qv:=Mc p true vid hsh
  have qd:=Hx n hn p.dev (vlanT p true vid).1
  refine fU ?_
  refine c0 qg F158 ?_
  cases hgb:Hh g.src
  rotate_left
  ·rw[if_pos hgb]at hres
   subst hres
   refine fU ?_
   refine⟨E,hp0,hk,?_⟩
   rw[hp]
   refine fW ?_
   refine c0 qv F159 ?_
   refine fU ?_
   (repeat (first | (refine⟨fun h=>False.elim (by first | (exact absurd h j_) | (simp at h;done) | (simp at h;omega)),fun _=>?_⟩;(refine fU ?_)) | (refine⟨fun _=>?_,fun h=>False.elim (by first | (exact absurd h j_) | (simp at h;done) | (simp at h;omega))⟩;(refine fU ?_))))
   refine Am 7 zF E vL ?_
   exact dN
  rw[if_neg (by simp[hgb])]at hres
  refine fU ?_
  refine⟨E,hp0,hk,?_⟩
  rw[hp]
  refine fW ?_
  refine c0 qv F159 ?_
  generalize vlanT p true vid=vl at *
  obtain ⟨vl,vok⟩:=vl
  dsimp only at hres qd ⊢
  cases vok
  ·rw[if_pos rfl]at hres
   subst hres
   refine fU ?_
   refine Am 7 zF E vL ?_
   exact dN
  rw[if_neg y_]at hres
  subst hres
  refine fU ?_
  refine cD qd F49 ?_
  refine fU ?_
  refine⟨z_,?_⟩
  refine fW ?_
  exact dN
 ·rw[if_neg ht]at hres
  rw[decide_eq_false ht]
  have hgo:=hfo
  have hgs:=hgo.src
  have qg:=Jy f.src q_
  rw[J8,e1]at hres
  have qv:=Mc p false 0 hsh
  have qd:=Hx n hn p.dev (vlanT p false 0).1
  refine fU ?_
  refine c0 qg F158 ?_
  cases hgb:Hh f.src
  rotate_left
  ·rw[if_pos hgb]at hres
   subst hres
   refine fU ?_
   refine⟨E,hp0,hk,?_⟩
   rw[hp]
   refine fW ?_
   refine c0 qv F159 ?_
   refine fU ?_
   (repeat (first | (refine⟨fun h=>False.elim (by first | (exact absurd h j_) | (simp at h;done) | (simp at h;omega)),fun _=>?_⟩;(refine fU ?_)) | (refine⟨fun _=>?_,fun h=>False.elim (by first | (exact absurd h j_) | (simp at h;done) | (simp at h;omega))⟩;(refine fU ?_))))
   refine Am 7 zF E vL ?_
   exact dN
  rw[if_neg (by simp[hgb])]at hres
  refine fU ?_
  refine⟨E,hp0,hk,?_⟩
  rw[hp]
  refine fW ?_
  refine c0 qv F159 ?_
  generalize vlanT p false 0=vl at *
  obtain ⟨vl,vok⟩:=vl
  dsimp only at hres qd ⊢
  cases vok
  ·rw[if_pos rfl]at hres
   subst hres
   refine fU ?_
   refine Am 7 zF E vL ?_
   exact dN
  rw[if_neg y_]at hres
  subst hres
  refine fU ?_
  refine cD qd F49 ?_
  refine fU ?_
  refine⟨z_,?_⟩
  refine fW ?_
  exact dN
theorem B8 {i:Int} {n:Nat} (h:Ai i n=true):0≤i∧i<n:=by simpa [Ai] using h
theorem Kj (i:Int) (n:Nat):Sy.Spec Tryz.prog 232 [Aa i,Aa n] [] (Ab (Ai i n)) []:=cT F232 Tryz.ntmps232 fun F hF=>by
 conv=>whnf
 (repeat' (first | (refine⟨fun h=>?_,fun h=>?_⟩<;>(repeat (first | simp only[decide_eq_true_eq]at h | simp only[decide_eq_false_iff_not]at h))<;>((refine oO ?_))) | (refine Ap rfl (.cons .tmp .nil) ?_ rfl)))
 all_goals (refine congrArg Ab ?_)
 all_goals grind [Ai]
theorem Ajm (n:Net) (f:FrameM) (h:FrameOK f) (v:Int):Sy.Spec Tryz.prog 234 [Aj n,Ce f,Aa v] [] (.tup [.sl 1 Al (Sp f),Aa 0]) []:=cT F234 Tryz.ntmps234 fun F hF=>by
 conv=>whnf
 refine Af (Ad [(0,55)] E F28 (Jk f h) E Y E ⟨.inr E,Y⟩) E E ?_
 refine Ah 55 E ?_
 refine oO ?_
 exact dN
theorem Apt {f:FrameM} (hf:FrameOK f) (v:Nat) (_hv:v≤4094) (h:(tagT f v).2=0):FrameOK (tagT f v).1:=by
 unfold tagT at h ⊢
 split
 ·rw[if_pos (by assumption)]at h;cases h
 rw[if_neg (by assumption)]at h
 split
 ·rw[if_pos (by assumption)]at h;cases h
 refine⟨hf.dst,hf.src,?_,?_⟩
 ·show (33024:Nat)≤65535;decide
 ·dsimp only;simp;omega
theorem Adv (n:Net) (f:FrameM) (h:FrameOK f) (v:Nat) (hv:v≤4094) :
  Sy.Spec Tryz.prog 233 [Aj n,Ce f,Aa v] [] (.tup [.sl 1 Al (if (tagT f v).2≠0 then [] else Sp (tagT f v).1),Aa (if (tagT f v).2≠0 then (tagT f v).2 else 0)]) []:=by
 have q:=Ae5 f v h hv
 have ho:=Apt h v hv
 generalize tagT f v=t at *
 obtain ⟨g,e⟩:=t
 dsimp only at q ho ⊢
 refine U0 Γ hm 100 F233 Tryz.ntmps233 E fun F hF=>by
  conv=>whnf
  refine c0 q F68 ?_
  refine oO ?_
  by_cases he:e=0
  ·subst he
   (refine⟨fun h=>False.elim (absurd h j_),fun _=>?_⟩;refine rg ?_;conv=>whnf)
   refine Aw 8 4 (Ce g) E E E ?_
   refine oO ?_
   refine Af (Ad [(0,55)] E F28 (Jk g (ho E)) E Y E ⟨.inr E,Y⟩) E E ?_
   refine Ah 55 E ?_
   refine oO ?_
   exact dN
  ·rw[if_pos he,if_pos he]
   (refine⟨fun _=>?_,fun h=>False.elim (by simp at h;omega)⟩;refine rg ?_;conv=>whnf)
   refine Ao 6 1 Al E ?_
   exact dN
theorem S2 {n:Net} (h:Ac n=true) {i:Nat} (hi:i<n.domains.length):1≤n.domains[i].vlan∧n.domains[i].vlan≤4094:=by
 simp only[Ac,Bool.and_eq_true]at h
 have hb:Er (Km n) n.domains=true:=h.1.1.1.1.1.1.1.2
 have:=allB_iff.1 hb i hi
 simp only[Km,Bool.and_eq_true,decide_eq_true_eq]at this
 omega
theorem Arf (n:Net) (hn:n.Fin) (port dom:Int) (f:FrameM) (h:FrameOK f) :
  Sy.Spec Tryz.prog 168 [Aj n,Aa port,Aa dom,Ce f] [] (.tup [.sl 1 Al (leaveT n port dom f).1,Aa (leaveT n port dom f).2]) []:=cT F168 Tryz.ntmps168 fun F hF=>by
 have hres:=leaveT.eq_1 n port dom f
 generalize leaveT n port dom f=res at *
 have hr:=At n hn
 have hpS:=Kj port n.ports.length
 have hdS:=Kj dom n.domains.length
 conv=>whnf
 refine c0 hpS F232 ?_
 cases hpl:Ai port n.ports.length
 ·rw[if_pos (.inl hpl)]at hres
  subst hres
  (refine oT ?_;refine bT ?_;refine bT ?_)
  refine Ao 8 1 Al E ?_
  exact dN
 refine oF ?_
 refine c0 hdS F232 ?_
 cases hdl:Ai dom n.domains.length
 ·rw[if_pos (.inr (.inl hdl))]at hres
  subst hres
  (refine oT ?_;refine bT ?_)
  refine Ao 8 1 Al E ?_
  exact dN
 refine oF ?_
 refine c0 hr F12 ?_
 cases hbn:Ac n
 ·rw[if_pos (.inr (.inr hbn))]at hres
  subst hres
  refine oT ?_
  refine Ao 8 1 Al E ?_
  exact dN
 rw[if_neg (by simp[hbn,hpl,hdl])]at hres
 have hpi:=B8 hpl
 have hdi:=B8 hdl
 have hp0:0≤port:=hpi.1
 have hd0:0≤dom:=hdi.1
 have hk:port.toNat<n.ports.length:=by omega
 have hkd:dom.toNat<n.domains.length:=by omega
 have e1:nth n.ports port=n.ports[port.toNat]:=Ae hk
 have e2:nth n.domains dom=n.domains[dom.toNat]:=Ae hkd
 have hsh:=hn.tagged _ (List.getElem_mem hk)
 have hv:=S2 hbn hkd
 obtain ⟨p,hp⟩:∃ p,n.ports[port.toNat]'hk=p:=⟨_,rfl⟩
 obtain ⟨d,hd⟩:∃ d,n.domains[dom.toNat]'hkd=d:=⟨_,rfl⟩
 rw[hp]at e1 hsh
 rw[hd]at e2 hv
 rw[e1,e2]at hres
 have qm:=T8 p d.vlan hsh
 refine oF ?_
 refine⟨E,hp0,hk,E,hd0,hkd,?_⟩
 rw[hp,hd]
 conv=>whnf
 refine kW ?_
 refine⟨fun h1=>?_,fun h1=>?_⟩
 ·rw[if_pos (.inl (by simpa using h1))]at hres
  subst hres
  refine oT ?_
  refine Ao 8 1 Al E ?_
  exact dN
 refine Aw 10 7 (Au p) E E E ?_
 refine oO ?_
 refine c0 qm F53 ?_
 cases hm1:Ci p d.vlan
 ·rw[if_pos (.inr hm1)]at hres
  subst hres
  refine oT ?_
  refine Ao 8 1 Al E ?_
  exact dN
 rw[if_neg (by simp at h1;simp[hm1,h1])]at hres
 have qt:=O8 f
 by_cases ht:f.typ=33024
 ·rw[if_pos ht]at hres
  subst hres
  rw[decide_eq_true ht]at qt
  refine oF ?_
  refine c0 qt F115 ?_
  refine oT ?_
  refine Ao 8 1 Al E ?_
  exact dN
 rw[if_neg ht]at hres
 rw[decide_eq_false ht]at qt
 refine oF ?_
 refine c0 qt F115 ?_
 refine oF ?_
 refine⟨fun h2=>?_,fun h2=>?_⟩
 ·rw[if_pos (by simpa using h2)]at hres
  subst hres
  refine oO ?_
  refine Dq ⟨⟨_,_,F234⟩,Ajm n f h d.vlan⟩ E E E E E E ?_
  refine oO ?_
  exact dN
 rw[if_neg (by simpa using h2)]at hres
 refine oO ?_
 have hv0:(d.vlan.toNat:Int)=d.vlan:=by omega
 have qg:=Adv n f h d.vlan.toNat q_
 rw[hv0]at qg
 refine Dq ⟨⟨_,_,F233⟩,qg⟩ E E E E E E ?_
 refine oO ?_
 by_cases he:(tagT f d.vlan).2=0
 ·rw[if_neg (by simpa using he)]at hres
  subst hres
  rw[if_neg (by simpa using he),if_neg (by simpa using he)]
  exact dN
 ·rw[if_pos he]at hres
  subst hres
  rw[if_pos he,if_pos he]
  exact dN
theorem inB_mem {l:List Int} {x:Int}:inB l x=true↔x∈l:=by
 simp[inB]
theorem Ajk (n:Net) (hn:n.Fin) (port:Int) (b:List UInt8) (hb:b.length<100000) :
  Sy.Spec Tryz.prog 172 [Aj n,Aa port,.sl 1 Al b] [] (.tup [Aa (linkT n port b).1,Aa (linkT n port b).2.1,Ce (linkT n port b).2.2.1,Aa (linkT n port b).2.2.2]) []:=cT F172 Tryz.ntmps172 fun F hF=>by
 have hres:=linkT.eq_1 n port b
 generalize linkT n port b=res at *
 have qo:=Ub n hn port
 have qe:=Ag8 n hn (B3 n port) b hb
 generalize B3 n port=o at *
 conv=>whnf
 refine c0 qo F205 ?_
 refine oO ?_
 refine⟨fun h1=>?_,fun h1=>?_⟩
 ·rw[if_pos (by simpa using h1)]at hres
  subst hres
  refine oO ?_
  refine Am 8 zF E vL ?_
  exact dN
 rw[if_neg (by simpa using h1)]at hres
 refine oO ?_
 refine c0 qe F105 ?_
 generalize enterT n o b=en at *
 obtain ⟨x1,g,x2⟩:=en
 subst hres
 refine oO ?_
 refine kW ?_
 exact dN
end Go.Sy.YtcflgpijohhfbaaGreat
namespace Go.Sy.YtcflgpijohhfbaaGreat
open Go.Proofs
theorem Kp (l:List Nat):(De l).length=2 * l.length:=by
 induction l with
 | nil=>rfl
 | cons a l ih=>simp only[De,List.flatMap_cons,List.length_append,List.length_cons,List.length_nil]at ih ⊢;omega
theorem Io (l:List Nat) (n:Nat):De (l++[n])=De l++[UInt8.ofNat (n / 256),UInt8.ofNat n]:=by simp[De]
theorem Ld (b:List UInt8) (k m:Nat):numAt b k m<256 ^ m:=by
 have h:=Lq _ ((b.drop k).take m) rfl
 have h2:((b.drop k).take m).length≤m:=by rw[List.length_take];omega
 exact Nat.lt_of_lt_of_le h (Nat.pow_le_pow_right j_ h2)
theorem Sq {b:List UInt8} {k:Nat} (h:k+2≤b.length):numAt b k 2=(b[k]'q_).toNat * 256+(b[k+1]'q_).toNat:=by
 rw[numAt,Th h,Ak0]
theorem Ael {b:List UInt8} {k:Nat} (h:k<b.length):bAt b k=b[k]:=Aj0 h
theorem Aps {b:List UInt8} {k:Nat} (h:k+3≤b.length):(b.drop k).take 3=[b[k]'q_,b[k+1]'q_,b[k+2]'q_]:=by
 rw[List.drop_eq_getElem_cons q_,List.drop_eq_getElem_cons (i:=k+1) q_,List.drop_eq_getElem_cons (i:=k+2) q_]
 rfl
theorem Apr {b:List UInt8} {k:Nat} (h:k+4≤b.length):(b.drop k).take 4=[b[k]'q_,b[k+1]'q_,b[k+2]'q_,b[k+3]'q_]:=by
 rw[List.drop_eq_getElem_cons q_,List.drop_eq_getElem_cons (i:=k+1) q_,List.drop_eq_getElem_cons (i:=k+2) q_,List.drop_eq_getElem_cons (i:=k+3) q_]
 rfl
theorem numAt3 {b:List UInt8} {k:Nat} (h:k+3≤b.length):numAt b k 3=((b[k]'q_).toNat * 256+(b[k+1]'q_).toNat) * 256+(b[k+2]'q_).toNat:=by
 rw[numAt,Aps h]
 simp[I9]
theorem numAt4 {b:List UInt8} {k:Nat} (h:k+4≤b.length):numAt b k 4=numAt b k 2 * 65536+numAt b (k+2) 2:=by
 have e:b[k+2+1]'q_=b[k+3]'q_:=rfl
 rw[numAt,Apr h,Sq q_,Sq q_,e]
 simp[I9]
 omega
theorem Ho (f:FrameM):(Sp f).length=14+f.body.length:=by
 simp[Sp,frame,Dl]
 omega
theorem Sb (p:PacketM) (s:Nat):(Ig p s).length=20:=by rw[Ig,Kp];rfl
theorem Oj (p:PacketM):(Xl p).length=20+p.body.length:=by rw[Xl,List.length_append,Sb]
theorem Aez (s d:Nat) (b:List UInt8):(Apl s d b).length=8+b.length:=by rw[Apl,List.length_append,Kp];rfl
theorem Ji (v:Nat):(Ms v).length=8:=rfl
theorem Da:FrameOK noF:=⟨by decide,by decide,by decide,by decide⟩
theorem Zh (ip:Nat) (h:ip<4294967296):Iv ip<281474976710656:=by rw[Iv,Int.toNat_natCast];omega
theorem Aa1 (n:Net) (port dom:Int) (f:FrameM) (hf:FrameOK f):(leaveT n port dom f).1.length≤1518:=by
 have h4:=hf.body
 unfold leaveT
 split
 ·simp
 split
 ·simp
 split
 ·simp
 split
 ·rw[Ho];omega
 split
 ·simp
 ·rw[Ho]
  rename_i h
  have h2:(tagT f (nth n.domains dom).vlan).2=0:=Classical.byContradiction h
  unfold tagT at h2 ⊢
  split
  ·rw[if_pos (by assumption)]at h2;cases h2
  rw[if_neg (by assumption)]at h2
  split
  ·rw[if_pos (by assumption)]at h2;cases h2
  ·dsimp only
   simp
   omega
theorem Zc {b:List UInt8} (h:(ipTakeT b).2=0):PacketOK (ipTakeT b).1∧(ipTakeT b).1.body.length+20≤b.length:=by
 unfold ipTakeT at h ⊢
 split
 ·rw[if_pos (by assumption)]at h;cases h
 rw[if_neg (by assumption)]at h
 split
 ·rw[if_pos (by assumption)]at h;cases h
 rw[if_neg (by assumption)]at h
 split
 ·rw[if_pos (by assumption)]at h;cases h
 rw[if_neg (by assumption)]at h
 split
 ·rw[if_pos (by assumption)]at h;cases h
 rw[if_neg (by assumption)]at h
 split
 ·rw[if_pos (by assumption)]at h;cases h
 have l1:=(bAt b 1).toNat_lt
 have l8:=(bAt b 8).toNat_lt
 have l9:=(bAt b 9).toNat_lt
 have n4:=Ld b 4 2
 have n12:=Ld b 12 4
 have n16:=Ld b 16 4
 refine⟨⟨?_,?_,?_,?_,?_,?_⟩,?_⟩
 ·show (bAt b 1).toNat≤255;omega
 ·show numAt b 4 2≤65535;omega
 ·show (bAt b 8).toNat≤255;omega
 ·show (bAt b 9).toNat≤255;omega
 ·exact n12
 ·exact n16
 ·show ((b.take (numAt b 2 2)).drop 20).length+20≤b.length
  rw[List.length_drop,List.length_take]
  omega
theorem Au7 {b:List UInt8} (h:(ipTakeT b).2≠0):(ipTakeT b).1=noP:=by
 unfold ipTakeT at h ⊢
 split
 ·rfl
 rw[if_neg (by assumption)]at h
 split
 ·rfl
 rw[if_neg (by assumption)]at h
 split
 ·rfl
 rw[if_neg (by assumption)]at h
 split
 ·rfl
 rw[if_neg (by assumption)]at h
 split
 ·rfl
 rw[if_neg (by assumption)]at h
 exact absurd E h
theorem Aje:PacketOK noP:=⟨by decide,by decide,by decide,by decide,by decide,by decide⟩
theorem Ajs (p:PacketM) (s:Nat):((Ig p 0).set 10 (UInt8.ofNat (s / 256))).set 11 (UInt8.ofNat s)=Ig p s:=by
 simp only[Ig,De,List.flatMap_cons,List.flatMap_nil,List.cons_append,List.nil_append,List.set_cons_succ,List.set_cons_zero]
theorem Apb (a b v:Nat) (f:FrameM) (ha:a<4294967296) (hb:b<4294967296):PacketOK (Qt a b v f):=⟨Nat.zero_le _,Nat.zero_le _,by show (64:Nat)≤255;decide,by show (17:Nat)≤255;decide,ha,hb⟩
theorem I8 (a b v:Nat) (f:FrameM):(Qt a b v f).body.length=30+f.body.length:=by
 simp only[Qt,Aez,List.length_append,Ji,Ho];omega
theorem Acv (a b:Nat) (v:Int) (f:FrameM):(wrapT a b v f).1.length≤1514:=by
 unfold wrapT
 split
 ·simp
 split
 ·simp
 split
 ·simp
 ·simp only[frame,List.length_append,Dl,Oj,I8,List.length_cons,List.length_nil];omega
theorem Ads (n:Net) (dom peer:Int) (f:FrameM):(meshT n dom peer f).1.length≤1514:=by
 unfold meshT
 split
 ·simp
 split
 ·simp
 ·exact Acv _ _ _ _
theorem Asy {b:List UInt8}:(udpTakeT b).2.2.1.length≤b.length:=by
 unfold udpTakeT
 repeat' split
 all_goals first | (simp;done) | (simp only[List.length_drop,List.length_take];omega)
theorem vniT_body {b:List UInt8}:(vniT b).2.1.length≤b.length:=by
 unfold vniT
 repeat' split
 all_goals first | (simp;done) | (simp only[List.length_drop];omega)
theorem Vx (b:List UInt8):PacketOK (outerT b).1∧(outerT b).1.body.length≤b.length:=by
 unfold outerT
 split
 ·exact⟨Aje,by simp[noP]⟩
 split
 ·exact⟨Aje,by simp[noP]⟩
 split
 ·exact⟨Aje,by simp[noP]⟩
 ·rename_i h1 h2 h3
  have h4:(takeF b).2=0:=Classical.byContradiction h1
  have h5:(ipTakeT (takeF b).1.body).2=0:=Classical.byContradiction h3
  obtain ⟨h6,h7⟩:=Zc h5
  refine⟨h6,?_⟩
  have h8:(takeF b).1.body.length≤b.length:=by
   unfold takeF
   repeat' split
   all_goals simp[noF]
  dsimp only
  omega
theorem Ab7 (b:List UInt8):FrameOK (Kz b).2.1∧0≤(Kz b).1:=by
 unfold Kz
 repeat' split
 all_goals first | exact⟨Da,Int.le_refl _⟩ | skip
 rename_i h1 h2 h3 h4 h5
 refine⟨X8 (Classical.byContradiction h4),?_⟩
 show 0≤(vniT (udpTakeT b).2.2.1).1
 unfold vniT
 repeat' split
 all_goals omega
theorem X6 (b:List UInt8):(B5 b).1<4294967296∧(B5 b).2.1<4294967296∧0≤(B5 b).2.2.1∧FrameOK (B5 b).2.2.2.1:=by
 unfold B5
 split
 ·exact⟨Nat.zero_lt_succ _,Nat.zero_lt_succ _,Int.le_refl _,Da⟩
 split
 ·exact⟨Nat.zero_lt_succ _,Nat.zero_lt_succ _,Int.le_refl _,Da⟩
 ·exact⟨(Vx b).1.src,(Vx b).1.dst,(Ab7 _).2,(Ab7 _).1⟩
theorem Acl (n:Net) (port:Int) (f:FrameM) (hf:FrameOK f) (tg:Bool) (vid:Int):FrameOK (J8 n port f tg vid).2.1:=by
 unfold J8
 split
 ·exact Da
 split
 ·exact Da
 ·exact hf
theorem V8 (n:Net) (port:Int) (b:List UInt8):FrameOK (enterT n port b).2.1:=by
 unfold enterT
 split
 ·exact Da
 split
 ·exact Da
 rename_i h1 h2
 have h3:=X8 (Classical.byContradiction h2)
 split
 ·split
  ·exact Da
  ·rename_i h5
   exact Acl _ _ _ (Apw h3 (Classical.byContradiction h5)) _ _
 ·exact Acl _ _ _ h3 _ _
theorem Agl (n:Net) (port:Int) (b:List UInt8):FrameOK (linkT n port b).2.2.1:=by
 unfold linkT
 split
 ·exact Da
 ·exact V8 _ _ _
theorem Ahi (n:Net) (b:List UInt8):FrameOK (comeT n b).2.2.1:=by
 unfold comeT
 split
 ·exact Da
 split
 ·exact Da
 split
 ·exact Da
 split
 ·exact Da
 ·exact(X6 b).2.2.2
theorem At9 (n:Net) (hm:n.Num) (irb:Int) (f:FrameM) (hin:∀ (d:Int),(lookT n irb d).2=true→0≤(lookT n irb d).1∧(lookT n irb d).1.toNat<n.irbs.length):FrameOK (hopT n irb f).2.1:=by
 unfold hopT
 split
 ·exact Da
 split
 ·exact Da
 split
 ·exact Da
 split
 ·exact Da
 split
 ·exact Da
 split
 ·exact Da
 rename_i h1 h2 h3 h4 h5 h6
 have hp:=(Zc (Classical.byContradiction h3)).1
 have hl:=hin ((ipTakeT f.body).1.dst:Int) (by simpa using h5)
 have ha:=hm.addr _ (List.getElem_mem hl.2)
 rw[← Ae hl.2]at ha
 refine⟨Zh _ hp.dst,?_,?_,?_⟩
 ·show Iv (nth n.irbs _).addr<_
  rw[Iv];omega
 ·show (2048:Nat)≤65535;decide
 ·show (Xl (Ajv (ipTakeT f.body).1)).length≤1504
  rw[Oj]
  show 20+(ipTakeT f.body).1.body.length≤1504
  omega
end Go.Sy.YtcflgpijohhfbaaGreat
namespace Go.Sy.YtcflgpijohhfbaaGreat
open Go.Proofs
attribute [local irreducible] Go.Sy.G Go.Sy.DR
set_option maxRecDepth 100000
set_option maxHeartbeats 4000000
theorem Xr (a b:Nat) (ha:a<4294967296) (hb:b<4294967296):bits .or .u32 (a:Int) (b:Int)=((a ||| b:Nat):Int):=by
 have hx:a ||| b<2 ^ 32:=Nat.or_lt_two_pow q_ q_
 have h1:(BitVec.ofInt 32 (a:Int)).toNat=a:=by
  rw[BitVec.ofInt_natCast,BitVec.toNat_ofNat];exact Nat.mod_eq_of_lt q_
 have h2:(BitVec.ofInt 32 (b:Int)).toNat=b:=by
  rw[BitVec.ofInt_natCast,BitVec.toNat_ofNat];exact Nat.mod_eq_of_lt q_
 show IntKind.u32.wrap ((BitVec.ofInt 32 (a:Int) ||| BitVec.ofInt 32 (b:Int)).toNat:Int)=_
 rw[BitVec.toNat_or,h1,h2,IntKind.wrap_u32]
 omega
theorem Al8 (x:UInt8) (k:UInt8):((x.toNat:Int) != (k.toNat:Int))=decide (x≠k):=by
 rw[Bool.eq_iff_iff]
 simp only[bne_iff_ne,decide_eq_true_eq,ne_eq,← UInt8.toNat_inj]
 omega
theorem Uf (b:List UInt8) (k:Nat) (h:k+2≤b.length) (hb:b.length<100000):Sy.Spec Tryz.prog 283 [.sl 1 Al b,Aa k] [] (Aa (numAt b k 2)) []:=cT F283 Tryz.ntmps283 fun F hF=>by
 have i0:((k:Nat):Int).toNat<b.length:=by simpa using (by omega:k<b.length)
 have i1:((k:Int)+1).toNat<b.length:=by omega
 have e0:b[((k:Nat):Int).toNat]'i0=b[k]'q_:=rfl
 have e1:b[((k:Int)+1).toNat]'i1=b[k+1]'q_:=rfl
 have hp:=E1 (b[k]'q_) (b[k+1]'q_)
 have hn:=Sq h
 rw[← hn]at hp
 conv=>whnf
 refine⟨E,by omega,i0,?_⟩
 rw[e0]
 conv=>whnf
 refine⟨by decide,?_⟩
 conv=>whnf
 refine iW ?_
 refine⟨E,by omega,i1,?_⟩
 rw[e1]
 conv=>whnf
 refine⟨z_,?_⟩
 rw[hp]
 conv=>whnf
 exact dN
theorem Apn (x y:Nat) (hx:x<65536) (hy:y<65536):bits .or .u32 (IntKind.u32.wrap ((IntKind.u32.wrap (x:Int)) * 2 ^ min (Int.toNat 16) IntKind.u32.bits)) (IntKind.u32.wrap (y:Int))=((x * 65536+y:Nat):Int):=by
 have e1:IntKind.u32.wrap (x:Int)=(x:Int):=by rw[IntKind.wrap_u32];omega
 have e2:IntKind.u32.wrap (y:Int)=(y:Int):=by rw[IntKind.wrap_u32];omega
 rw[e1,e2]
 have e3:IntKind.u32.wrap ((x:Int) * 2 ^ min (Int.toNat 16) IntKind.u32.bits)=((x * 65536:Nat):Int):=by
  show IntKind.u32.wrap ((x:Int) * 65536)=_
  rw[IntKind.wrap_u32]
  omega
 rw[e3,Xr _ _ q_ q_]
 congr 1
 have h:=Nat.two_pow_add_eq_or_of_lt (i:=16) (b:=y) q_ x
 rw[Nat.mul_comm x 65536]
 exact h.symm
theorem Alx (b:List UInt8) (k:Nat) (h:k+4≤b.length) (hb:b.length<100000):Sy.Spec Tryz.prog 285 [.sl 1 Al b,Aa k] [] (A4 (numAt b k 4)) []:=cT F285 Tryz.ntmps285 fun F hF=>by
 have q1:=Uf b k q_ hb
 have q2:=Uf b (k+2) q_ hb
 rw[show ((k+2:Nat):Int)=(k:Int)+2 by omega]at q2
 have hf:=Apn (numAt b k 2) (numAt b (k+2) 2) (by have:=Ld b k 2;omega) (by have:=Ld b (k+2) 2;omega)
 rw[← numAt4 h]at hf
 conv=>whnf
 refine c0 q1 F283 ?_
 refine oO ?_
 refine⟨by decide,?_⟩
 conv=>whnf
 refine iW ?_
 refine c0 q2 F283 ?_
 refine oO ?_
 rw[hf]
 exact dN
theorem Amr (l:List UInt8) (hl:l.length<100000) (h2:l.length % 2=0):Sy.Spec Tryz.prog 284 [.sl 1 Al l] [] (Ab (decide (Ia (S8 l (l.length / 2))=65535))) []:=cT F284 Tryz.ntmps284 fun F hF=>by
 have ha:=Ak5 l hl h2
 conv=>whnf
 refine c0 ha F116 ?_
 refine oO ?_
 refine Ap E (.cons .tmp .nil) (congrArg Ab ?_) E
 rw[Bool.eq_iff_iff]
 simp only[beq_iff_eq,decide_eq_true_eq]
 omega
abbrev zP:List SV:=[Aa 0,Aa 0,Aa 0,Aa 0,A4 0,A4 0,.sl 1 Al []]
theorem Alw (b:List UInt8) (hb:b.length<100000):Sy.Spec Tryz.prog 229 [.sl 1 Al b] [] (.tup [T1 (ipTakeT b).1,Aa (ipTakeT b).2]) []:=cT F229 Tryz.ntmps229 fun F hF=>by
 have hres:=ipTakeT.eq_1 b
 generalize ipTakeT b=res at *
 conv=>whnf
 refine⟨fun h=>?_,fun h=>?_⟩
 ·rw[if_pos (qA h)]at hres
  subst hres
  refine oO ?_
  refine Am 2 zP E vL ?_
  exact dN
 have h20:20≤b.length:=qB h
 rw[if_neg q_]at hres
 clear h
 have i0:(0:Int).toNat<b.length:=by show 0<_;omega
 have i1:(1:Int).toNat<b.length:=by show 1<_;omega
 have i8:(8:Int).toNat<b.length:=by show 8<_;omega
 have i9:(9:Int).toNat<b.length:=by show 9<_;omega
 have e0:b[(0:Int).toNat]'i0=bAt b 0:=(Ael q_).symm
 have q2:=Uf b 2 q_ hb
 have q4:=Uf b 4 q_ hb
 have q6:=Uf b 6 q_ hb
 have q12:=Alx b 12 q_ hb
 have q16:=Alx b 16 q_ hb
 have hl20:(b.take 20).length=20:=by rw[List.length_take];omega
 have hdiv:(b.take 20).length / 2=10:=by rw[hl20]
 have qs:=Amr (b.take 20) q_ (by rw[hl20])
 rw[hdiv]at qs
 refine oO ?_
 refine⟨E,by decide,i0,?_⟩
 rw[e0]
 conv=>whnf
 refine⟨fun h=>?_,fun h=>?_⟩
 ·rw[if_pos (.inl (by rw[show ((69:Int))=((69:UInt8).toNat:Int) from rfl,Al8]at h;exact of_decide_eq_true h))]at hres
  subst hres
  refine oT ?_
  refine Am 2 zP E vL ?_
  exact dN
 have h69:¬ bAt b 0≠69:=by rw[show ((69:Int))=((69:UInt8).toNat:Int) from rfl,Al8]at h;exact of_decide_eq_false h
 clear h
 refine oO ?_
 refine c0 q2 F283 ?_
 refine oO ?_
 refine⟨fun h=>?_,fun h=>?_⟩
 ·rw[if_pos (.inr (qA h))]at hres
  subst hres
  refine oO ?_
  refine Am 2 zP E vL ?_
  exact dN
 have hs20:20≤numAt b 2 2:=qB h
 rw[if_neg (fun h=>h.elim h69 q_)]at hres
 clear h
 refine oO ?_
 refine c0 q2 F283 ?_
 refine oO ?_
 refine⟨fun h=>?_,fun h=>?_⟩
 ·rw[if_pos (qA h)]at hres
  subst hres
  refine oO ?_
  refine Am 2 zP E vL ?_
  exact dN
 have hsl:numAt b 2 2≤b.length:=qB h
 rw[if_neg q_]at hres
 clear h
 refine oO ?_
 refine c0 q6 F283 ?_
 refine oO ?_
 refine⟨fun h=>?_,fun h=>?_⟩
 ·rw[if_pos (by have:(numAt b 6 2:Int)≠0:=(by simpa using h);omega)]at hres
  subst hres
  refine oO ?_
  refine Am 2 zP E vL ?_
  exact dN
 rw[if_neg (by have:(numAt b 6 2:Int)=0:=(by simpa using h);omega)]at hres
 clear h
 refine oO ?_
 refine Af (Cs (lo:=0) (hi:=20) Γ.toTy E E E E (.inl ⟨E,E⟩) (.inr ⟨_,_,E,E⟩) q_ h20) E E ?_
 refine oO ?_
 refine c0 qs F284 ?_
 by_cases hsum:Ia (S8 (b.take 20) 10)=65535
 rotate_left
 ·rw[if_pos hsum]at hres
  subst hres
  rw[decide_eq_false hsum]
  refine oT ?_
  refine Am 2 zP E vL ?_
  exact dN
 rw[if_neg (fun h=>h hsum)]at hres
 subst hres
 rw[decide_eq_true hsum]
 have qc:=Mf ((b.take (numAt b 2 2)).drop 20) (by rw[List.length_drop,List.length_take];omega)
 have w1:IntKind.i64.wrap ((b[(1:Int).toNat]'i1).toNat:Int)=((bAt b 1).toNat:Int):=by
  rw[Ael (show 1<b.length by omega)]
  have:=(b[1]'q_).toNat_lt
  show IntKind.i64.wrap ((b[1]'q_).toNat:Int)=_
  rw[IntKind.wrap_i64];omega
 have w8:IntKind.i64.wrap ((b[(8:Int).toNat]'i8).toNat:Int)=((bAt b 8).toNat:Int):=by
  rw[Ael (show 8<b.length by omega)]
  have:=(b[8]'q_).toNat_lt
  show IntKind.i64.wrap ((b[8]'q_).toNat:Int)=_
  rw[IntKind.wrap_i64];omega
 have w9:IntKind.i64.wrap ((b[(9:Int).toNat]'i9).toNat:Int)=((bAt b 9).toNat:Int):=by
  rw[Ael (show 9<b.length by omega)]
  have:=(b[9]'q_).toNat_lt
  show IntKind.i64.wrap ((b[9]'q_).toNat:Int)=_
  rw[IntKind.wrap_i64];omega
 refine oF ?_
 refine⟨E,by decide,i1,?_⟩
 conv=>whnf
 refine cD q4 F283 ?_
 refine oD ?_
 refine⟨E,by decide,i8,?_⟩
 conv=>whnf
 refine⟨E,by decide,i9,?_⟩
 conv=>whnf
 refine cD q12 F285 ?_
 refine oD ?_
 refine cD q16 F285 ?_
 refine oD ?_
 refine cD q2 F283 ?_
 refine oD ?_
 refine Bm (Cs (lo:=20) (hi:=numAt b 2 2) Γ.toTy E E E E (.inr ⟨_,_,E,E⟩) (.inr ⟨_,_,E,E⟩) hs20 hsl) z_ E ?_
 refine oD ?_
 refine cD qc F222 ?_
 refine oD ?_
 refine kW ?_
 refine Ap E (.cons (.cell E E E E) (.cons .tmp .nil)) ?_ E
 show SV.tup [.agg [Aa (bAt b 1).toNat,_,Aa (bAt b 8).toNat,Aa (bAt b 9).toNat,_,_,_],_]=SV.tup [.agg [Aa (IntKind.i64.wrap ((b[(1:Int).toNat]'i1).toNat:Int)),_,Aa (IntKind.i64.wrap ((b[(8:Int).toNat]'i8).toNat:Int)),Aa (IntKind.i64.wrap ((b[(9:Int).toNat]'i9).toNat:Int)),_,_,_],_]
 rw[w1,w8,w9]
 rfl
theorem Aqq (t:Nat) (h:t≤255):bits .or .i64 17664 (t:Int)=((17664+t:Nat):Int):=by
 have h1:=Dk 17664 t j_ q_
 rw[show ((17664:Nat):Int)=17664 from rfl]at h1
 rw[h1]
 congr 1
 have h2:=Nat.two_pow_add_eq_or_of_lt (i:=8) (b:=t) q_ 69
 rw[show 2 ^ 8 * 69=17664 from rfl]at h2
 rw[← h2]
theorem Ato (x y:Nat) (hx:x≤255) (hy:y≤255):bits .or .i64 (IntKind.i64.wrap ((x:Int) * 2 ^ min (Int.toNat 8) IntKind.i64.bits)) (y:Int)=((x * 256+y:Nat):Int):=by
 have h3:IntKind.i64.wrap ((x:Int) * 2 ^ min (Int.toNat 8) IntKind.i64.bits)=((x * 256:Nat):Int):=by
  show IntKind.i64.wrap ((x:Int) * 256)=_
  rw[IntKind.wrap_i64]
  omega
 rw[h3,Dk _ _ q_ q_]
 congr 1
 have h:=Nat.two_pow_add_eq_or_of_lt (i:=8) (b:=y) q_ x
 rw[Nat.mul_comm x 256]
 exact h.symm
theorem Ag0 (x:Nat) (h:x<4294967296):IntKind.i64.wrap ((x:Int).fdiv (2 ^ (min (Int.toNat 16) IntKind.u32.bits)))=((x / 65536:Nat):Int):=by
 show IntKind.i64.wrap ((x:Int).fdiv 65536)=_
 rw[Int.fdiv_eq_ediv_of_nonneg _ j_,IntKind.wrap_i64]
 omega
theorem Alq (x:Nat) (h:x<4294967296):IntKind.i64.wrap (x:Int)=(x:Int):=by rw[IntKind.wrap_i64];omega
theorem Adx (p:PacketM) (hp:PacketOK p) (hb:p.body.length<100000):Sy.Spec Tryz.prog 26 [T1 p] [] (.tup [.sl 1 Al (ipPutT p).1,Aa (ipPutT p).2]) []:=cT F26 Tryz.ntmps26 fun F hF=>by
 have hres:=ipPutT.eq_1 p
 generalize ipPutT p=res at *
 have h1:=hp.tos
 have h2:=hp.id
 have h3:=hp.ttl
 have h4:=hp.proto
 have h5:=hp.src
 have h6:=hp.dst
 conv=>whnf
 refine Dq ⟨⟨_,_,F69⟩,Ac5 p.tos 255 q_⟩ E E E E E E ?_
 refine oF ?_
 refine Dq ⟨⟨_,_,F69⟩,Ac5 p.ttl 255 q_⟩ E E E E E E ?_
 refine oF ?_
 refine Dq ⟨⟨_,_,F69⟩,Ac5 p.proto 255 q_⟩ E E E E E E ?_
 refine oF ?_
 refine Dq ⟨⟨_,_,F69⟩,Ac5 p.id 65535 q_⟩ E E E E E E ?_
 refine oF ?_
 refine⟨fun h=>?_,fun h=>?_⟩
 ·rw[if_pos (qA h)]at hres
  subst hres
  refine oO ?_
  refine Ao 2 1 Al E ?_
  exact dN
 have hl:p.body.length≤1480:=qB h
 rw[if_neg q_]at hres
 subst hres
 clear h
 have hsz:Xl p=((Ig p 0).set 10 (UInt8.ofNat (Ab5 p / 256))).set 11 (UInt8.ofNat (Ab5 p))++p.body:=by rw[Ajs,Xl]
 rw[hsz]
 have hil:=Sb p 0
 have hs:=sumOfS (Ig p 0) (by rw[hil];decide) (by rw[hil])
 have hput:=Arh [17664+p.tos,20+p.body.length,p.id,0,p.ttl * 256+p.proto,0,p.src / 65536,p.src,p.dst / 65536,p.dst] y_
 rw[show Jw [17664+p.tos,20+p.body.length,p.id,0,p.ttl * 256+p.proto,0,p.src / 65536,p.src,p.dst / 65536,p.dst]=Ig p 0 from rfl]at hput
 have hss:Ak4 (Ig p 0)=Ab5 p:=rfl
 rw[hss]at hs
 have hsl:Ab5 p≤65535:=Nat.sub_le _ _
 generalize Ab5 p=s at *
 have htb:=Ex s
 have o1:=Aqq p.tos h1
 have o2:=Ato p.ttl p.proto h3 h4
 have g1:=Ag0 p.src h5
 have g2:=Alq p.src h5
 have g3:=Ag0 p.dst h6
 have g4:=Alq p.dst h6
 generalize Ig p 0=b at *
 refine oO ?_
 refine iW ?_
 refine⟨by decide,?_⟩
 conv=>whnf
 refine⟨by decide,?_⟩
 conv=>whnf
 refine⟨by decide,?_⟩
 conv=>whnf
 refine Ahz 68 (e:=Aqy) (l:=[17664+p.tos,20+p.body.length,p.id,0,p.ttl * 256+p.proto,0,p.src / 65536,p.src,p.dst / 65536,p.dst]) E ?_ ?_
 ·show _=[SV.val (.int .i64 (bits .or .i64 17664 (p.tos:Int))),SV.val _,SV.val _,SV.val _,SV.val (.int .i64 (bits .or .i64 (IntKind.i64.wrap ((p.ttl:Int) * 2 ^ min (Int.toNat 8) IntKind.i64.bits)) (p.proto:Int))),SV.val _,
   SV.val (.int .i64 (IntKind.i64.wrap ((p.src:Int).fdiv (2 ^ (min (Int.toNat 16) IntKind.u32.bits))))),SV.val (.int .i64 (IntKind.i64.wrap (p.src:Int))),SV.val (.int .i64 (IntKind.i64.wrap ((p.dst:Int).fdiv (2 ^ (min (Int.toNat 16) IntKind.u32.bits))))),SV.val (.int .i64 (IntKind.i64.wrap (p.dst:Int)))]
  rw[o1,o2,g1,g2,g3,g4]
  rfl
 refine Ah 68 E ?_
 refine Af (Ad [(0,69)] E F70 hput E Y E ⟨.inr E,Y⟩) E E ?_
 refine oO ?_
 refine Al7 [69] hs F71 E (.cons (.row E E) .nil) E E E ?_
 refine oO ?_
 have hb1:=(List.cons.inj htb).1
 have hb2:=(List.cons.inj (List.cons.inj htb).2).1
 refine⟨by omega,?_⟩
 conv=>whnf
 refine⟨by decide,by rw[hil];decide,?_⟩
 conv=>whnf
 refine⟨E,by rw[hil];decide,UInt8.ofNat (s / 256),congrArg (fun z=>[z]) hb1,E,?_⟩
 conv=>whnf
 refine⟨by decide,by simp[hil],?_⟩
 conv=>whnf
 refine⟨E,by simp[hil],UInt8.ofNat s,congrArg (fun z=>[z]) hb2,E,?_⟩
 conv=>whnf
 refine Af (Ag Γ.toTy 84 E E E E E (.row E) .sl j_ (by simp[hil];omega) (by simp[hil];omega)) E E ?_
 refine Ah 84 E ?_
 refine oO ?_
 exact dN
def hop1 (p:PacketM):PacketM × Int:=if p.ttl≤1 then (noP,13) else (Ajv p,0)
theorem ipHopS (p:PacketM) (hb:p.body.length<100000) (ht:p.ttl≤255):Sy.Spec Tryz.prog 230 [T1 p] [] (.tup [T1 (hop1 p).1,Aa (hop1 p).2]) []:=cT F230 Tryz.ntmps230 fun F hF=>by
 have hres:=hop1.eq_1 p
 generalize hop1 p=res at *
 have qc:=Mf p.body q_
 conv=>whnf
 refine⟨fun h=>?_,fun h=>?_⟩
 ·rw[if_pos (qA h)]at hres
  subst hres
  refine oO ?_
  refine Am 2 zP E vL ?_
  exact dN
 have h2:¬ p.ttl≤1:=qB h
 rw[if_neg h2]at hres
 subst hres
 have e:((p.ttl-1:Nat):Int)=(p.ttl:Int)-1:=by omega
 refine oO ?_
 refine iW ?_
 refine c0 qc F222 ?_
 refine oO ?_
 refine Ap E (.cons (.cell E E E E) (.cons .tmp .nil)) ?_ E
 show SV.tup [.agg [_,_,Aa ((p.ttl-1:Nat):Int),_,_,_,_],_]=SV.tup [.agg [_,_,Aa ((p.ttl:Int)-1),_,_,_,_],_]
 rw[e]
 rfl
def udpU (b:List UInt8):Nat→List SV
 | 0=>[Aa 0,Aa 0,Aa 0,Aa 0]
 | 1=>[Aa (numAt b 0 2),Aa 0,Aa 0,Aa 0]
 | 2=>[Aa (numAt b 0 2),Aa (numAt b 2 2),Aa 0,Aa 0]
 | 3=>[Aa (numAt b 0 2),Aa (numAt b 2 2),Aa (numAt b 4 2),Aa 0]
 | _=>[Aa (numAt b 0 2),Aa (numAt b 2 2),Aa (numAt b 4 2),Aa (numAt b 6 2)]
theorem Apk (b:List UInt8) (hb:b.length<100000):Sy.Spec Tryz.prog 317 [.sl 1 Al b] [] (.tup [Aa (udpTakeT b).1,Aa (udpTakeT b).2.1,.sl 1 Al (udpTakeT b).2.2.1,Aa (udpTakeT b).2.2.2]) []:=cT F317 Tryz.ntmps317 fun F hF=>by
 have hres:=udpTakeT.eq_1 b
 generalize udpTakeT b=res at *
 conv=>whnf
 refine⟨fun h=>?_,fun h=>?_⟩
 ·rw[if_pos (qA h)]at hres
  subst hres
  refine oO ?_
  refine Ao 4 1 Al E ?_
  exact dN
 have h8:8≤b.length:=qB h
 rw[if_neg q_]at hres
 clear h
 have hp0:=E1 (b[0]'q_) (b[1]'q_)
 rw[← Sq (show 0+2≤b.length by omega)]at hp0
 have hp1:=E1 (b[2]'q_) (b[3]'q_)
 rw[← Sq (show 2+2≤b.length by omega)]at hp1
 have hp2:=E1 (b[4]'q_) (b[5]'q_)
 rw[← Sq (show 4+2≤b.length by omega)]at hp2
 have hp3:=E1 (b[6]'q_) (b[7]'q_)
 rw[← Sq (show 6+2≤b.length by omega)]at hp3
 refine oO ?_
 refine A3 4 (fun j=>[(0,.sl 1 Al b),(6,.ptr 6 0),(11,Aa j)]) (fun j=>[(6,.box (udpU b j))]) [] ⟨⟨E,E,E,E,E,E,Y⟩,⟨.inl E,E,Y⟩,E,E⟩ ?_
 intro j hj
 have hcase:j=0∨j=1∨j=2∨j=3∨j=4:=by omega
 rcases hcase with rfl | rfl | rfl | rfl | rfl
 ·refine oT ?_
  refine iW ?_
  refine⟨E,by omega,by omega,?_⟩
  conv=>whnf
  refine⟨by decide,?_⟩
  conv=>whnf
  refine iW ?_
  refine iW ?_
  refine⟨E,by omega,by omega,?_⟩
  conv=>whnf
  refine⟨by decide,by decide,?_⟩
  conv=>whnf
  refine kW ?_
  refine iW ?_
  exact Av [] j_ ⟨⟨E,E,E,E,E,E,Y⟩,⟨.inl (congrArg (fun z:Int=>Ob.box [Aa z,Aa 0,Aa 0,Aa 0]) hp0.symm),E,Y⟩,E,E⟩
 ·refine oT ?_
  refine iW ?_
  refine⟨E,by omega,by omega,?_⟩
  conv=>whnf
  refine⟨by decide,?_⟩
  conv=>whnf
  refine iW ?_
  refine iW ?_
  refine⟨E,by omega,by omega,?_⟩
  conv=>whnf
  refine⟨by decide,by decide,?_⟩
  conv=>whnf
  refine kW ?_
  refine iW ?_
  exact Av [] j_ ⟨⟨E,E,E,E,E,E,Y⟩,⟨.inl (congrArg (fun z:Int=>Ob.box [Aa (numAt b 0 2),Aa z,Aa 0,Aa 0]) hp1.symm),E,Y⟩,E,E⟩
 ·refine oT ?_
  refine iW ?_
  refine⟨E,by omega,by omega,?_⟩
  conv=>whnf
  refine⟨by decide,?_⟩
  conv=>whnf
  refine iW ?_
  refine iW ?_
  refine⟨E,by omega,by omega,?_⟩
  conv=>whnf
  refine⟨by decide,by decide,?_⟩
  conv=>whnf
  refine kW ?_
  refine iW ?_
  exact Av [] j_ ⟨⟨E,E,E,E,E,E,Y⟩,⟨.inl (congrArg (fun z:Int=>Ob.box [Aa (numAt b 0 2),Aa (numAt b 2 2),Aa z,Aa 0]) hp2.symm),E,Y⟩,E,E⟩
 ·refine oT ?_
  refine iW ?_
  refine⟨E,by omega,by omega,?_⟩
  conv=>whnf
  refine⟨by decide,?_⟩
  conv=>whnf
  refine iW ?_
  refine iW ?_
  refine⟨E,by omega,by omega,?_⟩
  conv=>whnf
  refine⟨by decide,by decide,?_⟩
  conv=>whnf
  refine kW ?_
  refine iW ?_
  exact Av [] j_ ⟨⟨E,E,E,E,E,E,Y⟩,⟨.inl (congrArg (fun z:Int=>Ob.box [Aa (numAt b 0 2),Aa (numAt b 2 2),Aa (numAt b 4 2),Aa z]) hp3.symm),E,Y⟩,E,E⟩
 clear hp0 hp1 hp2 hp3
 refine oF ?_
 refine⟨by decide,by decide,?_⟩
 conv=>whnf
 refine⟨fun h=>?_,fun h=>?_⟩
 ·rw[if_pos (qA h)]at hres
  subst hres
  refine oO ?_
  refine Ao 4 1 Al E ?_
  exact dN
 have hs8:8≤numAt b 4 2:=qB h
 rw[if_neg q_]at hres
 clear h
 refine oO ?_
 refine⟨by decide,by decide,?_⟩
 conv=>whnf
 refine⟨fun h=>?_,fun h=>?_⟩
 ·rw[if_pos (qA h)]at hres
  subst hres
  refine oO ?_
  refine Ao 4 1 Al E ?_
  exact dN
 have hsl:numAt b 4 2≤b.length:=qB h
 rw[if_neg q_]at hres
 clear h
 refine oO ?_
 refine⟨by decide,by decide,?_⟩
 conv=>whnf
 refine⟨fun h=>?_,fun h=>?_⟩
 ·rw[if_pos (by have:(numAt b 6 2:Int)≠0:=(by simpa using h);omega)]at hres
  subst hres
  refine oO ?_
  refine Ao 4 1 Al E ?_
  exact dN
 rw[if_neg (by have:(numAt b 6 2:Int)=0:=(by simpa using h);omega)]at hres
 subst hres
 clear h
 have qc:=Mf ((b.take (numAt b 4 2)).drop 8) (by rw[List.length_drop,List.length_take];omega)
 refine oO ?_
 refine⟨by decide,by decide,?_⟩
 conv=>whnf
 refine⟨by decide,by decide,?_⟩
 conv=>whnf
 refine⟨by decide,by decide,?_⟩
 conv=>whnf
 refine Bm (Cs (lo:=8) (hi:=numAt b 4 2) Γ.toTy E E E E (.inr ⟨_,_,E,E⟩) (.inr ⟨_,_,E,E⟩) hs8 hsl) z_ E ?_
 refine oD ?_
 refine cD qc F222 ?_
 refine oD ?_
 refine kW ?_
 exact dN
theorem As9 (src dst:Nat) (body:List UInt8) (h1:src≤65535) (h2:dst≤65535) (h3:body.length≤1472):Sy.Spec Tryz.prog 289 [Aa src,Aa dst,.sl 1 Al body] [] (.tup [.sl 1 Al (Apl src dst body),Aa 0]) []:=cT F289 Tryz.ntmps289 fun F hF=>by
 ((conv=>whnf);refine aF ?_;refine rg ?_;conv=>whnf)
 (refine⟨fun h=>False.elim (by simp at h;omega),fun _=>?_⟩;refine rg ?_;(conv=>whnf);refine aF ?_;refine rg ?_;(conv=>whnf);refine⟨fun h=>False.elim (by simp at h;omega),fun _=>?_⟩;refine rg ?_;(conv=>whnf);refine⟨fun h=>False.elim (by simp at h;omega),fun _=>?_⟩;refine rg ?_;conv=>whnf)
 refine iW ?_
 refine Cc 8 1000 1 Al E E ?_
 refine Af (Wz Γ.toTy E E E E E E) E E ?_
 refine oO ?_
 have key:∀ (x:Nat) (pre:List Nat),pre.length≤4→De (pre++[x])=De pre++[UInt8.ofNat (x / 256),UInt8.ofNat x]:=fun x pre _=>Io pre x
 have hwl:∀ l:List Nat,(De l).length=2 * l.length:=Kp
 obtain ⟨ws,hws⟩:∃ ws:List Nat,ws=[src,dst,8+body.length,0]:=⟨_,rfl⟩
 refine A3 4 (fun j=>[(2,.sl 1 Al body),(8,.osl 1000),(35,.agg [Aa src,Aa dst,Aa (8+body.length:Nat),Aa 0]),(36,Aa j)]) (fun j=>[(1000,.row 1 Al (De (ws.take j)))]) [] ⟨⟨E,E,E,E,E,E,E,E,Y⟩,⟨.inl (congrArg (Ob.row 1 Al) (by simp[De])),E,Y⟩,E,E⟩ ?_
 intro j hj
 have hcase:j=0∨j=1∨j=2∨j=3∨j=4:=by omega
 rcases hcase with rfl | rfl | rfl | rfl | rfl
 ·have hs:De (ws.take 1)=De (ws.take 0)++[UInt8.ofNat (src / 256),UInt8.ofNat src]:=by subst hws;exact Io [] src
  have hl:=hwl (ws.take 0)
  have hl2:(ws.take 0).length≤4:=by rw[List.length_take];omega
  have htb:=Ex src
  refine oT ?_
  refine Af (Ca (k:=.int .i64) Γ.toTy E E E Tryz.underlying3 E E j_ j_ E) E E ?_
  refine oO ?_
  refine⟨by decide,?_⟩
  conv=>whnf
  refine Af (Ag Γ.toTy 46 E E E E E (.row E) (.lit (e:=Al) (l:=[UInt8.ofNat (src / 256),UInt8.ofNat src]) E htb) y_ (by rw[hl];simp only[List.length_cons,List.length_nil];omega) (by rw[hl];simp only[List.length_cons,List.length_nil];omega)) E E ?_
  refine oO ?_
  refine iW ?_
  exact Av [(1000,46)] j_ ⟨⟨E,E,E,E,E,E,E,E,Y⟩,⟨.inl (congrArg (Ob.row 1 Al) hs),E,Y⟩,E,E⟩
 ·have hs:De (ws.take 2)=De (ws.take 1)++[UInt8.ofNat (dst / 256),UInt8.ofNat dst]:=by subst hws;exact Io [src] dst
  have hl:=hwl (ws.take 1)
  have hl2:(ws.take 1).length≤4:=by rw[List.length_take];omega
  have htb:=Ex dst
  refine oT ?_
  refine Af (Ca (k:=.int .i64) Γ.toTy E E E Tryz.underlying3 E E j_ j_ E) E E ?_
  refine oO ?_
  refine⟨by decide,?_⟩
  conv=>whnf
  refine Af (Ag Γ.toTy 46 E E E E E (.row E) (.lit (e:=Al) (l:=[UInt8.ofNat (dst / 256),UInt8.ofNat dst]) E htb) y_ (by rw[hl];simp only[List.length_cons,List.length_nil];omega) (by rw[hl];simp only[List.length_cons,List.length_nil];omega)) E E ?_
  refine oO ?_
  refine iW ?_
  exact Av [(1000,46)] j_ ⟨⟨E,E,E,E,E,E,E,E,Y⟩,⟨.inl (congrArg (Ob.row 1 Al) hs),E,Y⟩,E,E⟩
 ·have hs:De (ws.take 3)=De (ws.take 2)++[UInt8.ofNat ((8+body.length) / 256),UInt8.ofNat (8+body.length)]:=by subst hws;exact Io [src,dst] (8+body.length)
  have hl:=hwl (ws.take 2)
  have hl2:(ws.take 2).length≤4:=by rw[List.length_take];omega
  have htb:=Ex (8+body.length)
  refine oT ?_
  refine Af (Ca (k:=.int .i64) Γ.toTy E E E Tryz.underlying3 E E j_ j_ E) E E ?_
  refine oO ?_
  refine⟨by decide,?_⟩
  conv=>whnf
  refine Af (Ag Γ.toTy 46 E E E E E (.row E) (.lit (e:=Al) (l:=[UInt8.ofNat ((8+body.length) / 256),UInt8.ofNat (8+body.length)]) E htb) y_ (by rw[hl];simp only[List.length_cons,List.length_nil];omega) (by rw[hl];simp only[List.length_cons,List.length_nil];omega)) E E ?_
  refine oO ?_
  refine iW ?_
  exact Av [(1000,46)] j_ ⟨⟨E,E,E,E,E,E,E,E,Y⟩,⟨.inl (congrArg (Ob.row 1 Al) hs),E,Y⟩,E,E⟩
 ·have hs:De (ws.take 4)=De (ws.take 3)++[UInt8.ofNat (0 / 256),UInt8.ofNat 0]:=by subst hws;exact Io [src,dst,8+body.length] 0
  have hl:=hwl (ws.take 3)
  have hl2:(ws.take 3).length≤4:=by rw[List.length_take];omega
  have htb:=Ex 0
  refine oT ?_
  refine Af (Ca (k:=.int .i64) Γ.toTy E E E Tryz.underlying3 E E j_ j_ E) E E ?_
  refine oO ?_
  refine⟨by decide,?_⟩
  conv=>whnf
  refine Af (Ag Γ.toTy 46 E E E E E (.row E) (.lit (e:=Al) (l:=[UInt8.ofNat (0 / 256),UInt8.ofNat 0]) E htb) y_ (by rw[hl];simp only[List.length_cons,List.length_nil];omega) (by rw[hl];simp only[List.length_cons,List.length_nil];omega)) E E ?_
  refine oO ?_
  refine iW ?_
  exact Av [(1000,46)] j_ ⟨⟨E,E,E,E,E,E,E,E,Y⟩,⟨.inl (congrArg (Ob.row 1 Al) hs),E,Y⟩,E,E⟩
 have hl:=hwl (ws.take 4)
 have e:ws.take 4=[src,dst,8+body.length,0]:=by rw[hws];rfl
 rw[e]at hl ⊢
 have hl3:(De [src,dst,8+body.length,0]).length=8:=hl
 refine oF ?_
 refine Af (Ag Γ.toTy 50 E E E E E (.row E) .sl y_ (by rw[hl3];simp;omega) (by rw[hl3];omega)) E E ?_
 refine Ah 50 E ?_
 refine oO ?_
 exact dN
theorem Apm (a b:Nat) (ha:a<18446744073709551616) (hb:b<18446744073709551616):Sy.Spec Tryz.prog 290 [A9 a,A9 b] [] (Aa (udpPort a b:Nat)) []:=cT F290 Tryz.ntmps290 fun F hF=>by
 have hx:=bits_xor_u64_nat a b ha hb
 have hmd:((a ^^^ b:Nat):Int).tmod 16384=(((a ^^^ b) % 16384:Nat):Int):=by rw[Int.tmod_eq_emod_of_nonneg q_];omega
 have hl:=Nat.mod_lt (a ^^^ b) (show 0<16384 by decide)
 have hw:IntKind.i64.wrap (((a ^^^ b) % 16384:Nat):Int)=(((a ^^^ b) % 16384:Nat):Int):=by rw[IntKind.wrap_i64];omega
 conv=>whnf
 refine⟨by decide,?_⟩
 rw[hx,hmd]
 conv=>whnf
 rw[hw]
 refine iW ?_
 refine Ap E (.cons .tmp .nil) ?_ E
 refine congrArg (fun z:Int=>SV.val (.int .i64 z)) ?_
 rw[udpPort]
 omega
theorem Aly (v:Int) (h:Vh v=true):Sy.Spec Tryz.prog 288 [Aa v] [] (.tup [.sl 1 Al [],Aa 17]) []:=cT F288 Tryz.ntmps288 fun F hF=>by
 simp only[Vh,Bool.or_eq_true,decide_eq_true_eq]at h
 conv=>whnf
 refine⟨fun h1=>?_,fun h1=>?_⟩
 ·refine oT ?_
  refine Ao 2 1 Al E ?_
  exact dN
 refine oO ?_
 refine⟨fun h2=>?_,fun h2=>absurd (of_decide_eq_false h2) (by have:=of_decide_eq_false h1;omega)⟩
 refine oO ?_
 refine Ao 2 1 Al E ?_
 exact dN
theorem Apg {v:Int} (h:Vh v=false):1≤v∧v≤16777215:=by
 simp only[Vh,Bool.or_eq_false_iff,decide_eq_false_iff_not]at h
 omega
theorem Aof (k:Nat):(Ms k).map Al=[SV.val (.int .u8 8),SV.val (.int .u8 0),SV.val (.int .u8 0),SV.val (.int .u8 0),SV.val (.int .u8 (IntKind.u8.wrap ((k:Int).fdiv (2 ^ (min (Int.toNat 16) IntKind.i64.bits))))),
  SV.val (.int .u8 (IntKind.u8.wrap ((k:Int).fdiv (2 ^ (min (Int.toNat 8) IntKind.i64.bits))))),SV.val (.int .u8 (IntKind.u8.wrap (k:Int))),SV.val (.int .u8 0)]:=by
 have h1:IntKind.u8.wrap ((k:Int).fdiv (2 ^ (min (Int.toNat 16) IntKind.i64.bits)))=((UInt8.ofNat (k / 65536)).toNat:Int):=by
  show IntKind.u8.wrap ((k:Int).fdiv 65536)=_
  rw[Int.fdiv_eq_ediv_of_nonneg _ j_,IntKind.wrap_u8]
  simp
 have h2:IntKind.u8.wrap ((k:Int).fdiv (2 ^ (min (Int.toNat 8) IntKind.i64.bits)))=((UInt8.ofNat (k / 256)).toNat:Int):=by
  show IntKind.u8.wrap ((k:Int).fdiv 256)=_
  rw[Int.fdiv_eq_ediv_of_nonneg _ j_,IntKind.wrap_u8]
  simp
 have h3:=u8_of k
 rw[h1,h2,h3]
 rfl
theorem Arp (k:Nat) (h:1≤k∧k≤16777215):Sy.Spec Tryz.prog 288 [Aa k] [] (.tup [.osl 0,Aa 0]) [(0,.row 1 Al (Ms k))]:=cT F288 Tryz.ntmps288 fun F hF=>by
 have hl:=Aof k
 conv=>whnf
 refine⟨fun h1=>absurd (of_decide_eq_true h1) q_,fun _=>?_⟩
 refine oO ?_
 refine⟨fun h1=>absurd (of_decide_eq_true h1) q_,fun _=>?_⟩
 refine oO ?_
 refine⟨by decide,?_⟩
 conv=>whnf
 refine⟨by decide,?_⟩
 conv=>whnf
 refine I5 18 Al (Ms k) E hl ?_
 exact done E (.cons .tmp (.cons .tmp .nil)) [(0,18)] [(0,.row 1 Al (Ms k))] (fun _ h=>h) E E ⟨Y,⟨.inl E,E,Y⟩,E,E⟩
theorem Aoz (a b:List UInt8):((⟨a.toArray⟩:ByteArray) == (⟨b.toArray⟩:ByteArray))=decide (a=b):=by
 have key:=Go.MapKept.bytes_beq (⟨a.toArray⟩:ByteArray) ⟨b.toArray⟩
 by_cases h:a=b
 ·subst h
  rw[decide_eq_true rfl]
  exact key.2 E
 ·rw[decide_eq_false h]
  cases hb:((⟨a.toArray⟩:ByteArray) == (⟨b.toArray⟩:ByteArray)) with
  | false=>rfl
  | true =>
   have:=congrArg (fun z:ByteArray=>z.data.toList) (key.1 hb)
   exact absurd (by simpa using this) h
theorem App (x y z:UInt8):bits .or .i64 (bits .or .i64 (IntKind.i64.wrap ((IntKind.i64.wrap (x.toNat:Int)) * 2 ^ min (Int.toNat 16) IntKind.i64.bits)) (IntKind.i64.wrap ((IntKind.i64.wrap (y.toNat:Int)) * 2 ^ min (Int.toNat 8) IntKind.i64.bits))) (IntKind.i64.wrap (z.toNat:Int))
  = (((x.toNat * 256+y.toNat) * 256+z.toNat:Nat):Int):=by
 have h1:=x.toNat_lt
 have h2:=y.toNat_lt
 have h3:=z.toNat_lt
 have e1:IntKind.i64.wrap (x.toNat:Int)=(x.toNat:Int):=by rw[IntKind.wrap_i64];omega
 have e2:IntKind.i64.wrap (y.toNat:Int)=(y.toNat:Int):=by rw[IntKind.wrap_i64];omega
 have e3:IntKind.i64.wrap (z.toNat:Int)=(z.toNat:Int):=by rw[IntKind.wrap_i64];omega
 rw[e1,e2,e3]
 have f1:IntKind.i64.wrap ((x.toNat:Int) * 2 ^ min (Int.toNat 16) IntKind.i64.bits)=((x.toNat * 65536:Nat):Int):=by
  show IntKind.i64.wrap ((x.toNat:Int) * 65536)=_
  rw[IntKind.wrap_i64]
  omega
 have f2:IntKind.i64.wrap ((y.toNat:Int) * 2 ^ min (Int.toNat 8) IntKind.i64.bits)=((y.toNat * 256:Nat):Int):=by
  show IntKind.i64.wrap ((y.toNat:Int) * 256)=_
  rw[IntKind.wrap_i64]
  omega
 rw[f1,f2,Dk _ _ q_ q_]
 have g1:x.toNat * 65536 ||| y.toNat * 256=x.toNat * 65536+y.toNat * 256:=by
  have h:=Nat.two_pow_add_eq_or_of_lt (i:=16) (b:=y.toNat * 256) q_ x.toNat
  rw[Nat.mul_comm x.toNat 65536]
  exact h.symm
 rw[g1,Dk _ _ q_ q_]
 refine congrArg (fun n:Nat=>(n:Int)) ?_
 have h:256 * (x.toNat * 256+y.toNat)+z.toNat=256 * (x.toNat * 256+y.toNat) ||| z.toNat:=Nat.two_pow_add_eq_or_of_lt (i:=8) (b:=z.toNat) q_ (x.toNat * 256+y.toNat)
 have e:x.toNat * 65536+y.toNat * 256=256 * (x.toNat * 256+y.toNat):=by omega
 rw[e,← h]
 omega
theorem vniS (b:List UInt8) (hb:b.length<100000):Sy.Spec Tryz.prog 318 [.sl 1 Al b] [] (.tup [Aa (vniT b).1,.sl 1 Al (vniT b).2.1,Aa (vniT b).2.2]) []:=cT F318 Tryz.ntmps318 fun F hF=>by
 have hres:=vniT.eq_1 b
 generalize vniT b=res at *
 conv=>whnf
 refine⟨fun h=>?_,fun h=>?_⟩
 ·rw[if_pos (qA h)]at hres
  subst hres
  refine oO ?_
  refine Ao 3 1 Al E ?_
  exact dN
 have h8:8≤b.length:=qB h
 rw[if_neg q_]at hres
 clear h
 have i4:(4:Int).toNat<b.length:=by show 4<_;omega
 have i5:(5:Int).toNat<b.length:=by show 5<_;omega
 have i6:(6:Int).toNat<b.length:=by show 6<_;omega
 have hv:bits .or .i64 (bits .or .i64 (IntKind.i64.wrap ((IntKind.i64.wrap ((b[(4:Int).toNat]'i4).toNat:Int)) * 2 ^ min (Int.toNat 16) IntKind.i64.bits)) (IntKind.i64.wrap ((IntKind.i64.wrap ((b[(5:Int).toNat]'i5).toNat:Int)) * 2 ^ min (Int.toNat 8) IntKind.i64.bits))) (IntKind.i64.wrap ((b[(6:Int).toNat]'i6).toNat:Int))
   = (numAt b 4 3:Int):=by
  rw[App,numAt3 (show 4+3≤b.length by omega)]
  rfl
 have hvl:=Ld b 4 3
 refine oO ?_
 refine⟨E,by decide,i4,?_⟩
 conv=>whnf
 refine⟨by decide,?_⟩
 conv=>whnf
 refine⟨E,by decide,i5,?_⟩
 conv=>whnf
 refine⟨by decide,?_⟩
 conv=>whnf
 refine⟨E,by decide,i6,?_⟩
 conv=>whnf
 refine⟨z_,?_⟩
 rw[hv]
 generalize hvv:numAt b 4 3=v at *
 conv=>whnf
 by_cases h0:v=0
 ·rw[if_pos (.inl h0)]at hres
  subst hres
  have q:=Aly v (by rw[h0];decide)
  refine c0 q F288 ?_
  (refine rg ?_;(conv=>whnf);refine aT ?_;refine oD ?_)
  refine⟨z_,?_⟩
  ((conv=>whnf);refine aT ?_;refine rg ?_;conv=>whnf)
  refine Ao 3 1 Al E ?_
  exact dN
 have q:=Arp v q_
 refine Af (Ad [(0,55)] E F288 q E Y E ⟨.inr E,Y⟩) E E ?_
 refine Ah 55 E ?_
 (refine rg ?_;(conv=>whnf);refine aF ?_;refine oD ?_)
 refine Bm (Uj Γ.toTy (bs:=Ms v) E E E E E E E .sl) z_ E ?_
 refine oD ?_
 refine Bm (Cs (lo:=0) (hi:=8) Γ.toTy E E E E (.inl ⟨E,E⟩) (.inr ⟨_,_,E,E⟩) q_ h8) z_ E ?_
 refine oD ?_
 refine Bm (Uj Γ.toTy (bs:=b.take 8) E E E E E E E .sl) z_ E ?_
 refine oD ?_
 refine kW ?_
 have hbe:=Aoz (Ms v) (b.take 8)
 rw[hbe]
 by_cases he:b.take 8=Ms v
 rotate_left
 ·rw[if_pos (.inr he)]at hres
  subst hres
  rw[decide_eq_false (fun e=>he e.symm)]
  refine⟨fun _=>?_,fun h=>absurd h j_⟩
  refine oO ?_
  refine Ao 3 1 Al E ?_
  exact dN
 rw[if_neg (fun h=>h.elim h0 (fun h2=>h2 he))]at hres
 subst hres
 rw[decide_eq_true he.symm]
 have etk:(b.take b.length).drop 8=b.drop 8:=by rw[List.take_length]
 refine⟨fun h=>absurd h j_,fun _=>?_⟩
 refine oO ?_
 refine Af (Cs (lo:=8) (hi:=b.length) Γ.toTy E E E E (.inr ⟨_,_,E,E⟩) (.inl ⟨E,E⟩) h8 (Nat.le_refl _)) E E ?_
 refine oO ?_
 refine Af (Ag Γ.toTy 45 E E E E E .nil .sl y_ (by simp;omega) (by simp;omega)) E E ?_
 refine Ah 45 E ?_
 refine oO ?_
 refine Ap E (.cons .tmp (.cons .tmp (.cons .tmp .nil))) ?_ E
 show SV.tup [_,.sl 1 Al (b.drop 8),_]=SV.tup [_,.sl 1 Al ([]++(b.take b.length).drop 8),_]
 rw[etk]
 rfl
theorem Agu (a c v:Nat) (f:FrameM) (h:f.body.length≤1450):ipPutT (Qt a c v f)=(Xl (Qt a c v f),0):=by
 rw[ipPutT,if_neg (by rw[I8];omega)]
theorem Ah5 (a b:Nat):udpPort a b≤65535:=by
 have:=Nat.mod_lt (a ^^^ b) (show 0<16384 by decide)
 unfold udpPort
 omega
theorem Aqp (a c v:Nat) (f:FrameM) (ha:a<4294967296) (hc:c<4294967296) (h:f.body.length≤1450):FrameOK ⟨Iv c,Iv a,2048,Xl (Qt a c v f)⟩ :=
 ⟨Zh c hc,Zh a ha,by show (2048:Nat)≤65535;decide,by show (Xl (Qt a c v f)).length≤1504;rw[Oj,I8];omega⟩
theorem As4 (a c:Nat) (v:Int) (f:FrameM) (ha:a<4294967296) (hc:c<4294967296) (hf:FrameOK f) :
  Sy.Spec Tryz.prog 235 [A4 a,A4 c,Aa v,Ce f] [] (.tup [.sl 1 Al (wrapT a c v f).1,Aa (wrapT a c v f).2]) []:=cT F235 Tryz.ntmps235 fun F hF=>by
 have hres:=wrapT.eq_1 a c v f
 generalize wrapT a c v f=res at *
 have q0:=O8 f
 have hd:=hf.dst
 have hs:=hf.src
 have hb:=hf.body
 have hpl:=Ho f
 conv=>whnf
 refine Aw 7 4 (Ce f) E E E ?_
 by_cases ht:f.typ=33024
 ·rw[if_pos ht]at hres
  subst hres
  rw[decide_eq_true ht]at q0
  refine oO ?_
  refine c0 q0 F115 ?_
  refine oT ?_
  refine Ao 8 1 Al E ?_
  exact dN
 rw[if_neg ht]at hres
 rw[decide_eq_false ht]at q0
 refine oO ?_
 refine c0 q0 F115 ?_
 refine oF ?_
 refine Af (Ad [(0,55)] E F28 (Jk f hf) E Y E ⟨.inr E,Y⟩) E E ?_
 refine Ah 55 E ?_
 refine oF ?_
 cases hv:Vh v
 rotate_left
 ·rw[if_pos hv]at hres
  subst hres
  refine c0 (Aly v hv) F288 ?_
  refine oT ?_
  refine Ao 8 1 Al E ?_
  exact dN
 rw[if_neg (by rw[hv];decide)]at hres
 have hvg:=Apg hv
 obtain ⟨k,rfl⟩:=Int.eq_ofNat_of_zero_le (show 0≤v by omega)
 rw[Int.toNat_natCast]at hres
 refine Af (Ad [(0,56)] E F288 (Arp k q_) E Y E ⟨.inr E,Y⟩) E E ?_
 refine oF ?_
 refine⟨fun h=>?_,fun h=>?_⟩
 ·rw[if_pos (qA h)]at hres
  subst hres
  refine oO ?_
  refine Ao 8 1 Al E ?_
  exact dN
 have hl:f.body.length≤1450:=qB h
 rw[if_neg q_]at hres
 subst hres
 clear h
 have qp:=Apm f.dst f.src q_ q_
 have hpo:=Ah5 f.dst f.src
 have qu:=As9 (udpPort f.dst f.src) 4789 (Ms k++Sp f) hpo j_ (by rw[List.length_append,Ji,hpl];omega)
 have hwb:(Qt a c k f).body=Apl (udpPort f.dst f.src) 4789 (Ms k++Sp f):=rfl
 have qi:=Adx (Qt a c k f) (Apb a c k f ha hc) (by rw[I8];omega)
 rw[Agu a c k f hl]at qi
 have qe:=Jk _ (Aqp a c k f ha hc hl)
 refine oO ?_
 refine c0 qp F290 ?_
 refine oO ?_
 refine Af (Ag Γ.toTy 46 E E E E E (.row E) .sl j_ (by rw[Ji,hpl];simp;omega) (by rw[Ji,hpl];omega)) E E ?_
 refine Ah 46 E ?_
 refine oO ?_
 refine c0 qu F289 ?_
 refine oO ?_
 refine c0 qi F26 ?_
 refine oO ?_
 refine c0 (Ab9 c hc) F27 ?_
 refine oO ?_
 refine c0 (Ab9 a ha) F27 ?_
 refine oO ?_
 refine Af (Ad [(0,57)] E F28 qe E Y E ⟨.inr E,Y⟩) E E ?_
 refine Ah 57 E ?_
 refine oO ?_
 exact dN
def Dc (p:PacketM) (v e:Int):List SV:=[Aa p.tos,Aa p.id,Aa p.ttl,Aa p.proto,A4 p.src,A4 p.dst,.sl 1 Al p.body,Aa v,Aa e]
def Cq (is:Bool) (re e:Int):Int:=if is=true∧re=0 then e else re
theorem Uu (p:PacketM) (v re:Int) (is:Bool) (e:Int):Sy.Spec Tryz.prog 316 [.ptr 0 0,Ab is,Aa e] [(0,.box (Dc p v re))] (.tup []) [(0,.box (Dc p v (Cq is re e)))]:=cT F316 Tryz.ntmps316 fun F hF=>by
 cases is
 ·have h:Cq false re e=re:=by simp[Cq]
  rw[h]
  ((conv=>whnf);refine aF ?_;refine rg ?_;(conv=>whnf);refine aF ?_;refine rg ?_;conv=>whnf)
  exact A1 E .nil [] [(0,.box (Dc p v re))] (fun _ h=>h) E E ⟨Y,⟨.inl E,E,Y⟩,E,E⟩
 ·((conv=>whnf);refine aT ?_;refine rg ?_;conv=>whnf)
  refine⟨fun h=>?_,fun h=>?_⟩
  ·have h2:Cq true re e=e:=by show (if true=true∧re=0 then e else re)=e;rw[if_pos ⟨rfl,by simpa using h⟩]
   rw[h2]
   refine oO ?_
   exact A1 E .nil [] [(0,.box (Dc p v e))] (fun _ h=>h) E E ⟨Y,⟨.inl E,E,Y⟩,E,E⟩
  ·have h2:Cq true re e=re:=by
    show (if true=true∧re=0 then e else re)=re
    rw[if_neg (fun h3=>by
     have h4:¬ re=0:=by simpa using h
     exact h4 h3.2)]
   rw[h2]
   refine oO ?_
   exact A1 E .nil [] [(0,.box (Dc p v re))] (fun _ h=>h) E E ⟨Y,⟨.inl E,E,Y⟩,E,E⟩
theorem Atj (b:List UInt8) (hb:b.length<100000):Sy.Spec Tryz.prog 291 [.ptr 0 0,.sl 1 Al b] [(0,.box (Dc noP 0 0))] (.tup []) [(0,.box (Dc (outerT b).1 0 (outerT b).2))]:=cT F291 Tryz.ntmps291 fun F hF=>by
 have hres:=outerT.eq_1 b
 generalize outerT b=res at *
 have q1:=Mb b hb
 have hbad:=@Amo b
 have hok:=@X8 b
 generalize takeF b=tk at *
 obtain ⟨f,e⟩:=tk
 dsimp only at hres q1 hbad hok
 conv=>whnf
 refine c0 q1 F67 ?_
 refine oO ?_
 refine Af (Ad [(0,0)] E F316 (Uu noP 0 0 true e) E ⟨E,Y⟩ E ⟨.inl E,Y⟩) E E ?_
 rw[show Cq true 0 e=e by simp[Cq]]
 refine oO ?_
 refine Af (Ad [(0,0)] E F316 (Uu noP 0 e ((f.typ:Int) != 2048) 11) E ⟨E,Y⟩ E ⟨.inl E,Y⟩) E E ?_
 by_cases he:e=0
 rotate_left
 ·rw[if_pos he]at hres
  subst hres
  rw[show Cq ((f.typ:Int) != 2048) e 11=e by simp[Cq,he]]
  refine oO ?_
  refine⟨fun h=>absurd (show e=0 by simpa using h) he,fun _=>?_⟩
  refine oO ?_
  exact A1 E .nil [] [(0,.box (Dc noP 0 e))] (fun _ h=>h) E E ⟨Y,⟨.inl E,E,Y⟩,E,E⟩
 subst he
 rw[if_neg y_]at hres
 by_cases ht:f.typ=2048
 rotate_left
 ·rw[if_pos ht]at hres
  subst hres
  have hb2:((f.typ:Int) != 2048)=true:=by simp;omega
  rw[hb2,show Cq true 0 11=11 by simp[Cq]]
  refine oF ?_
  exact A1 E .nil [] [(0,.box (Dc noP 0 11))] (fun _ h=>h) E E ⟨Y,⟨.inl E,E,Y⟩,E,E⟩
 rw[if_neg (fun h=>h ht)]at hres
 have hb2:((f.typ:Int) != 2048)=false:=by simp;omega
 rw[hb2,show Cq false 0 11=0 by simp[Cq]]
 have hfb:=(hok rfl).body
 have q2:=Alw f.body q_
 have hib:=@Au7 f.body
 generalize ipTakeT f.body=ip at *
 obtain ⟨p,e2⟩:=ip
 dsimp only at hres q2 hib
 refine oT ?_
 refine c0 q2 F229 ?_
 refine oO ?_
 refine Af (Ad [(0,0)] E F316 (Uu p 0 0 true e2) E ⟨E,Y⟩ E ⟨.inl E,Y⟩) E E ?_
 rw[show Cq true 0 e2=e2 by simp[Cq]]
 refine oO ?_
 refine Af (Ad [(0,0)] E F316 (Uu p 0 e2 ((p.proto:Int) != 17) 11) E ⟨E,Y⟩ E ⟨.inl E,Y⟩) E E ?_
 have hfin:res=(p,Cq ((p.proto:Int) != 17) e2 11):=by
  by_cases h2:e2=0
  ·subst h2
   rw[if_neg y_]at hres
   rw[hres]
   simp only[Cq]
   by_cases h3:p.proto=17
   ·rw[if_neg (by simp[h3]),if_neg (by simp[h3])]
   ·rw[if_pos h3,if_pos (by simp;omega)]
  ·rw[if_pos h2]at hres
   rw[hres,hib h2,show Cq ((noP.proto:Int) != 17) e2 11=e2 by simp[Cq,h2]]
 rw[hfin]
 refine oO ?_
 exact A1 E .nil [] [(0,.box (Dc p 0 (Cq ((p.proto:Int) != 17) e2 11)))] (fun _ h=>h) E E ⟨Y,⟨.inl E,E,Y⟩,E,E⟩
def frameT (p:PacketM) (e:Int):FrameM × Int × Int :=
 if e≠0 then (noF,0,e) else if (udpTakeT p.body).2.2.2≠0 then (noF,0,(udpTakeT p.body).2.2.2) else if (udpTakeT p.body).2.1≠4789 then (noF,0,11)
 else if (vniT (udpTakeT p.body).2.2.1).2.2≠0 then (noF,(vniT (udpTakeT p.body).2.2.1).1,(vniT (udpTakeT p.body).2.2.1).2.2)
 else ((takeF (vniT (udpTakeT p.body).2.2.1).2.1).1,(vniT (udpTakeT p.body).2.2.1).1,
  if (takeF (vniT (udpTakeT p.body).2.2.1).2.1).2≠0 then (takeF (vniT (udpTakeT p.body).2.2.1).2.1).2 else if (takeF (vniT (udpTakeT p.body).2.2.1).2.1).1.typ=33024 then 15 else 0)
theorem frameS (p:PacketM) (e:Int) (hb:p.body.length<100000):Sy.Spec Tryz.prog 292 [.ptr 0 0] [(0,.box (Dc p 0 e))] (Ce (frameT p e).1) [(0,.box (Dc p (frameT p e).2.1 (frameT p e).2.2))]:=cT F292 Tryz.ntmps292 fun F hF=>by
 have hres:=frameT.eq_1 p e
 generalize frameT p e=res at *
 have q1:=Apk p.body hb
 have hul:=@Asy p.body
 generalize udpTakeT p.body=u at *
 obtain ⟨u1,u2,u3,u4⟩:=u
 dsimp only at hres q1 hul
 have q2:=vniS u3 q_
 have hvl:=@vniT_body u3
 generalize vniT u3=w at *
 obtain ⟨w1,w2,w3⟩:=w
 dsimp only at hres q2 hvl
 have q3:=Mb w2 q_
 have hbad:=@Amo w2
 generalize takeF w2=t at *
 obtain ⟨f,t2⟩:=t
 dsimp only at hres q3 hbad
 conv=>whnf
 refine⟨fun h=>?_,fun h=>?_⟩
 ·rw[if_pos (by simpa using h)]at hres
  subst hres
  refine oO ?_
  refine Am 2 zF E vL ?_
  exact done E (.cons (.cell E E E E) .nil) [] [(0,.box (Dc p 0 e))] (fun _ h=>h) E E ⟨Y,⟨.inl E,E,Y⟩,E,E⟩
 have he:e=0:=by simpa using h
 clear h
 subst he
 rw[if_neg y_]at hres
 refine oO ?_
 refine c0 q1 F317 ?_
 refine oO ?_
 refine Af (Ad [(0,0)] E F316 (Uu p 0 0 true u4) E ⟨E,Y⟩ E ⟨.inl E,Y⟩) E E ?_
 rw[show Cq true 0 u4=u4 by simp[Cq]]
 refine oO ?_
 refine Af (Ad [(0,0)] E F316 (Uu p 0 u4 (u2 != 4789) 11) E ⟨E,Y⟩ E ⟨.inl E,Y⟩) E E ?_
 by_cases h4:u4=0
 rotate_left
 ·rw[if_pos h4]at hres
  subst hres
  rw[show Cq (u2 != 4789) u4 11=u4 by simp[Cq,h4]]
  refine oO ?_
  refine⟨fun h=>absurd (show u4=0 by simpa using h) h4,fun _=>?_⟩
  refine oO ?_
  refine⟨fun _=>?_,fun h=>absurd (show u4=0 by simpa using h) h4⟩
  refine oO ?_
  refine Am 2 zF E vL ?_
  exact done E (.cons (.cell E E E E) .nil) [] [(0,.box (Dc p 0 u4))] (fun _ h=>h) E E ⟨Y,⟨.inl E,E,Y⟩,E,E⟩
 subst h4
 rw[if_neg y_]at hres
 by_cases h2:u2=4789
 rotate_left
 ·rw[if_pos h2]at hres
  subst hres
  rw[show Cq (u2 != 4789) 0 11=11 by simp[Cq,h2]]
  (refine oF ?_;refine bT ?_)
  refine Am 2 zF E vL ?_
  exact done E (.cons (.cell E E E E) .nil) [] [(0,.box (Dc p 0 11))] (fun _ h=>h) E E ⟨Y,⟨.inl E,E,Y⟩,E,E⟩
 rw[if_neg (fun h=>h h2)]at hres
 rw[show Cq (u2 != 4789) 0 11=0 by simp[Cq,h2]]
 refine oT ?_
 refine c0 q2 F318 ?_
 refine oO ?_
 refine Af (Ad [(0,0)] E F316 (Uu p w1 0 true w3) E ⟨E,Y⟩ E ⟨.inl E,Y⟩) E E ?_
 rw[show Cq true 0 w3=w3 by simp[Cq]]
 refine oO ?_
 refine⟨fun h=>?_,fun h=>?_⟩
 ·rw[if_pos (by simpa using h)]at hres
  subst hres
  refine oO ?_
  refine Am 2 zF E vL ?_
  exact done E (.cons (.cell E E E E) .nil) [] [(0,.box (Dc p w1 w3))] (fun _ h=>h) E E ⟨Y,⟨.inl E,E,Y⟩,E,E⟩
 have h3:w3=0:=by simpa using h
 clear h
 subst h3
 rw[if_neg y_]at hres
 refine oO ?_
 refine c0 q3 F67 ?_
 refine oO ?_
 refine Af (Ad [(0,0)] E F316 (Uu p w1 0 true t2) E ⟨E,Y⟩ E ⟨.inl E,Y⟩) E E ?_
 rw[show Cq true 0 t2=t2 by simp[Cq]]
 refine oO ?_
 refine c0 (O8 f) F115 ?_
 refine oO ?_
 refine Af (Ad [(0,0)] E F316 (Uu p w1 t2 (decide (f.typ=33024)) 15) E ⟨E,Y⟩ E ⟨.inl E,Y⟩) E E ?_
 have hfin:Cq (decide (f.typ=33024)) t2 15=if t2≠0 then t2 else if f.typ=33024 then 15 else 0:=by
  by_cases k1:t2=0
  ·subst k1
   rw[if_neg y_]
   by_cases k2:f.typ=33024<;>simp[Cq,k2]
  ·rw[if_pos k1]
   simp[Cq,k1]
 rw[← hfin]at hres
 subst hres
 refine oO ?_
 exact done E (.cons (.cell E E E E) .nil) [] [(0,.box (Dc p w1 (Cq (decide (f.typ=33024)) t2 15)))] (fun _ h=>h) E E ⟨Y,⟨.inl E,E,Y⟩,E,E⟩
theorem Acy (b:List UInt8):B5 b=if (frameT (outerT b).1 (outerT b).2).2.2≠0 then (0,0,0,noF,(frameT (outerT b).1 (outerT b).2).2.2)
  else ((outerT b).1.src,(outerT b).1.dst,(frameT (outerT b).1 (outerT b).2).2.1,(frameT (outerT b).1 (outerT b).2).1,0):=by
 unfold B5
 generalize outerT b=o
 obtain ⟨p,e⟩:=o
 dsimp only
 by_cases he:e=0
 rotate_left
 ·rw[if_pos he]
  have h1:frameT p e=(noF,0,e):=by rw[frameT,if_pos he]
  rw[h1,if_pos he]
 subst he
 rw[if_neg y_]
 unfold Kz frameT
 rw[if_neg (show ¬ (0:Int)≠0 by simp)]
 generalize udpTakeT p.body=u
 obtain ⟨u1,u2,u3,u4⟩:=u
 dsimp only
 by_cases h4:u4=0
 rotate_left
 ·rw[if_pos h4,if_pos h4,if_pos h4]
  dsimp only
  rw[if_pos h4]
 subst h4
 simp only[ne_eq,not_true_eq_false,if_false]
 by_cases h2:u2=4789
 rotate_left
 ·simp[h2]
 simp only[h2,not_true_eq_false,if_false]
 generalize vniT u3=w
 obtain ⟨w1,w2,w3⟩:=w
 dsimp only
 by_cases h3:w3=0
 rotate_left
 ·simp[h3]
 simp only[h3,not_true_eq_false,if_false]
 generalize takeF w2=t
 obtain ⟨f,t2⟩:=t
 dsimp only
 by_cases k1:t2=0
 ·by_cases k2:f.typ=33024<;>simp[k1,k2]
 ·simp[k1]
theorem Amj (b:List UInt8) (hb:b.length<100000) :
  Sy.Spec Tryz.prog 238 [.sl 1 Al b] [] (.tup [A4 (B5 b).1,A4 (B5 b).2.1,Aa (B5 b).2.2.1,Ce (B5 b).2.2.2.1,Aa (B5 b).2.2.2.2]) []:=cT F238 Tryz.ntmps238 fun F hF=>by
 have hres:=Acy b
 generalize B5 b=res at *
 have q1:=Atj b hb
 have hol:=(Vx b).2
 generalize outerT b=o at *
 obtain ⟨p,e⟩:=o
 dsimp only at hres q1 hol
 have q2:=frameS p e q_
 generalize frameT p e=fr at *
 obtain ⟨f,v,e2⟩:=fr
 dsimp only at hres q2
 conv=>whnf
 refine Am 9 (Dc noP 0 0) E vL ?_
 refine oO ?_
 refine Af (Ad [(0,9)] E F291 q1 E ⟨E,Y⟩ E ⟨.inl E,Y⟩) E E ?_
 refine oO ?_
 refine Af (Ad [(0,9)] E F292 q2 E ⟨E,Y⟩ E ⟨.inl E,Y⟩) E E ?_
 refine oO ?_
 refine⟨fun h=>?_,fun h=>?_⟩
 ·rw[if_pos (by simpa using h)]at hres
  subst hres
  refine oO ?_
  refine kW ?_
  refine Am 5 zF E vL ?_
  exact dN
 rw[if_neg (by simpa using h)]at hres
 subst hres
 refine oO ?_
 refine kW ?_
 exact dN
end Go.Sy.YtcflgpijohhfbaaGreat
