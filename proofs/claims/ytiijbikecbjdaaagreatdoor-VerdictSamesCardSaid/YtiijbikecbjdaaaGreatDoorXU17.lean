/-
  NB14 NB15 NB17 NB18 NB19 I50 NB20: parts of a proof, joined by program.
-/
import Derived.Test.YtiijbikecbjdaaaGreatDoorXU10
import Derived.Test.YtiijbikecbjdaaaGreatDoorXU15
import Derived.Test.YtiijbikecbjdaaaGreatDoorXU7
import Derived.Test.YtiijbikecbjdaaaGreatDoorXU11
import Derived.Test.YtiijbikecbjdaaaGreatDoorXU5
import Derived.Test.YtiijbikecbjdaaaGreatDoorXU16
import Derived.Test.YtiijbikecbjdaaaGreatDoorXU9
import Derived.Tactics
import Derived.Tactics2
import Derived.Defers
import Derived.Laws.Pointers
import Derived.Laws.LoneSync
import Derived.RegionTactic
import Derived.RegionCalls
import Derived.ChangeAlike
import Derived.Laws.NewBlocks
import Derived.Test.YtiijbikecbjdaaaGreatDoorXU8
set_option linter.all false
set_option linter.unusedVariables false
set_option linter.unusedSimpArgs false
set_option linter.deprecated false
namespace Go.Sy
theorem Ayf {P:Program} {o:Oper} {s:SS} {x y:Operand} {at_:Array TypeId} {k k':IntKind} {m n:Int} (h:o.op=.call ⟨.builtin .max,#[x,y],at_⟩)
  (hx:ev s x=.val (.int k m)) (hy:ev s y=.val (.int k' n)):Good P o s ⟨.val (.int k (if n>m then n else m)),[],[]⟩ :=
 Good.pure λ κ a w _ hr ho=>by
  have h1:=hr x (by simp[h,Op.operands,Call.operands])
  have h2:=hr y (by simp[h,Op.operands,Call.operands])
  rw[hx]at h1
  rw[hy]at h2
  refine⟨.int k (if n>m then n else m),?_,by simp[Rd]⟩
  simp[execOp,h,resolve,invoke,builtin,Builtin.max_,Builtin.max2,h1.val,h2.val]
end Go.Sy
namespace Go.Sy.YtiijbikecbjdaaaGreatDoor
open Go.Proofs
attribute [local irreducible] Go.Sy.G Go.Sy.DR
set_option maxRecDepth 100000
set_option maxHeartbeats 4000000
theorem Hw {f:List Int} (hf:Da f) {i:Int} (h0:0≤i) (hi:i.toNat<f.length):0≤nth f i∧nth f i≤i:=by
 rw[Aj hi]
 have:=hf i.toNat hi
 omega
theorem Lv {f:List Int} (hf:Da f) {i:Nat} (_hi:i<f.length) {x:Int} (h0:0≤x) (hx:x≤i):Da (f.set i x):=by
 intro k hk
 rw[yW]at hk
 rw[tM]
 split
 ·rename_i e;subst e;exact⟨h0,hx⟩
 ·exact hf k hk
theorem Agf:∀ (m k k':Nat) (f:List Int) (i:Int),Da f→0≤i→i.toNat<f.length→i.toNat≤m→i.toNat+1≤k→i.toNat+1≤k'→Akh k f i=Akh k' f i
 | m,0,_,_,_,_,_,_,_,h,_=>by omega
 | m,_+1,0,_,_,_,_,_,_,_,h=>by omega
 | m,k+1,k'+1,f,i,hf,h0,hi,hm,h1,h2=>by
  rw[Akh,Akh]
  by_cases e:nth f i=i
  ·rw[zE e,zE e]
  ·rw[zD e,zD e]
   obtain ⟨a1,a2⟩:=Hw hf h0 hi
   obtain ⟨b1,b2⟩:=Hw hf a1 (by omega:(nth f i).toNat<f.length)
   match m with
   | 0=>omega
   | m+1 =>
    exact Agf m k k' _ _ (Lv hf hi b1 q_) b1 (by rw[yW];omega) q_ q_ q_
theorem Aq2 {f:List Int} {i:Int} (h:nth f i=i):Kq f i=(f,i):=by rw[Kq,Akh,zE h]
theorem Akg {f:List Int} {i:Int} (hf:Da f) (h0:0≤i) (hi:i.toNat<f.length) (h:nth f i≠i):Kq f i=Kq (f.set i.toNat (nth f (nth f i))) (nth f (nth f i)):=by
 obtain ⟨a1,a2⟩:=Hw hf h0 hi
 obtain ⟨b1,b2⟩:=Hw hf a1 (by omega:(nth f i).toNat<f.length)
 rw[Kq,Akh,zD h,Kq]
 exact Agf i.toNat _ _ _ _ (Lv hf hi b1 q_) b1 (by rw[yW];omega) q_ q_ q_
theorem Mx:∀ (m:Nat) (f:List Int) (i:Int),Da f→0≤i→i.toNat<f.length→i.toNat≤m→Da (Kq f i).1∧(Kq f i).1.length=f.length∧0≤(Kq f i).2∧(Kq f i).2≤i
 | m,f,i,hf,h0,hi,hm=>by
  by_cases e:nth f i=i
  ·rw[Aq2 e];exact⟨hf,rfl,h0,wE _⟩
  ·obtain ⟨a1,a2⟩:=Hw hf h0 hi
   obtain ⟨b1,b2⟩:=Hw hf a1 (by omega:(nth f i).toNat<f.length)
   rw[Akg hf h0 hi e]
   match m with
   | 0=>omega
   | m+1 =>
    obtain ⟨c1,c2,c3,c4⟩:=Mx m _ _ (Lv hf hi b1 q_) b1 (by rw[yW];omega:(nth f (nth f i)).toNat<(f.set i.toNat (nth f (nth f i))).length) q_
    exact⟨c1,by rw[c2,yW],c3,by omega⟩
theorem Ady {f:List Int} {a b:Int} (hf:Da f) (ha:0≤a∧a.toNat<f.length) (hb:0≤b∧b.toNat<f.length):Da (U9 f a b).1∧(U9 f a b).1.length=f.length:=by
 obtain ⟨a1,a2,a3,a4⟩:=Mx a.toNat f a hf ha.1 ha.2 (yC _)
 obtain ⟨b1,b2,b3,b4⟩:=Mx b.toNat (Kq f a).1 b a1 hb.1 q_ (yC _)
 unfold U9
 dsimp only
 generalize Kq (Kq f a).1 b=y at *
 generalize Kq f a=x at *
 refine⟨Lv b1 q_ q_ q_,by rw[yW];omega⟩
theorem Ajy (k:Nat):Da (L4 k)∧(L4 k).length=k:=by
 refine⟨λ i hi=>?_,by simp[L4]⟩
 simp[L4]
def alJ (k j:Nat):List Int:=(List.range j).map (λ i:Nat=>(i:Int))++List.replicate (k-j) 0
theorem Aza (k:Nat):alJ k 0=List.replicate k 0:=by simp[alJ]
theorem A1b (k j:Nat) (h:j≤k):(alJ k j).length=k:=by simp[alJ];omega
theorem Azb (k j:Nat) (h:j<k):(alJ k j).set ((j:Nat):Int).toNat (j:Int)=alJ k (j+1):=by
 have hl:((List.range j).map (λ i:Nat=>(i:Int))).length=j:=by simp
 rw[yL,alJ,alJ,tF _ _ q_,hl,tO,show k-j=(k-(j+1))+1 by omega,uS,tB,wV,vI,xQ]
 rfl
theorem aloneS (k:Nat) (hk:k≤100000):Sq 246 [Aa k] [] (.osl 900) [(900,.row 1 Aa (L4 k))]:=cT F246 Tryz.ntmps246 λ F hF=>by
 have hfull:alJ k k=L4 k:=by simp[alJ,L4]
 refine T ?_
 refine X (Bv Γ.toTy (d:=6) (n:=k) Aa 0 E E E E E E E E q_ q_ E E E) ?_
 refine T ?_
 refine B6 (λ j:Nat=>j≤k) (λ j=>[(3,.osl 1000),(8,Aa k),(9,Aa j)]) (λ j=>[(1000,.row 1 Aa (alJ k j))]) (λ j=>k-j) 0 [(1000,6)] q_ ⟨⟨E,E,zG Aa (by rw[wW]),E,E,E,Y⟩,⟨.inl (zG (Ob.row 1 Aa) (Aza k)),E,Y⟩,E,E⟩ ?_
 intro j hj
 have hl:=A1b k j hj
 refine T ?_
 constructor<;>intro h
 ·have hlt:j<k:=qA h
  clear h
  have hne:alJ k j≠[]:=λ e=>by rw[e]at hl;simp at hl;omega
  have hnx:=Azb k j hlt
  refine T ?_
  refine⟨(j:Int),E,E,?_⟩
  refine T ?_
  exact Av (j+1) [] hlt q_ ⟨⟨E,E,E,E,E,E,Y⟩,⟨.inl (zG (Ob.row 1 Aa) hnx.symm),E,Y⟩,E,E⟩
 ·have hje:j=k:=qB h
  clear h
  subst hje
  rw[hfull]
  refine T ?_
  exact done E (.cons .tmp .nil) [(900,1000)] [(900,.row 1 Aa (L4 j))] (λ _ h=>h) E E U
theorem As2 (l:List Int) (h0:0<l.length) (hl:l.length<2147483648):Sp 248 [.sl 1 Aa l] (Aa (Alt l)):=cT F248 Tryz.ntmps248 λ F hF=>by
 have f0:decide ((l.length:Int)<1)=false:=zI q_
 have hz:(0:Int).toNat<l.length:=h0
 have hst:Alt l=Afw (l[(0:Int).toNat]'hz) (l.drop 1):=by rw[Alt,Aj hz]
 refine T ?_
 refine B6 (λ x:Nat × Int=>1≤x.1∧x.1≤l.length∧Alt l=Afw x.2 (l.drop x.1)) (λ x=>[(0,.sl 1 Aa l),(3,Aa x.2),(4,Aa x.1)]) (λ _=>[]) (λ x=>l.length-x.1) (1,l[(0:Int).toNat]'hz) [] ⟨by omega,by omega,hst⟩ U ?_
 rintro ⟨i,m⟩ ⟨h1,h2,hI⟩
 dsimp only at h1 h2 hI ⊢
 refine T ?_
 constructor<;>intro h
 ·have hlt:i<l.length:=qA h
  have hlt0:((i:Nat):Int).toNat<l.length:=hlt
  clear h
  rw[yJ hlt,Afw]at hI
  refine T ?_
  refine X (X4 E E E) ?_
  exact Av (i+1,min m l[i]) [] ⟨by dsimp only;omega,hlt,hI⟩ (by dsimp only;omega) ⟨⟨E,E,zG Aa (by dsimp only;show min m l[i]=if l[i]<m then l[i] else m;omega),E,E,E,Y⟩,Y,E,E⟩
 ·have hie:i=l.length:=qB h
  clear h
  rw[hie,wH,Afw]at hI
  rw[hI]
  refine T ?_
  exact D
theorem topS (f:List Int) (i:Int) (hf:Da f) (h0:0≤i) (hi:i.toNat<f.length) (hl:f.length≤100000):Sq 317 [.osl 900,Aa i] [(900,.row 1 Aa f)] (Aa (Kq f i).2) [(900,.row 1 Aa (Kq f i).1)]:=cT F317 Tryz.ntmps317 λ F hF=>by
 refine T ?_
 refine B6 (λ x:List Int × Int=>Da x.1∧x.1.length=f.length∧0≤x.2∧x.2.toNat<f.length∧Kq f i=Kq x.1 x.2) (λ x=>[(0,.osl 900),(1,Aa x.2)]) (λ x=>[(900,.row 1 Aa x.1)]) (λ x=>x.2.toNat) (f,i) [] ⟨hf,E,h0,hi,E⟩ U ?_
 rintro ⟨g,k⟩ ⟨h1,h2,h3,h4,hI⟩
 dsimp only at h1 h2 h3 h4 hI ⊢
 have hk0:k.toNat<g.length:=by omega
 have hn:=Aj hk0
 by_cases e:nth g k=k
 ·have hb:(g[k.toNat] == k)=true:=by rw[← hn];exact beq_iff_eq.mpr e
  have hb':(!(g[k.toNat] == k))=false:=by rw[hb];rfl
  rw[hI,Aq2 e]
  refine T ?_
  exact done E (.cons .tmp .nil) [(900,900)] [(900,.row 1 Aa g)] (λ _ h=>h) E E U
 ·obtain ⟨a1,a2⟩:=Hw h1 h3 hk0
  obtain ⟨b1,b2⟩:=Hw h1 a1 (by omega:(nth g k).toNat<g.length)
  have hk1:(g[k.toNat]'hk0).toNat<g.length:=by omega
  have hn1:nth g (nth g k)=g[(g[k.toNat]'hk0).toNat]'hk1:=by rw[hn];exact Aj hk1
  have hs:=Akg h1 h3 hk0 e
  have hb:(g[k.toNat] == k)=false:=by rw[← hn];exact beq_eq_false_iff_ne.mpr e
  have hb':(!(g[k.toNat] == k))=true:=by rw[hb];rfl
  refine T ?_
  refine⟨nth g (nth g k),zG (λ x=>cellsOf (Aa x)) hn1,E,?_⟩
  have hk2:k.toNat<(g.set k.toNat (nth g (nth g k))).length:=by rw[yW];exact hk0
  have hn2:(g.set k.toNat (nth g (nth g k)))[k.toNat]'hk2=nth g (nth g k):=uI _
  refine T ?_
  refine Av (g.set k.toNat (nth g (nth g k)),nth g (nth g k)) [] ⟨Lv h1 hk0 b1 q_,by dsimp only;rw[yW];exact h2,b1,by dsimp only;omega,by dsimp only;rw[hI,hs]⟩ (by dsimp only;omega) ⟨⟨E,E,zG Aa hn2.symm,E,Y⟩,⟨.inl E,E,Y⟩,E,E⟩
theorem A1p (f:List Int) (a b:Int) (hf:Da f) (ha:0≤a∧a.toNat<f.length) (hb:0≤b∧b.toNat<f.length) (hl:f.length≤100000):Sq 249 [.osl 900,Aa a,Aa b] [(900,.row 1 Aa f)] (Ab (U9 f a b).2) [(900,.row 1 Aa (U9 f a b).1)]:=cT F249 Tryz.ntmps249 λ F hF=>by
 obtain ⟨a1,a2,a3,a4⟩:=Mx a.toNat f a hf ha.1 ha.2 (yC _)
 obtain ⟨b1,b2,b3,b4⟩:=Mx b.toNat (Kq f a).1 b a1 hb.1 q_ (yC _)
 have F1:=topS f a hf ha.1 ha.2 hl
 have F2:=topS (Kq f a).1 b a1 hb.1 q_ q_
 rw[U9]
 dsimp only
 generalize hy:Kq (Kq f a).1 b=y at *
 generalize hx:Kq f a=x at *
 have hm:(if y.2>x.2 then y.2 else x.2).toNat<y.1.length:=by split<;>omega
 have hm0:0≤(if y.2>x.2 then y.2 else x.2):=by split<;>omega
 have e1:(max x.2 y.2).toNat=(if y.2>x.2 then y.2 else x.2).toNat:=by rw[Int.max_def];split<;>split<;>omega
 have e2:(min x.2 y.2)=(if y.2<x.2 then y.2 else x.2):=by rw[Int.min_def];split<;>split<;>omega
 rw[e1,e2]
 refine T ?_
 refine X (Ad [(900,900)] E F317 F1 E W E V) ?_
 refine T ?_
 refine X (Ad [(900,900)] E F317 F2 E W E V) ?_
 refine T ?_
 refine X (Ayf E E E) ?_
 refine T ?_
 refine X (X4 E E E) ?_
 refine T ?_
 refine⟨_,E,E,?_⟩
 refine T ?_
 exact done E (.cons .tmp .nil) [(900,900)] [(900,.row 1 Aa (y.1.set (if y.2>x.2 then y.2 else x.2).toNat (if y.2<x.2 then y.2 else x.2)))] (λ _ h=>h) E E U
theorem Xu {n:Net} {i:Nat} {v:Int} (h:(linkDomT n i v).2=true) (hi:i<n.ports.length):D0 n.ports[i] v=true:=by
 have e:nth n.ports ((i:Nat):Int)=n.ports[i]:=Aj (l:=n.ports) (i:=((i:Nat):Int)) hi
 unfold linkDomT at h
 split at h
 ·rename_i h3
  unfold crossT at h3
  split at h3
  ·rename_i h4
   rw[e]at h4
   exact h4.2.1
  ·cases h3
 ·cases h
theorem U6 {n:Net} (hr:Ac n=true) {f:List Int} {i:Nat} (hi:i<n.ports.length) {v:Int} (hf:Da f) (hl:n.domains.length≤f.length):Da (Dl n f i v)∧(Dl n f i v).length=f.length:=by
 unfold Dl
 split
 ·rename_i h
  have h2:=S7 h
  have hm:D0 n.ports[i] v=true:=Xu h hi
  have h3:=Yd hr hi hm
  have e:nth n.ports ((i:Nat):Int)=n.ports[i]:=Aj (l:=n.ports) (i:=((i:Nat):Int)) hi
  rw[e]
  exact Ady hf ⟨h3.1,by omega⟩ ⟨h2.1,by omega⟩
 ·exact⟨hf,E⟩
theorem Kj {α:Type} {g:List Int→α→List Int} {k:Nat}:∀ {l:List α} {f:List Int},(∀ a∈l,∀ f,Da f→k≤f.length→Da (g f a)∧(g f a).length=f.length)→Da f→k≤f.length→Da (l.foldl g f)∧(l.foldl g f).length=f.length
 | [],_,_,h,_=>⟨h,rfl⟩
 | a::l,f,hg,h,hk=>by
  obtain ⟨h1,h2⟩:=hg a y_ f h hk
  obtain ⟨h3,h4⟩:=Kj (l:=l) (λ b hb=>hg b (by simp[hb])) h1 (by omega:k≤(g f a).length)
  exact⟨h3,by rw[uD,h4,h2]⟩
theorem S6 {n:Net} (hr:Ac n=true) {f:List Int} {i:Nat} (hi:i<n.ports.length) (hf:Da f) (hl:n.domains.length≤f.length):Da (Ig n f i)∧(Ig n f i).length=f.length :=
 Kj (λ _ _ _ h1 h2=>U6 hr hi h1 h2) hf hl
theorem Ai4 {n:Net} (hr:Ac n=true) {f:List Int} (hf:Da f) (hl:n.domains.length≤f.length):Da (T7 n f)∧(T7 n f).length=f.length :=
 Kj (λ i hi _ h1 h2=>S6 hr (by simpa using hi) h1 h2) hf hl
theorem Ajr (l:List Int) (hl:l.length<2147483648):Sq 144 [.sl 1 Aa l] [] (.osl 0) [(0,.row 1 Aa l)]:=cT F144 Tryz.ntmps144 λ F hF=>by
 refine fW ?_
 refine Ds E (.inl E) E E E .sl E E ?_
 intro b hb
 cases b
 ·refine fU ?_
  refine Af (Ae Γ.toTy 7 E E E E E (.lit (e:=Aa) (l:=[]) E E) .sl y_ (by simp;omega) (by simp;omega)) E E ?_
  refine fU ?_
  exact done E (.cons .tmp .nil) [(0,7)] [(0,.row 1 Aa l)] (λ _ h=>h) E E ⟨Y,⟨.inl E,E,Y⟩,E,E⟩
 ·have h0:l=[]:=zU (hb rfl)
  subst h0
  refine fU ?_
  refine B9 2 1000 1 Aa E E ?_
  exact done E (.cons .tmp .nil) [(0,1000)] [(0,.row 1 Aa [])] (λ _ h=>h) E E ⟨Y,⟨.inl E,E,Y⟩,E,E⟩
theorem A0l (n:Net) (f:List Int) (hn:n.Fin) (hr:Ac n=true) (hf:Da f) (hl:n.domains.length≤f.length) (hl2:f.length≤100000):Sq 247 [Al n,.osl 900] [(900,.row 1 Aa f)] (.tup []) [(900,.row 1 Aa (T7 n f))]:=cT F247 Tryz.ntmps247 λ F hF=>by
 have hp:n.ports.length<2147483648:=hn.ports
 refine T ?_
 refine A7 2 8 (Al n) E E E ?_
 refine T ?_
 refine A9 n.ports.length (λ j=>[(1,.osl 900),(2,.ref 8 (Al n) 0),(11,.sl 7 A3 n.ports),(12,Aa n.ports.length),(13,Aa j)]) (λ j=>[(900,.row 1 Aa ((List.range j).foldl (Ig n) f))]) [] U ?_
 intro j hj
 refine T ?_
 constructor<;>intro h
 ·have hlt:j<n.ports.length:=qA h
  have hj0:((j:Nat):Int).toNat<n.ports.length:=hlt
  clear h
  have htag:n.ports[((j:Nat):Int).toNat].tagged.length<2147483648:=hn.tagged _ (zJ hj0)
  have htag2:n.ports[j].tagged.length<2147483648:=htag
  have hnp:nth n.ports ((j:Nat):Int)=n.ports[((j:Nat):Int).toNat]:=Aj hj0
  obtain ⟨g1,g2⟩:Da ((List.range j).foldl (Ig n) f)∧((List.range j).foldl (Ig n) f).length=f.length:=Kj (λ i hi _ h1 h2=>S6 hr (by have:=xM.1 hi;omega) h1 h2) hf hl
  refine T ?_
  refine Xd (Ad [(0,60)] E F144 (Ajr n.ports[((j:Nat):Int).toNat].tagged htag) E Y E ⟨.inr E,Y⟩) ?_
  refine T ?_
  refine Xd (Ae Γ.toTy 61 rfl rfl rfl rfl rfl (.row rfl) (.lit (e:=Aa) (l:=[n.ports[((j:Nat):Int).toNat].native]) rfl rfl) (by intro k hk;cases hk;decide) (by simp;omega) (by simp;omega)) ?_
  refine T ?_
  refine A7 5 7 (A3 n.ports[((j:Nat):Int).toNat]) E E E ?_
  have hlen:(n.ports[((j:Nat):Int).toNat].tagged++[n.ports[((j:Nat):Int).toNat].native]).length=n.ports[((j:Nat):Int).toNat].tagged.length+1:=by simp
  refine T ?_
  obtain ⟨vl,hvl⟩:∃ vl,n.ports[((j:Nat):Int).toNat].tagged++[n.ports[((j:Nat):Int).toNat].native]=vl:=⟨_,rfl⟩
  have hvlen:vl.length<2147483649:=by rw[← hvl,hlen];omega
  obtain ⟨fj,hfj⟩:∃ fj,(List.range j).foldl (Ig n) f=fj:=⟨_,rfl⟩
  rw[hfj]at g1 g2
  refine A9 vl.length (λ i=>[(1,.osl 900),(2,.ref 8 (Al n) 0),(4,Aa j),(5,.ref 7 (A3 n.ports[((j:Nat):Int).toNat]) 0),(11,.sl 7 A3 n.ports),(12,Aa n.ports.length),(13,Aa j),(24,.osl 1000),(25,Aa vl.length),(26,Aa i)])
   (λ i=>[(900,.row 1 Aa ((vl.take i).foldl (λ f v=>Dl n f j v) fj)),(1000,.row 1 Aa vl)]) [(1000,61)] ⟨⟨rfl,rfl,rfl,rfl,rfl,rfl,rfl,rfl,rfl,rfl,rfl,rfl,rfl,rfl,rfl,rfl,zG (λ l:List Int=>Aa l.length) hvl.symm,rfl,rfl,rfl,trivial⟩,⟨.inl (zG (Ob.row 1 Aa) hfj.symm),rfl,.inl (zG (Ob.row 1 Aa) hvl.symm),rfl,trivial⟩,rfl,rfl⟩ ?_
  intro i hi
  refine T ?_
  constructor<;>intro h
  ·have hit:i<vl.length:=qA h
   have hi0:((i:Nat):Int).toNat<vl.length:=hit
   clear h
   obtain ⟨e1,e2⟩:Da ((vl.take i).foldl (λ f v=>Dl n f j v) fj)∧((vl.take i).foldl (λ f v=>Dl n f j v) fj).length=fj.length:=Kj (λ _ _ _ h1 h2=>U6 hr hlt h1 h2) g1 q_
   have hnx:(vl.take (i+1)).foldl (λ f v=>Dl n f j v) fj=Dl n ((vl.take i).foldl (λ f v=>Dl n f j v) fj) j (vl[((i:Nat):Int).toNat]'hi0):=by
    rw[zW hit,xF];rfl
   have q:=Xt n hn j (vl[((i:Nat):Int).toNat]'hi0)
   refine T ?_
   refine C q F186 ?_
   cases hb:(linkDomT n j (vl[((i:Nat):Int).toNat]'hi0)).2
   ·have hz:Dl n ((vl.take i).foldl (λ f v=>Dl n f j v) fj) j (vl[((i:Nat):Int).toNat]'hi0)=(vl.take i).foldl (λ f v=>Dl n f j v) fj:=by rw[Dl,zD (by rw[hb];decide)]
    rw[hz]at hnx
    refine T ?_
    exact A2 [] q_ ⟨⟨E,E,E,E,E,E,E,E,E,E,E,E,E,E,E,E,E,E,E,E,Y⟩,⟨.inl (zG (Ob.row 1 Aa) hnx),E,.inl E,E,Y⟩,E,E⟩
   ·have hin:=S7 hb
    have hm:D0 (n.ports[((j:Nat):Int).toNat]'hj0) (vl[((i:Nat):Int).toNat]'hi0)=true:=Xu hb hlt
    have hdm:=Yd hr hlt hm
    have q2:=J3 n hn hr (n.ports[((j:Nat):Int).toNat]'hj0).dev (vl[((i:Nat):Int).toNat]'hi0)
    have hz:Dl n ((vl.take i).foldl (λ f v=>Dl n f j v) fj) j (vl[((i:Nat):Int).toNat]'hi0)=(U9 ((vl.take i).foldl (λ f v=>Dl n f j v) fj) (Jm n (n.ports[((j:Nat):Int).toNat]'hj0).dev (vl[((i:Nat):Int).toNat]'hi0)) (linkDomT n j (vl[((i:Nat):Int).toNat]'hi0)).1).1:=by rw[Dl,zE hb,hnp]
    rw[hz]at hnx
    have q3:=A1p ((vl.take i).foldl (λ f v=>Dl n f j v) fj) (Jm n (n.ports[((j:Nat):Int).toNat]'hj0).dev (vl[((i:Nat):Int).toNat]'hi0)) (linkDomT n j (vl[((i:Nat):Int).toNat]'hi0)).1 e1 ⟨hdm.1,yS hdm.2 q_⟩ ⟨hin.1,by omega⟩ q_
    refine T ?_
    refine C q2 F129 ?_
    refine T ?_
    refine X (Ad [(900,900)] E F249 q3 E W E V) ?_
    refine T ?_
    exact A2 [] q_ ⟨⟨E,E,E,E,E,E,E,E,E,E,E,E,E,E,E,E,E,E,E,E,Y⟩,⟨.inl (zG (Ob.row 1 Aa) hnx),E,.inl E,E,Y⟩,E,E⟩
  ·have hie:i=vl.length:=qB h
   clear h
   subst hie
   have hnx:(List.range (j+1)).foldl (Ig n) f=(vl.take vl.length).foldl (λ f v=>Dl n f j v) fj:=by
    rw[wV,xF,hfj,yG,← hvl]
    show Ig n fj j=_
    rw[Ig,hnp]
   refine T ?_
   exact A2 [] q_ ⟨⟨E,E,E,E,E,E,E,E,E,E,Y⟩,⟨.inl (zG (Ob.row 1 Aa) hnx),E,Y⟩,E,E⟩
 ·have hje:j=n.ports.length:=qB h
  clear h
  subst hje
  refine T ?_
  exact A1 E .nil [(900,900)] [(900,.row 1 Aa (T7 n f))] (λ _ h=>h) E E U
end Go.Sy.YtiijbikecbjdaaaGreatDoor
namespace Go.Sy.YtiijbikecbjdaaaGreatDoor
open Go.Proofs
attribute [local irreducible] Go.Sy.G Go.Sy.DR
set_option maxRecDepth 100000
set_option maxHeartbeats 4000000
theorem Arq:∀ (l:List Int) (m:Int),Afw m l=m∨Afw m l∈l
 | [],_=>.inl rfl
 | x::l,m=>by
  rw[Afw]
  rcases Arq l (min m x) with h | h
  ·rw[h,Int.min_def]
   split
   ·exact .inl E
   ·exact .inr y_
  ·exact .inr (by simp[h])
theorem A0i {l:List Int} (h:l≠[]):Alt l∈l:=by
 match l,h with
 | x::l,_ =>
  show Afw (nth (x::l) 0) l∈x::l
  rw[show nth (x::l) 0=x from rfl]
  rcases Arq l x with h | h
  ·rw[h];simp
  ·simp[h]
theorem loopS (n:Net) (hn:n.Fin):Sp 176 [Al n] (.tup [Aa (loopT n).1,Ab (loopT n).2]):=cT F176 Tryz.ntmps176 λ F hF=>by
 have qn:=Ax n hn
 have hT:=loopT.eq_1 n
 generalize loopT n=res at *
 cases hr:Ac n with
 | false =>
  rw[hr]at qn
  rw[hr,zE rfl]at hT
  subst hT
  refine T ?_
  refine C qn F24 ?_
  refine T ?_
  exact D
 | true =>
 rw[hr]at qn
 rw[hr,zD y_]at hT
 obtain ⟨_,_,_,hmany,_⟩:=Ams hr
 obtain ⟨fa1,fa2⟩:=Ajy (2 * n.domains.length)
 have fl:=Ai4 hr fa1 q_
 have q1:=aloneS (2 * n.domains.length) q_
 rw[show ((2 * n.domains.length:Nat):Int)=2 * (n.domains.length:Int) from by omega]at q1
 have q2:=A0l n (L4 (2 * n.domains.length)) hn hr fa1 q_ q_
 refine T ?_
 refine C qn F24 ?_
 refine A7 1 8 (Al n) E E E ?_
 refine T ?_
 refine X (Ad [(900,700)] E F246 q1 E W E V) ?_
 refine T ?_
 refine X (Ad [(900,700)] E F247 q2 E W E V) ?_
 refine T ?_
 refine B6 (λ x:Nat × List Int=>x.1≤n.domains.length∧Da x.2∧x.2.length=2 * n.domains.length∧res=Zo n x.2 x.1 (n.domains.drop x.1)) (λ x=>[(1,.ref 8 (Al n) 0),(4,Aa n.domains.length),(5,.osl 1000),(22,.sl 6 Ap n.domains),(23,Aa n.domains.length),(24,Aa x.1)])
  (λ x=>[(1000,.row 1 Aa x.2)]) (λ x=>n.domains.length-x.1) (0,T7 n (L4 (2 * n.domains.length))) [(1000,700)] ⟨by omega,fl.1,by dsimp only;rw[fl.2,fa2],hT⟩ U ?_
 rintro ⟨i,f⟩ ⟨h1,h2,h3,hI⟩
 dsimp only at h1 h2 h3 hI ⊢
 refine T ?_
 constructor<;>intro h
 ·have hlt:i<n.domains.length:=qA h
  have hi0:((i:Nat):Int).toNat<n.domains.length:=hlt
  clear h
  rw[yJ hlt,Zo]at hI
  have hpl:n.domains[((i:Nat):Int).toNat].peers.length<2147483648:=hn.peers _ (zJ hi0)
  refine T ?_
  constructor<;>intro h
  ·have hpe:n.domains[i].peers=[]:=zU (by have:=eq_of_beq h;have e:(n.domains[((i:Nat):Int).toNat]'hi0).peers.length=n.domains[i].peers.length:=rfl;omega)
   clear h
   rw[zE hpe]at hI
   refine T ?_
   exact Av (i+1,f) [] ⟨hlt,h2,h3,hI⟩ (by dsimp only;omega) ⟨⟨E,E,E,E,E,E,E,E,E,E,E,E,Y⟩,⟨.inl E,E,Y⟩,E,E⟩
  have hpe:n.domains[i].peers≠[]:=λ e=>by
   have e2:(n.domains[((i:Nat):Int).toNat]'hi0).peers=[]:=e
   rw[e2]at h
   cases h
  clear h
  rw[zD hpe]at hI
  dsimp only at hI
  have hpm:=Ays hr hlt (A0i hpe)
  have qm:=As2 (n.domains[((i:Nat):Int).toNat]'hi0).peers (by have:=xO.2 hpe;exact this) hpl
  obtain ⟨m,hm⟩:∃ m,Alt (n.domains[((i:Nat):Int).toNat]'hi0).peers=m:=⟨_,rfl⟩
  have hm':Alt n.domains[i].peers=m:=hm
  have emin:min (i:Int) m=if m<(i:Int) then m else (i:Int):=by rw[Int.min_def];split<;>split<;>omega
  rw[hm]at qm
  rw[hm']at hI hpm
  rw[emin]at hI
  have hmb:0≤(if m<(i:Int) then m else (i:Int))∧(if m<(i:Int) then m else (i:Int))<n.domains.length:=by split<;>omega
  have q3:=A1p f i ((n.domains.length:Int)+(if m<(i:Int) then m else (i:Int))) h2 ⟨by omega,by omega⟩ ⟨by omega,by omega⟩ q_
  have q3f:=Ady h2 (⟨by omega,by omega⟩:0≤(i:Int)∧(i:Int).toNat<f.length) (⟨by omega,by omega⟩:0≤(n.domains.length:Int)+(if m<(i:Int) then m else (i:Int))∧((n.domains.length:Int)+(if m<(i:Int) then m else (i:Int))).toNat<f.length)
  have hb48:(n.domains.length:Int)+(if m<(i:Int) then m else (i:Int))<100:=by omega
  generalize (U9 f i ((n.domains.length:Int)+(if m<(i:Int) then m else (i:Int))))=r at *
  obtain ⟨g,ok⟩:=r
  dsimp only at hI q3f
  refine T ?_
  refine C qm F248 ?_
  refine T ?_
  refine X (X4 E E E) ?_
  refine T ?_
  refine X (Ad [(900,1000)] E F249 q3 E W E V) ?_
  cases ok with
  | false =>
   rw[zE rfl]at hI
   rw[hI]
   refine T ?_
   exact D
  | true =>
   rw[zD j_]at hI
   refine T ?_
   exact Av (i+1,g) [] ⟨hlt,q3f.1,by dsimp only;omega,hI⟩ (by dsimp only;omega) ⟨⟨E,E,E,E,E,E,E,E,E,E,E,E,Y⟩,⟨.inl E,E,Y⟩,E,E⟩
 ·have hie:i=n.domains.length:=qB h
  clear h
  rw[hie,wH,Zo]at hI
  rw[hI]
  refine T ?_
  exact D
def Wy (dn lk:Int) (M:List LineM) (n:Net) (row e:Int):List SV:=[.val (.int .u32 dn),.val (.int .i32 lk),.val (.int .u32 0),.sl 17 A0 M]++Cw n++[Aa row,Aa e]
def Hj (dn lk:Int) (M:List LineM) (x:Net × Int × Int):Obs:=[(0,.box (Wy dn lk M x.1 x.2.1 x.2.2))]
theorem Axm {n:Net} (h:(meshNT n).2.2=0):(meshNT n).2.1=0:=by
 unfold meshNT at h ⊢
 split
 ·rfl
 rename_i h1
 rw[zD h1]at h
 split at h
 ·cases h
 ·rename_i h2
  split at h
  ·cases h
  ·rename_i h3
   rw[zD h3]
theorem Aok (M:List LineM) (hM:∀ l∈M,LineW l) (hl:M.length<2147483648) (dn lk:Int):Sq 107 [.ptr 0 0] (Hj dn lk M (emptyN,0,0)) (.tup []) (Hj dn lk M (Dq M)):=cT F107 Tryz.ntmps107 λ F hF=>by
 refine T ?_
 refine B6 (λ x:Nat × Net=>x.1≤M.length∧x.2.Fin∧C8 x.2∧Dq M=C5 x.2 (M.drop x.1)) (λ x=>[(0,.ptr 0 0),(9,.sl 17 A0 M),(10,Aa M.length),(11,Aa x.1)]) (λ x=>Hj dn lk M (x.2,0,0)) (λ x=>M.length-x.1) (0,emptyN) [] ⟨by omega,Jy,(λ x hx=>by cases hx),rfl⟩ U ?_
 rintro ⟨j,n⟩ ⟨hj,hn,ha,hI⟩
 dsimp only at hj hn ha hI ⊢
 refine T ?_
 constructor<;>intro h
 ·have hlt:j<M.length:=qA h
  have hj0:((j:Nat):Int).toNat<M.length:=hlt
  clear h
  have hw:=hM _ (zJ hj0)
  have q:=A0h n hn ha _ hw
  have hp:=Ari hn ha hw
  rw[yJ hlt,C5]at hI
  refine T ?_
  refine cD q F174 ?_
  refine T ?_
  constructor<;>intro h
  ·have hne:(putT n (M[((j:Nat):Int).toNat]'hj0)).2≠0:=by intro e;rw[e]at h;cases h
   have he:=hp.none hne
   have hI2:Dq M=(emptyN,(M[((j:Nat):Int).toNat]'hj0).row,(putT n (M[((j:Nat):Int).toNat]'hj0)).2):=hI.trans (zE hne)
   rw[hI2,← he]
   clear h
   refine T ?_
   exact done E .nil [] (Hj dn lk M ((putT n (M[((j:Nat):Int).toNat]'hj0)).1,(M[((j:Nat):Int).toNat]'hj0).row,(putT n (M[((j:Nat):Int).toNat]'hj0)).2)) (λ _ h=>h) E E U
  ·have he:(putT n (M[((j:Nat):Int).toNat]'hj0)).2=0:=by simpa using h
   have hI2:Dq M=C5 (putT n (M[((j:Nat):Int).toNat]'hj0)).1 (M.drop (j+1)):=hI.trans (zD (λ hh=>hh he))
   clear h
   refine T ?_
   exact Av (j+1,(putT n (M[((j:Nat):Int).toNat]'hj0)).1) [] ⟨hlt,hp.fin,hp.addrs,hI2⟩ (by dsimp only;omega) ⟨⟨E,E,E,E,E,E,E,E,Y⟩,⟨.inl (zG (λ e:Int=>Ob.box (Wy dn lk M (putT n (M[((j:Nat):Int).toNat]'hj0)).1 0 e)) he.symm),E,Y⟩,E,E⟩
 ·have hje:j=M.length:=qB h
  clear h
  rw[hje,wH,C5]at hI
  rw[hI]
  have qm:=meshS n hn
  have hf:=finishT.eq_1 n
  refine T ?_
  refine C qm F175 ?_
  refine T ?_
  constructor<;>intro h
  ·have hne:(meshNT n).2.2≠0:=by intro e;rw[e]at h;cases h
   rw[zE hne]at hf
   rw[hf]
   clear h
   refine T ?_
   exact done E .nil [] (Hj dn lk M (meshNT n)) (λ _ h=>h) E E U
  have he:(meshNT n).2.2=0:=by simpa using h
  clear h
  have hrow:(meshNT n).2.1=0:=Axm he
  rw[zD (by rw[he];decide)]at hf
  have ql:=loopS (meshNT n).1 (Agv hn)
  refine T ?_
  refine C ql F176 ?_
  refine T ?_
  constructor<;>intro h
  ·rw[zE h]at hf
   rw[hf]
   clear h
   refine T ?_
   refine Ai 0 (Wy dn lk M emptyN (loopT (meshNT n).1).1 38) E vL ?_
   exact A1 E .nil [] (Hj dn lk M (emptyN,(loopT (meshNT n).1).1,38)) (λ _ h=>h) E E U
  ·rw[zD (by rw[h];decide)]at hf
   rw[hf]
   clear h
   refine T ?_
   exact A1 E .nil [] (Hj dn lk M ((meshNT n).1,0,0)) (λ _ h=>h) E E ⟨Y,⟨.inl (zG (λ a:Int × Int=>Ob.box (Wy dn lk M (meshNT n).1 a.1 a.2)) (Prod.ext hrow.symm he.symm:((0:Int),(0:Int))=(meshNT n).2)),E,Y⟩,E,E⟩
theorem Art (a:Addr) (x:Int) (w:World) (hc:w.cell? a=some (.int .u32 x)):(callFunc 229 #[.pointer (some a)]).run Tryz.prog w=.ok (.value (.int .u32 x)) w :=
 run_call_load Tryz.func229 z_ z_ z_ .u32 z_ hc
theorem U1 (w:World):(callFunc 357 #[]).run Tryz.prog w=.ok (.value (.tuple #[])) w:=run_call_mark0 Tryz.func357 z_ z_ z_ .disable z_ w
theorem Xa (w:World):(callFunc 359 #[]).run Tryz.prog w=.ok (.value (.tuple #[])) w:=run_call_mark0 Tryz.func359 z_ z_ z_ .enable z_ w
theorem Afn (a:Addr) (w:World):(callFunc 360 #[.pointer (some a)]).run Tryz.prog w=.ok (.value (.tuple #[])) w:=run_call_marked Tryz.func360 z_ z_ z_ .acquire z_ a w
theorem Afm (a:Addr) (w:World):(callFunc 362 #[.pointer (some a)]).run Tryz.prog w=.ok (.value (.tuple #[])) w:=run_call_marked Tryz.func362 z_ z_ z_ .releaseMerge z_ a w
theorem Abp (a:Addr) (x:Value) (u:FrameMode) (w:World) (hc:w.cell? a=some x) (hz:w.frozen? a=false) :
  CallsD Tryz.prog 232 #[.pointer (some a),.bool true] u w λ e u' w'=>u'=u∧(e=.returned (.tuple #[])∧w'=w.drew.setCell a (.int .u32 1)):=by
 have hc':w.drew.cell? a=some x:=by go_simp
 have hz':w.drew.frozen? a=false:=by go_simp
 have hst:=run_call_store (P:=Tryz.prog) Tryz.func298 z_ z_ z_ z_ (k:=.u32) (y:=1) hc' hz'
 go_enter_d Tryz.func232,Tryz.ntmps232
 go_wp2
 go_region_calls
 all_goals (go_end0;exact⟨rfl,rfl⟩)
theorem Y5 (a:Addr) (u:FrameMode) (w:World) (hc:w.cell? a=some (.int .i32 1)) (hz:w.frozen? a=false) :
  CallsD Tryz.prog 231 #[.pointer (some a)] u w λ e u' w'=>u'=u∧(e=.returned (.tuple #[])∧w'=w.setCell a (.int .i32 0)):=by
 have hd:=U1
 have he:=Xa
 have hr:=Afm
 have hadd:=run_call_add (P:=Tryz.prog) Tryz.func363 z_ z_ z_ .i32 z_ (y:=-1) (s:=0) hc hz (by simp[go_sem];rfl)
 have hcv:=run_convert_to_unsafe (P:=Tryz.prog) (src:=485) (dst:=489) Tryz.underlying485 Tryz.underlying489 z_ hc
 go_enter_d Tryz.func231,Tryz.ntmps231
 go_wp2
 go_end0
 go_wp2
 go_end0
 exact⟨E,E⟩
theorem Apl (a:Addr) (w:World) (hc:w.cell? a=some (.int .i32 0)) (hz:w.frozen? a=false) :
  Calls Tryz.prog 230 #[.pointer (some a)] w λ e w'=>e=.returned (.tuple #[])∧w'=w.setCell a (.int .i32 1):=by
 have hd:=U1
 have he:=Xa
 have ha:=Afn
 have hcas:=run_call_cas_hit (P:=Tryz.prog) Tryz.func358 z_ z_ z_ .i32 z_ (y:=1) hc hz
 have hc':(w.setCell a (.int .i32 1)).cell? a=some (.int .i32 1):=World.cell?_setCell_same w a _ hc
 have hcv:=run_convert_to_unsafe (P:=Tryz.prog) (src:=485) (dst:=489) Tryz.underlying485 Tryz.underlying489 z_ hc'
 go_enter Tryz.func230,Tryz.ntmps230
 go_wp2
 first | go_end0 | (simp only[Exit.inBlock,Exit.then];refine bodyPost_ret (results_none rfl _ _ _) rfl ?_) | refine bodyPost_ret (results_none rfl _ _ _) rfl ?_
 go_wp2
 go_end0
 exact⟨E,E⟩
theorem Ctx.behindN {K:Nat→Prop} {κ κ2:Ka} {w w1 w2:World} (s:Step K κ w κ w1) (c:Ctx ⟨w1,κ,[]⟩ κ2 w2):Ctx ⟨w,κ,[]⟩ κ2 w2 where
 size:=wJ s.size c.size
 os:=c.os.trans s.os
 tape:=c.tape.trans s.tape
 output:=c.output.trans s.output
 M:=c.M
 old:=λ b hb h=>by
  refine(c.old b (yS hb s.size) h).trans ?_
  by_cases hm:κ.M b
  ·exact s.mkeep b hm
  ·exact s.blk b hb (λ ho=>by
    rcases ho with ⟨k,hk⟩ | ho
    ·exact h k hk
    ·exact hm ho)
 own:=λ k b hk=>by
  rcases c.own k b hk with h | h
  ·exact .inl (wJ s.size h)
  ·exact .inr h
 nam:=c.nam
theorem Aqh {κ:Ka} {w:World} (hi:Inv κ w):Step (λ _=>False) κ w κ w.drew∧Inv κ w.drew:=by
 have g:=Grew.drew w
 exact⟨⟨g.size,g.os,g.tape,g.output,E,λ b _=>rfl,λ b _ _=>rfl,λ _ _ _ _=>rfl,λ _ _=>rfl,λ _ h=>h.elim,λ _ h=>.inl h⟩,⟨hi.inj,hi.bnd,hi.apart,hi.mbnd⟩⟩
theorem As4 (M:List LineM) (hM:∀ l∈M,LineW l) (hl:M.length<2147483648) :
  Sq 173 [.ptr 0 0,.clo (.func 107) [.ptr 0 0] []] (Hj 0 0 M (emptyN,0,0)) (.tup []) (Hj 1 0 M (Dq M)):=by
 intro κ w vs hi hnew hvs hok
 have o1:=hok (0,.box (Wy 0 0 M emptyN 0 0)) (by simp[Hj])
 obtain ⟨b,e1,c1,c2,st1,inv1,ob1⟩:=Dk (off:=1) (x:=.val (.int .i32 1)) (v:=.int .i32 1) hi o1 rfl (λ _ _=>by simp only[Rd]) rfl
 simp only[RdL,Rd,e1]at hvs
 obtain ⟨v0,r0,rfl,rfl,v1,r1,rfl,⟨fs,cs,rfl,hfs,hcs⟩,rfl⟩:=hvs
 obtain ⟨p3,q3,rfl,rfl,rfl⟩:=hfs
 subst hcs
 have hcl:=Aok M hM hl 0 1 κ (w.setCell ⟨b,1,none⟩ (.int .i32 1)) [.pointer (some ⟨b,0,none⟩)] inv1 hnew (by simp only[RdL,Rd,e1];exact⟨_,_,rfl,rfl,rfl⟩) (λ p hp=>by
  simp only[Hj,yI,xG,vM]at hp
  rw[hp]
  exact ob1)
 obtain ⟨u1,hu1,hr1⟩:=c1 0 (.val (.int .u32 0)) rfl
 obtain ⟨u2,hu2,hr2⟩:=c1 1 (.val (.int .i32 0)) rfl
 rw[hr1.val]at hu1
 rw[hr2.val]at hu2
 have f1:=c2 0 (show 0<14 by decide)
 have f2:=c2 1 (show 1<14 by decide)
 have hl:=Art ⟨b,0,none⟩ 0 (w.setCell ⟨b,1,none⟩ (.int .i32 1)) ((World.cell?_setCell_other _ ⟨b,1,none⟩ ⟨b,0,none⟩ _ y_).trans hu1)
 have hnot:∀ (x:Bool) (w:World),(Op.unary .not (.bool x)).run Tryz.prog w=.ok (.bool (!x)) w:=λ _ _=>rfl
 go_enter_defers Tryz.func173,Tryz.ntmps173
 go_wp2_with (first | (go_at_call 230;refine(Apl ⟨b,1,none⟩ _ (by assumption) (by assumption)).mono ?_;rintro e w' ⟨rfl,rfl⟩) | (go_at_call 107;refine hcl.mono ?_;rintro e w' ⟨v,κ2,rfl,hc2,hi2,hv2,ok2⟩) | (go_at_call 172;go_in))
 have p1:=ok2 (0,.box (Wy 0 1 M (Dq M).1 (Dq M).2.1 (Dq M).2.2)) (by simp[Hj])
 have k1:κ2 0=.blk b:=by
  obtain ⟨bb,_,_,_,q1,_⟩:=id p1
  rcases hc2.nam 0 (by rw[e1];intro h;cases h) with h | h
  ·rw[h];exact e1
  ·rw[h]at q1;cases q1
 obtain ⟨ba,a1,a2,a3,_,_,_⟩:=Dk (off:=0) (x:=.val (.int .u32 1)) (v:=.int .u32 1) hi2 p1 rfl (λ _ _=>by simp only[Rd]) rfl
 rw[k1]at a1
 cases a1
 obtain ⟨std,invd⟩:=Aqh hi2
 have p2:=ObOK.step std (k:=0) (λ h=>h) _ p1
 obtain ⟨ba,a1,_,_,st3,inv3,ob3⟩:=Dk (off:=0) (x:=.val (.int .u32 1)) (v:=.int .u32 1) invd p2 rfl (λ _ _=>by simp only[Rd]) rfl
 rw[k1]at a1
 cases a1
 have ob3:ObOK κ2 (w'.drew.setCell ⟨b,0,none⟩ (.int .u32 1)) 0 (.box (Wy 1 1 M (Dq M).1 (Dq M).2.1 (Dq M).2.2)):=ob3
 obtain ⟨ba,a1,a4,a5,st4,inv4,ob4⟩:=Dk (off:=1) (x:=.val (.int .i32 0)) (v:=.int .i32 0) inv3 ob3 rfl (λ _ _=>by simp only[Rd]) rfl
 rw[k1]at a1
 cases a1
 have ob4:ObOK κ2 ((w'.drew.setCell ⟨b,0,none⟩ (.int .u32 1)).setCell ⟨b,1,none⟩ (.int .i32 0)) 0 (.box (Wy 1 0 M (Dq M).1 (Dq M).2.1 (Dq M).2.2)):=ob4
 obtain ⟨v1,hv1,hr1⟩:=a2 0 (.val (.int .u32 0)) rfl
 rw[hr1.val]at hv1
 obtain ⟨v2,hv2,hr2⟩:=a4 1 (.val (.int .i32 1)) rfl
 rw[hr2.val]at hv2
 refine leaves_cons (f:=232) (args:=#[.pointer (some ⟨b,0,none⟩),.bool true]) y_ (by simp[go_sem]) ?_
 refine(Abp ⟨b,0,none⟩ (.int .u32 0) .returning _ hv1 (a3 0 (show 0<14 by decide))).mono ?_
 rintro e u' w'' ⟨rfl,rfl,rfl⟩
 refine leaves_cons (f:=231) (args:=#[.pointer (some ⟨b,1,none⟩)]) (by simp[settle]) (by simp[go_sem]) ?_
 refine(Y5 ⟨b,1,none⟩ _ _ hv2 (a5 1 (show 1<14 by decide))).mono ?_
 rintro e u' w'' ⟨rfl,rfl,rfl⟩
 have hst:Step (·=0) κ2 w' κ2 ((w'.drew.setCell ⟨b,0,none⟩ (.int .u32 1)).setCell ⟨b,1,none⟩ (.int .i32 0)):=(std.weaken (λ _ h=>h.elim)).trans (st3.trans st4)
 refine⟨.tuple #[],by simp[results,Tryz.results173],.tuple #[],κ2,E,Ctx.behindN st1 (hc2.step inv4 hst),inv4,⟨[],E,E⟩,λ p hp=>?_⟩
 simp only[Hj,yI,xG,vM]at hp
 rw[hp]
 exact ob4
theorem As5 (M:List LineM) (dn lk:Int) (x:Net × Int × Int):Sq 172 [.ptr 0 0] (Hj dn lk M x) (Ab (dn != 0)) (Hj dn lk M x):=cT F172 Tryz.ntmps172 λ F hF=>by
 refine fW ?_
 refine Af (Ve Art E E E E) E E ?_
 refine fU ?_
 exact done E (.cons .tmp .nil) [] (Hj dn lk M x) (λ _ h=>h) E E U
theorem Az2 (M:List LineM) (hM:∀ l∈M,LineW l) (hl:M.length<2147483648) :
  Sq 106 [.ptr 0 0,.clo (.func 107) [.ptr 0 0] []] (Hj 0 0 M (emptyN,0,0)) (.tup []) (Hj 1 0 M (Dq M)):=cT F106 Tryz.ntmps106 λ F hF=>by
 have q1:Sq 172 [.ptr 0 0] (Hj 0 0 M (emptyN,0,0)) (Ab false) (Hj 0 0 M (emptyN,0,0)):=As5 M 0 0 (emptyN,0,0)
 have q2:=As4 M hM hl
 refine fW ?_
 refine X (Ad [] E F172 q1 E W E V) ?_
 refine fU ?_
 refine X (Ad [] E F173 q2 E W E V) ?_
 refine fU ?_
 exact A1 E .nil [] (Hj 1 0 M (Dq M)) (λ _ h=>h) E E U
theorem Awc (M:List LineM) (hM:∀ l∈M,LineW l) (hl:M.length<2147483648):Sq 42 [.ptr 0 0] (Hj 0 0 M (emptyN,0,0)) (.tup [Al (Dq M).1,Aa (Dq M).2.1,Aa (Dq M).2.2]) (Hj 1 0 M (Dq M)):=cT F42 Tryz.ntmps42 λ F hF=>by
 have q:=Az2 M hM hl
 refine T ?_
 refine X (Ad [] E F106 q E W E V) ?_
 refine T ?_
 exact done E (.cons (.cell E E E E) (.cons .tmp (.cons .tmp .nil))) [] (Hj 1 0 M (Dq M)) (λ _ h=>h) E E U
theorem Atx (M:List LineM) (hM:∀ l∈M,LineW l) (hl:M.length<2147483648):Sp 20 [.sl 17 A0 M] (.tup [Al (Dq M).1,Aa (Dq M).2.1,Aa (Dq M).2.2]):=cT F20 Tryz.ntmps20 λ F hF=>by
 have q:=Awc M hM hl
 refine T ?_
 refine Ai 8 (Wy 0 0 M emptyN 0 0) E vL ?_
 refine X (Ad [(0,8)] E F42 q E W E V) ?_
 refine T ?_
 exact D
end Go.Sy.YtiijbikecbjdaaaGreatDoor
namespace Go.Sy.YtiijbikecbjdaaaGreatDoor
open Go.Proofs
set_option maxHeartbeats 4000000
structure LineR (l:LineM):Prop where
 right:Cm l=true
 ok:LineOK l
 vlan:0≤l.vlan∧l.vlan≤4094
 num:0≤l.num∧l.num≤16777215
 cost:0≤l.cost∧l.cost≤65535
 bits:0≤l.bits∧l.bits≤32
 tagged:D5 l.tagged 4094=true
 imports:D5 l.imports 65535=true
 exports:D5 l.exports 65535=true
 addrs:l.addrs.length≤16
 dev:l.dev.size≤12
 port:l.port.size≤12
 peer:l.peer.size≤12
 far:l.far.size≤12
 name:l.name.size≤12
theorem C6 {s:ByteArray} (h:Ay s=true):s.size≤12:=by
 simp only[Ay,zH,zQ]at h
 exact h.2
theorem Adp (s:ByteArray):0≤(macR s).1:=by
 have hd:∀ c,0≤digI c:=λ c=>by
  unfold digI
  split
  ·omega
  ·split<;>omega
 have:∀ i,0≤Un s i:=λ i=>by
  induction i with
  | zero=>exact wE _
  | succ i ih =>
   have h1:=hd (Bn s (3 * i))
   have h2:=hd (Bn s (3 * i+1))
   rw[Un]
   omega
 unfold macR
 split
 ·exact this 6
 ·exact wE _
theorem Aqe:(⟨#[]⟩:ByteArray).size=0:=rfl
theorem Afq (s:ByteArray):(0≤(prefixR s).1.1∧(prefixR s).1.1<4294967296):=by
 unfold prefixR
 split
 ·exact⟨wE _,by decide⟩
 ·exact⟨Ko _,Qs _⟩
theorem Au8 {s:ByteArray} (h:(Dr s).2=true):(Dr s).1.length≤16∧∀ x∈(Dr s).1,0≤x∧x<4294967296:=by
 have hp:=Ab2 h
 obtain ⟨a,b,c,d⟩:=Oc Dh (Cp 44 s) [] (Dr s).1 hp List.Pairwise.nil y_
 refine⟨b,λ x hx=>?_⟩
 rcases d x hx with hh | ⟨p,_,hh⟩
 ·cases hh
 ·have h1:=Ko p
  have h2:=Qs p
  rw[hh]at h1 h2
  exact⟨h1,h2⟩
theorem M9 {s:ByteArray} {hi:Int} (h:(listR hi s).2=true):D5 (listR hi s).1 hi=true:=A0k (Ab2 h)
theorem Bl (hi:Int):D5 [] hi=true:=by simp[D5,Ac3]
theorem zV:(0:Int)≤0∧(0:Int)≤4094:=by decide
theorem zN:(0:Int)≤0∧(0:Int)≤16777215:=by decide
theorem zC:(0:Int)≤0∧(0:Int)≤65535:=by decide
theorem zB:(0:Int)≤0∧(0:Int)≤32:=by decide
theorem zM:(0:Int)≤0∧(0:Int)<18446744073709551616:=by decide
theorem zA:(0:Int)≤0∧(0:Int)<4294967296:=by decide
theorem zS:(⟨#[]⟩:ByteArray).size≤12:=by decide
theorem Anu {w:List ByteArray} {row:Int} (h:(Ce w row).2=0):LineR (Ce w row).1:=by
 obtain ⟨g1,g2⟩:=Asw h
 rw[g1]
 clear g1 h
 have ez:=Aqe
 have o1:∀ {m:Int},0≤m→statB m=true→0≤m∧m<18446744073709551616:=λ a b=>⟨a,by have:=Afh b;omega⟩
 unfold Bz at g2 ⊢
 dsimp only at g2 ⊢
 by_cases h1:kindL (wdT w 0)=1
 ·simp only[zE h1,yI,xG,vM,forall_eq_or_imp,forall_eq,xH,wQ,zH]at g2 ⊢
  obtain ⟨b1,b2,b3,b4⟩:=g2
  have c:=Hq b2
  have n1:=C6 b1
  exact⟨by simp[Cm,Bo,b1,b4,within_iff.2 c,E3],⟨o1 (Adp _) b4,zA,by simp[lineZ]⟩,zV,⟨c.1,by have:=c.2;dsimp only;omega⟩,zC,zB,Bl _,Bl _,Bl _,by simp[lineZ],n1,zS,zS,zS,zS⟩
 by_cases h2:kindL (wdT w 0)=2
 ·simp only[zD h1,zE h2]at g2 ⊢
  have b1:=g2 (!(Ay (wdT w 1)),20) y_
  have b2:=g2 (!(Ay (wdT w 2)),20) y_
  have b3:=g2 (!(numR (wdT w 3) 1 65535).2,21) y_
  have b4:∀ e∈(Dv w).2.2,e.1=false:=λ e he=>g2 e (by simp[he])
  have b5:=g2 (!(membersB (Dv w).1 (Dv w).2.1),21) y_
  simp only[xH,wQ]at b1 b2 b3 b5
  have c:=Hq b3
  have hp:(0≤(Dv w).1∧(Dv w).1≤4094)∧D5 (Dv w).2.1 4094=true:=by
   clear b5 g2
   unfold Dv at b4 ⊢
   split
   ·rename_i e
    rw[zE e]at b4
    have:=b4 _ (yD.2 rfl)
    simp only[xH,wQ]at this
    have:=Hq this
    exact⟨⟨by have:=this.1;dsimp only[Cq];omega,this.2⟩,Bl _⟩
   ·rename_i e
    rw[zD e]at b4
    split
    ·rename_i e2
     rw[zE e2]at b4
     split
     ·rename_i e3
      rw[zE e3]at b4
      have:=b4 _ (yD.2 rfl)
      simp only[xH,wQ]at this
      exact⟨zV,M9 this⟩
     ·rename_i e3
      rw[zD e3]at b4
      have a1:=b4 _ (List.mem_cons_self)
      have a2:=b4 _ (List.mem_cons_of_mem _ (yD.2 rfl))
      simp only[xH,wQ]at a1 a2
      have:=Hq a1
      exact⟨⟨by have:=this.1;dsimp only[Cq];omega,this.2⟩,M9 a2⟩
    ·exact⟨zV,Bl _⟩
  generalize Dv w=q at *
  obtain ⟨hv,ht⟩:=hp
  exact⟨by simp[Cm,Bo,b1,b2,b5,ht,within_iff.2 c,within_iff.2 hv,E3],⟨zM,zA,by simp[lineZ]⟩,hv,zN,⟨by have:=c.1;dsimp only;omega,c.2⟩,zB,ht,Bl _,Bl _,by simp[lineZ],C6 b1,C6 b2,zS,zS,zS⟩
 by_cases h3:kindL (wdT w 0)=3
 ·simp only[zD h1,zD h2,zE h3,yI,xG,vM,forall_eq_or_imp,forall_eq,xH,wQ,zH]at g2 ⊢
  obtain ⟨b1,b2,b3,b4⟩:=g2
  exact⟨by simp[Cm,Bo,b1,b2,b3,b4,E3],⟨zM,zA,by simp[lineZ]⟩,zV,zN,zC,zB,Bl _,Bl _,Bl _,by simp[lineZ],C6 b1,C6 b2,C6 b3,C6 b4,zS⟩
 by_cases h4:kindL (wdT w 0)=4
 ·simp only[zD h1,zD h2,zD h3,zE h4,yI,xG,vM,forall_eq_or_imp,forall_eq,xH,wQ,zH]at g2 ⊢
  obtain ⟨b1,b2,⟨b3,b4⟩,b5⟩:=g2
  have c:=Hq b2
  exact⟨by simp[Cm,Bo,b1,Ah3 b2 E,b4,b5,E3],⟨o1 (Adp _) b4,zA,by simp[lineZ]⟩,⟨by have:=c.1;dsimp only[Cq];omega,c.2⟩,zN,zC,zB,Bl _,Bl _,Bl _,by simp[lineZ],C6 b1,C6 b5,zS,zS,zS⟩
 by_cases h5:kindL (wdT w 0)=5
 ·simp only[zD h1,zD h2,zD h3,zD h4,zE h5,yI,xG,vM,forall_eq_or_imp,forall_eq,xH,wQ,zH,zQ]at g2 ⊢
  obtain ⟨b1,b2,b3⟩:=g2
  exact⟨by simp[Cm,Bo,b1,b3,E3],⟨zM,⟨Ko _,Qs _⟩,by simp[lineZ]⟩,zV,zN,zC,zB,Bl _,Bl _,Bl _,by simp[lineZ],C6 b1,zS,zS,zS,zS⟩
 by_cases h6:kindL (wdT w 0)=6
 ·simp only[zD h1,zD h2,zD h3,zD h4,zD h5,zE h6,yI,xG,vM,forall_eq_or_imp,forall_eq,xH,wQ,zH]at g2 ⊢
  obtain ⟨b1,b2,b3⟩:=g2
  have c:=Hq b2
  have d:=Hq b3
  exact⟨by simp[Cm,Bo,b1,Ah3 b2 E,Avj b3 E,E3],⟨zM,zA,by simp[lineZ]⟩,⟨by have:=c.1;dsimp only[Cq];omega,c.2⟩,⟨by have:=d.1;dsimp only[Ot];omega,d.2⟩,zC,zB,Bl _,Bl _,Bl _,by simp[lineZ],C6 b1,zS,zS,zS,zS⟩
 by_cases h7:kindL (wdT w 0)=7
 ·simp only[zD h1,zD h2,zD h3,zD h4,zD h5,zD h6,zE h7,yI,xG,vM,forall_eq_or_imp,forall_eq,xH,wQ,zH,zQ]at g2 ⊢
  obtain ⟨b1,b2,b3,b4⟩:=g2
  have d:=Hq b2
  have e:=Au8 b3
  exact⟨by simp[Cm,Bo,b1,Avj b2 E,Azd (Ab2 b3) b4,E3],⟨zM,zA,e.2⟩,zV,⟨by have:=d.1;dsimp only[Ot];omega,d.2⟩,zC,zB,Bl _,Bl _,Bl _,e.1,C6 b1,zS,zS,zS,zS⟩
 by_cases h8:kindL (wdT w 0)=8
 ·simp only[zD h1,zD h2,zD h3,zD h4,zD h5,zD h6,zD h7,zE h8,yI,xG,vM,forall_eq_or_imp,forall_eq,xH,wQ,zH]at g2 ⊢
  obtain ⟨b1,b2,b3,b4⟩:=g2
  exact⟨by simp[Cm,Bo,b1,b2,M9 b3,M9 b4,E3],⟨zM,zA,by simp[lineZ]⟩,zV,zN,zC,zB,Bl _,M9 b3,M9 b4,by simp[lineZ],C6 b1,zS,zS,zS,C6 b2⟩
 ·simp only[zD h1,zD h2,zD h3,zD h4,zD h5,zD h6,zD h7,zD h8,yI,xG,vM,forall_eq_or_imp,forall_eq,xH,wQ,zH]at g2 ⊢
  obtain ⟨b1,b2,b3,b4,b5⟩:=g2
  have c:=Hq b2
  have hb:=Z5 b5
  exact⟨by simp[Cm,Bo,b1,b3,Ah3 b2 E,b5,E3],⟨zM,Afq _,by simp[lineZ]⟩,⟨by have:=c.1;dsimp only[Cq];omega,c.2⟩,zN,zC,⟨by dsimp only;omega,by dsimp only;omega⟩,Bl _,Bl _,Bl _,by simp[lineZ],C6 b1,zS,zS,zS,C6 b3⟩
theorem Aow (l:LineM) (r:Int):Cm { l with row:=r }=Cm l:=by
 by_cases h1:l.kind=1
 ·simp[Cm,Bo,Ld,h1]
 by_cases h2:l.kind=2
 ·simp[Cm,Bo,Ld,h1,h2]
 by_cases h3:l.kind=3
 ·simp[Cm,Bo,Ld,h1,h2,h3]
 by_cases h4:l.kind=4
 ·simp[Cm,Bo,Ld,h1,h2,h3,h4]
 by_cases h5:l.kind=5
 ·simp[Cm,Bo,Ld,h1,h2,h3,h4,h5]
 by_cases h6:l.kind=6
 ·simp[Cm,Bo,Ld,h1,h2,h3,h4,h5,h6]
 by_cases h7:l.kind=7
 ·simp[Cm,Bo,Ld,h1,h2,h3,h4,h5,h6,h7]
 by_cases h8:l.kind=8
 ·simp[Cm,Bo,Ld,h1,h2,h3,h4,h5,h6,h7,h8]
 by_cases h9:l.kind=9
 ·simp[Cm,Bo,Ld,h1,h2,h3,h4,h5,h6,h7,h8,h9]
 simp[Cm,Bo,Ld,h1,h2,h3,h4,h5,h6,h7,h8,h9]
theorem LineR.row {l:LineM} (h:LineR l) (r:Int):LineR { l with row:=r } :=
 ⟨by rw[Aow];exact h.right,⟨h.ok.mac,h.ok.addr,h.ok.addrs⟩,h.vlan,h.num,h.cost,h.bits,h.tagged,h.imports,h.exports,h.addrs,h.dev,h.port,h.peer,h.far,h.name⟩
theorem Ov:∀ (rs:List ByteArray) (i:Nat) (out:List LineM),(∀ x∈out,LineR x)→∀ x∈(Kr i rs out).1,LineR x
 | [],_,_,h=>by rw[Kr];exact h
 | r::rs,i,out,h=>by
  rw[Kr]
  split
  ·intro x hx;cases hx
  ·split
   ·exact Ov rs (i+1) out h
   ·split
    ·intro x hx;cases hx
    ·rename_i h3
     refine Ov rs (i+1) _ λ x hx=>?_
     rcases yP.1 hx with hx | hx
     ·exact h x hx
     ·rw[yD.1 hx]
      exact Anu q_
theorem Vx (b:List UInt8):∀ x∈(textT b).1,LineR x:=by
 unfold textT
 split
 ·intro x hx;cases hx
 ·exact Ov _ 0 [] y_
end Go.Sy.YtiijbikecbjdaaaGreatDoor
namespace Go.Sy.YtiijbikecbjdaaaGreatDoor
open Go.Proofs
attribute [local irreducible] Go.Sy.G Go.Sy.DR
set_option maxRecDepth 100000
set_option maxHeartbeats 4000000
theorem LineR.w {l:LineM} (h:LineR l):LineW l where
 fin:=by
  have e:∀ {l:List Int} {m:Int},D5 l m=true→m≤65535→l.length≤100000:=λ {l} {m} hl hm=>by
   rcases listOK_iff.1 hl with h | h
   ·rw[h];exact xZ _
   ·have:=(rising_iff.1 h).2.2.2;omega
  exact⟨e h.tagged j_,e h.imports j_,e h.exports j_,by have:=h.addrs;omega⟩
 ok:=h.ok
 dev:=by have:=h.dev;omega
 port:=by have:=h.port;omega
 peer:=by have:=h.peer;omega
 far:=by have:=h.far;omega
 name:=by have:=h.name;omega
theorem Vy:∀ (rs:List ByteArray) (i:Nat) (out:List LineM),(Kr i rs out).1.length≤out.length+rs.length
 | [],_,out=>by rw[Kr];simp
 | r::rs,i,out=>by
  rw[Kr]
  split
  ·simp
  ·split
   ·have:=Vy rs (i+1) out;rw[yN];omega
   ·split
    ·simp
    ·have:=Vy rs (i+1) (out++[(Ce (wordsT r).1 ((i:Int)+1)).1])
     rw[yE,yK]at this
     rw[yN];omega
theorem Avw (b:List UInt8):(textT b).1.length≤400:=by
 have h:=(L9 b).1
 unfold textT
 split
 ·simp
 ·have:=Vy (rowsT b).1 0 []
  rw[xB]at this
  omega
theorem Alr (b:List UInt8) (hb:b.length≤1000000):Sp 10 [.sl 1 Ah b] (.tup [Al (netTextT b).1,Aa (netTextT b).2.1,Aa (netTextT b).2.2]):=cT F10 Tryz.ntmps10 λ F hF=>by
 have q1:=Aso b hb
 have q2:=Atx (textT b).1 (λ x hx=>(Vx b x hx).w) (by have:=Avw b;omega)
 have hres:=netTextT.eq_1 b
 generalize netTextT b=res at *
 generalize textT b=t at *
 refine T ?_
 refine C q1 F19 ?_
 refine T ?_
 constructor<;>intro h
 ·have hne:t.2.2≠0:=by intro e;rw[e]at h;cases h
  rw[zE hne]at hres
  subst hres
  clear h
  refine T ?_
  refine Ai 2 (Cw emptyN) E vL ?_
  exact D
 ·have he:t.2.2=0:=by simpa using h
  rw[zD (λ hh=>hh he)]at hres
  subst hres
  clear h
  refine T ?_
  refine C q2 F20 ?_
  exact D
end Go.Sy.YtiijbikecbjdaaaGreatDoor
