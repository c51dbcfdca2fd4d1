/-
  E9 E20 E10 E11 E12 E13 E14 E15 R1 R2 A5 A7 Sy29 E21 E22 E23 E24 E25 E26 E27 E28 E30 B0 D1 N8 N9 N10: parts of a proof, joined by program.
-/
import Derived.Test.YteinjapglfkamaaGreatXA3
import Derived.Laws.Bits64b
namespace Go.Sy.YteinjapglfkamaaGreat
open Go.Proofs
attribute [local irreducible] Go.Sy.G Go.Sy.DR
set_option maxRecDepth 20000
set_option maxHeartbeats 4000000
theorem Ji (l:List Int) (p:Int→Bool) (f:FuncId) (first cap:List SV) (hc:(SV.clo (.func f) first cap).inn []=true) (hf:∀ x∈l,Hz Tryz.prog f (first++[Aa x]++cap) (Ad (p x))) (hl:An l) :
  Sy.Spec Tryz.prog 362 [.sl 1 Aa l,.clo (.func f) first cap] [] (Aa (Ct p l)) []:=Ab Γ hm 100 F362 Tryz.ntmps362 rfl fun F hF=>by
 unfold An at hl
 have hin:∀ x:Int,B8 [] (first++[Aa x]++cap)=true:=fun x=>Cr hc rfl
 conv=>whnf
 refine Ay l.length (fun j=>Dk (fun _ x=>!(p x)) l j) (fun j=>[(0,.sl 1 Aa l),(1,.clo (.func f) first cap),(7,Aa l.length),(8,Aa j)]) (fun _=>[]) [] (A2 _ _) ⟨⟨E,E,Bb _,hc,E,E,E,E,Y⟩,Y,E,E⟩ ?_
 intro j hj hI
 refine rg ?_;conv=>whnf
 refine⟨fun h=>?_,fun h=>?_⟩
 ·have h:=of_decide_eq_true h
  have hj2:j<l.length:=by omega
  refine rg ?_;conv=>whnf
  refine⟨E,by omega,by omega,?_⟩
  conv=>whnf
  refine D7 (hf l[j] (List.getElem_mem hj2)) E E E (by simp only[hin];rfl) E E ?_
  refine rg ?_;conv=>whnf
  refine⟨fun h2=>?_,fun h2=>?_⟩
  ·refine rg ?_;conv=>whnf
   refine Ac E (.cons .tmp .nil) (congrArg Aa ?_) E
   exact Dh hj2 (fun i hi hij=>by simpa using hI i hi hij) h2
  ·refine rg ?_;conv=>whnf
   refine⟨by unfold I64;omega,?_⟩
   conv=>whnf
   exact Av [] hI hj2 (Ax hI hj2 (by simp[h2])) ⟨⟨E,E,Bb _,hc,E,E,E,E,Y⟩,Y,E,E⟩
 ·have h:=of_decide_eq_false h
  refine rg ?_;conv=>whnf
  refine Ac E (.cons .tmp .nil) (congrArg Aa ?_) E
  exact Ea (fun i hi=>by simpa using hI i hi qn)
theorem Tp (l:List Int) (p:Int→Bool) (f:FuncId) (first cap:List SV) (hc:(SV.clo (.func f) first cap).inn []=true) (hf:∀ x∈l,Hz Tryz.prog f (first++[Aa x]++cap) (Ad (p x))) (hl:An l) :
  Sy.Spec Tryz.prog 384 [.sl 1 Aa l,.clo (.func f) first cap] [] (Ad (decide (0≤Ct p l))) []:=Ab Γ hm 100 F384 Tryz.ntmps384 rfl fun F hF=>by
 have h0:B8 [] [.sl 1 Aa l,.clo (.func f) first cap]=true:=by simp only[B8,hc];rfl
 conv=>whnf
 refine Ag (Ji l p f first cap hc hf hl) F362 E E (by simp only[h0];rfl) E E ?_
 refine rg ?_;conv=>whnf
 exact Ac E (.cons .tmp .nil) E E
theorem Xq (l:List Irb) (p:Irb→Bool) (f:FuncId) (first cap:List SV) (hc:(SV.clo (.func f) first cap).inn []=true) (hf:∀ x∈l,Hz Tryz.prog f (first++[Cg x]++cap) (Ad (p x))) (hl:An l) :
  Sy.Spec Tryz.prog 272 [.sl 5 Cg l,.clo (.func f) first cap] [] (Aa (Ct p l)) []:=Ab Γ hm 100 F272 Tryz.ntmps272 rfl fun F hF=>by
 unfold An at hl
 have hin:∀ x:Irb,B8 [] (first++[Cg x]++cap)=true:=fun x=>Cr hc rfl
 ((conv=>whnf);repeat((first|refine aF ?_|refine aT ?_);(first|refine rG Γ hm ?_|refine rD Γ hm qq ?_);conv=>whnf))
 refine Ay l.length (fun j=>Dk (fun _ x=>!(p x)) l j) (fun j=>[(0,.sl 5 Cg l),(1,.clo (.func f) first cap),(7,Aa l.length),(8,Aa j)]) (fun _=>[]) [] (A2 _ _) ⟨⟨E,E,Bb _,hc,E,E,E,E,Y⟩,Y,E,E⟩ ?_
 intro j hj hI
 ((first|refine rG Γ hm ?_|refine rD Γ hm qq ?_);(conv=>whnf);repeat((first|refine aF ?_|refine aT ?_);(first|refine rG Γ hm ?_|refine rD Γ hm qq ?_);conv=>whnf))
 refine⟨fun h=>?_,fun h=>?_⟩
 ·have h:=of_decide_eq_true h
  have hj2:j<l.length:=by omega
  ((first|refine rG Γ hm ?_|refine rD Γ hm qq ?_);(conv=>whnf);repeat((first|refine aF ?_|refine aT ?_);(first|refine rG Γ hm ?_|refine rD Γ hm qq ?_);conv=>whnf))
  refine⟨E,by omega,by omega,?_⟩
  ((conv=>whnf);repeat((first|refine aF ?_|refine aT ?_);(first|refine rG Γ hm ?_|refine rD Γ hm qq ?_);conv=>whnf))
  refine D7 (hf l[j] (List.getElem_mem hj2)) E E E (by simp only[hin];rfl) E E ?_
  ((first|refine rG Γ hm ?_|refine rD Γ hm qq ?_);(conv=>whnf);repeat((first|refine aF ?_|refine aT ?_);(first|refine rG Γ hm ?_|refine rD Γ hm qq ?_);conv=>whnf))
  refine⟨fun h2=>?_,fun h2=>?_⟩
  ·((first|refine rG Γ hm ?_|refine rD Γ hm qq ?_);(conv=>whnf);repeat((first|refine aF ?_|refine aT ?_);(first|refine rG Γ hm ?_|refine rD Γ hm qq ?_);conv=>whnf))
   refine Ac E (.cons .tmp .nil) (congrArg Aa ?_) E
   exact Dh hj2 (fun i hi hij=>by simpa using hI i hi hij) h2
  ·((first|refine rG Γ hm ?_|refine rD Γ hm qq ?_);(conv=>whnf);repeat((first|refine aF ?_|refine aT ?_);(first|refine rG Γ hm ?_|refine rD Γ hm qq ?_);conv=>whnf))
   refine⟨by unfold I64;omega,?_⟩
   ((conv=>whnf);repeat((first|refine aF ?_|refine aT ?_);(first|refine rG Γ hm ?_|refine rD Γ hm qq ?_);conv=>whnf))
   exact Av [] hI hj2 (Ax hI hj2 (by simp[h2])) ⟨⟨E,E,Bb _,hc,E,E,E,E,Y⟩,Y,E,E⟩
 ·have h:=of_decide_eq_false h
  ((first|refine rG Γ hm ?_|refine rD Γ hm qq ?_);(conv=>whnf);repeat((first|refine aF ?_|refine aT ?_);(first|refine rG Γ hm ?_|refine rD Γ hm qq ?_);conv=>whnf))
  refine Ac E (.cons .tmp .nil) (congrArg Aa ?_) E
  exact Ea (fun i hi=>by simpa using hI i hi qn)
theorem Ju (l:List Irb) (p:Irb→Bool) (f:FuncId) (first cap:List SV) (hc:(SV.clo (.func f) first cap).inn []=true) (hf:∀ x∈l,Hz Tryz.prog f (first++[Cg x]++cap) (Ad (p x))) (hl:An l) :
  Sy.Spec Tryz.prog 208 [.sl 5 Cg l,.clo (.func f) first cap] [] (Ad (decide (0≤Ct p l))) []:=Ab Γ hm 100 F208 Tryz.ntmps208 rfl fun F hF=>by
 have h0:B8 [] [.sl 5 Cg l,.clo (.func f) first cap]=true:=by simp only[B8,hc];rfl
 ((conv=>whnf);repeat((first|refine aF ?_|refine aT ?_);(first|refine rG Γ hm ?_|refine rD Γ hm qq ?_);conv=>whnf))
 refine Ag (Xq l p f first cap hc hf hl) F272 E E (by simp only[h0];rfl) E E ?_
 ((first|refine rG Γ hm ?_|refine rD Γ hm qq ?_);(conv=>whnf);repeat((first|refine aF ?_|refine aT ?_);(first|refine rG Γ hm ?_|refine rD Γ hm qq ?_);conv=>whnf))
 exact Ac E (.cons .tmp .nil) E E
theorem An2 (v:Vrf) (hv:An v.imports) (t:Int):Sy.Spec Tryz.prog 383 [Aa t,.ref 5 (Cv v) 0] [] (Ad (inB v.imports t)) []:=Ab Γ hm 100 F383 Tryz.ntmps383 rfl fun F hF=>by
 have q:=C2 v.imports t hv
 conv=>whnf
 refine Ag q F25 E E E E E ?_
 refine rg ?_;conv=>whnf
 exact Ac E (.cons .tmp .nil) E E
def leaksB (n:Net) (i k:Int):Bool:=i == k || (nth n.vrfs i).dev == (nth n.vrfs k).dev && decide (0≤Ct (inB (nth n.vrfs k).imports) (nth n.vrfs i).exports)
theorem Afa (n:Net) (hn:n.Fin) (hb:Ae n=true) (i k:Int) (hi:0≤i∧i.toNat<n.vrfs.length) (hk:0≤k∧k.toNat<n.vrfs.length) :
  Sy.Spec Tryz.prog 372 [Al n,Aa i,Aa k] [] (Ad (leaksB n i k)) []:=Ab Γ hm 100 F372 Tryz.ntmps372 rfl fun F hF=>by
 have hr:=Be n hn
 rw[hb]at hr
 have him:=hn.imports _ (List.getElem_mem hk.2)
 have hex:=hn.exports _ (List.getElem_mem hi.2)
 rw[leaksB,Ah hi.2,Ah hk.2]
 obtain ⟨a,ha⟩:∃ a,n.vrfs[i.toNat]'hi.2=a:=⟨_,rfl⟩
 obtain ⟨b,hbb⟩:∃ b,n.vrfs[k.toNat]'hk.2=b:=⟨_,rfl⟩
 rw[ha]at hex ⊢
 rw[hbb]at him ⊢
 have q:=Tp a.exports (inB b.imports) 383 [] [.ref 5 (Cv b) 0] rfl (fun t _=>⟨⟨_,_,F383⟩,An2 b him t⟩) hex
 conv=>whnf
 refine⟨fun h=>absurd (of_decide_eq_true h) qn,fun _=>?_⟩
 refine rg ?_;conv=>whnf
 refine⟨fun h=>absurd (of_decide_eq_true h) qn,fun _=>?_⟩
 refine rg ?_;conv=>whnf
 refine⟨fun h=>absurd (of_decide_eq_true h) qn,fun _=>?_⟩
 refine rg ?_;conv=>whnf
 refine⟨fun h=>absurd (of_decide_eq_true h) qn,fun _=>?_⟩
 refine rg ?_;conv=>whnf
 refine Ag hr F23 E E E E E ?_
 (refine rg ?_;(conv=>whnf);refine aF ?_;refine rg ?_;conv=>whnf)
 refine⟨E,hi.1,hi.2,?_⟩
 rw[ha]
 conv=>whnf
 refine⟨E,hk.1,hk.2,?_⟩
 rw[hbb]
 conv=>whnf
 refine⟨qq,?_⟩
 conv=>whnf
 refine⟨fun h=>?_,fun h=>?_⟩
 ·rw[h,Bool.true_or]
  refine rg ?_;conv=>whnf
  exact Ac E (.cons .tmp .nil) E E
 rw[h,Bool.false_or]
 refine rg ?_;conv=>whnf
 refine⟨fun h=>?_,fun h=>?_⟩
 ·rw[h,Bool.true_and]
  refine A3 8 5 (Cv b) E E E ?_
  refine rg ?_;conv=>whnf
  refine Ag q F384 E E E E E ?_
  refine rg ?_;conv=>whnf
  exact Ac E (.cons .tmp .nil) E E
 ·rw[h,Bool.false_and]
  refine rg ?_;conv=>whnf
  exact Ac E (.cons .tmp .nil) E E
def Dr (n:Net) (i:Int):Int:=(nth n.domains (nth n.irbs i).domain).dev
theorem e_irb {n:Net} (h:Ae n=true) {i:Nat} (hi:i<n.irbs.length):Vt n i n.irbs[i]=true:=by
 simp only[Ae,Bool.and_eq_true]at h
 exact allB_iff.1 h.2 i hi
theorem B4 {n:Net} (h:Ae n=true) {i:Nat} (hi:i<n.irbs.length) :
  (0≤n.irbs[i].domain∧n.irbs[i].domain.toNat<n.domains.length)∧(0≤n.irbs[i].vrf∧n.irbs[i].vrf.toNat<n.vrfs.length)∧(0≤n.irbs[i].bits∧n.irbs[i].bits≤32):=by
 have:=e_irb h hi
 simp only[Vt,Aj,Bool.and_eq_true,decide_eq_true_eq]at this
 omega
theorem Ix (n:Net) (hb:Ae n=true) (i:Int) (hi:0≤i∧i.toNat<n.irbs.length):Sy.Spec Tryz.prog 326 [Al n,Aa i] [] (Aa (Dr n i)) []:=Ab Γ hm 100 F326 Tryz.ntmps326 rfl fun F hF=>by
 have hf:=(B4 hb hi.2).1
 rw[Dr,Ah hi.2]
 obtain ⟨x,hx⟩:∃ x,n.irbs[i.toNat]'hi.2=x:=⟨_,rfl⟩
 rw[hx]at hf ⊢
 rw[Ah hf.2]
 obtain ⟨d,hd⟩:∃ d,n.domains[x.domain.toNat]'hf.2=d:=⟨_,rfl⟩
 rw[hd]
 conv=>whnf
 refine⟨E,hi.1,hi.2,?_⟩
 rw[hx]
 conv=>whnf
 refine⟨E,hf.1,hf.2,?_⟩
 rw[hd]
 conv=>whnf
 refine⟨qq,?_⟩
 conv=>whnf
 exact Ac E (.cons .tmp .nil) E E
def Ws (n:Net) (i k:Int):Bool:=Dr n i == Dr n k && leaksB n (nth n.irbs k).vrf (nth n.irbs i).vrf
theorem Afk (n:Net) (hn:n.Fin) (hb:Ae n=true) (i k:Int) (hi:0≤i∧i.toNat<n.irbs.length) (hk:0≤k∧k.toNat<n.irbs.length) :
  Sy.Spec Tryz.prog 328 [Al n,Aa i,Aa k] [] (Ad (Ws n i k)) []:=Ab Γ hm 100 F328 Tryz.ntmps328 rfl fun F hF=>by
 have q1:=Ix n hb i hi
 have q2:=Ix n hb k hk
 have f1:=(B4 hb hi.2).2.1
 have f2:=(B4 hb hk.2).2.1
 have q3:=Afa n hn hb _ _ f2 f1
 rw[Ws,Ah hi.2,Ah hk.2]
 obtain ⟨x,hx⟩:∃ x,n.irbs[i.toNat]'hi.2=x:=⟨_,rfl⟩
 obtain ⟨y,hy⟩:∃ y,n.irbs[k.toNat]'hk.2=y:=⟨_,rfl⟩
 rw[hx,hy]at q3
 rw[hx,hy]
 generalize Dr n i=di at *
 generalize Dr n k=dk at *
 conv=>whnf
 refine Aq q1 F326 E E E qq E ?_
 refine rd qq ?_;conv=>whnf
 refine Aq q2 F326 E E E qq E ?_
 refine rd qq ?_;conv=>whnf
 refine⟨fun h=>?_,fun h=>?_⟩
 ·rw[h,Bool.true_and]
  refine rd qq ?_;conv=>whnf
  refine⟨E,hk.1,hk.2,?_⟩
  rw[hy]
  conv=>whnf
  refine⟨E,hi.1,hi.2,?_⟩
  rw[hx]
  conv=>whnf
  refine Aq q3 F372 E E E qq E ?_
  refine rd qq ?_;conv=>whnf
  refine⟨qq,?_⟩
  conv=>whnf
  exact Ac E (.cons .tmp .nil) E E
 ·rw[h,Bool.false_and]
  refine rd qq ?_;conv=>whnf
  refine⟨qq,?_⟩
  conv=>whnf
  exact Ac E (.cons .tmp .nil) E E
structure Hop where
 (kind port domain addr:Int)
abbrev A6 (h:Hop):SV:=.agg [Aa h.kind,Aa h.port,Aa h.domain,Bj h.addr]
instance:Inhabited Hop:=⟨⟨0,0,0,0⟩⟩
def Qi (n:Net) (d:Int):Prop:=(0≤d∧d<n.domains.length)∧Ae n=true
instance (n:Net) (d:Int):Decidable (Qi n d):=inferInstanceAs (Decidable (_∧_))
theorem Ac5 (n:Net) (hn:n.Fin) (d:Int):Sy.Spec Tryz.prog 148 [Al n,Aa d] [] (Ad (decide (Qi n d))) []:=Ab Γ hm 100 F148 Tryz.ntmps148 rfl fun F hF=>by
 have hr:=Be n hn
 conv=>whnf
 refine⟨fun h=>?_,fun h=>?_⟩
 ·have h1:0≤d:=of_decide_eq_true h
  refine A3 2 8 (Al n) E E E ?_
  refine rg ?_;conv=>whnf
  refine⟨fun h=>?_,fun h=>?_⟩
  ·have h2:d<n.domains.length:=of_decide_eq_true h
   refine rg ?_;conv=>whnf
   refine Ag hr F23 E E E E E ?_
   refine rg ?_;conv=>whnf
   refine Ac E (.cons .tmp .nil) (congrArg Ad ?_) E
   cases hb:Ae n<;>simp[Qi,h1,h2,hb]
  ·have h2:¬ d<n.domains.length:=of_decide_eq_false h
   refine rg ?_;conv=>whnf
   refine Ac E (.cons .tmp .nil) (congrArg Ad ?_) E
   simp[Qi,h2]
 ·have h1:¬ 0≤d:=of_decide_eq_false h
  (refine rg ?_;(conv=>whnf);refine aF ?_;refine rg ?_;conv=>whnf)
  refine Ac E (.cons .tmp .nil) (congrArg Ad ?_) E
  simp[Qi,h1]
def linkHop (n:Net) (d p:Int):Option Hop:=if (linkDomT n p (nth n.domains d).vlan).2=true then some ⟨1,p,(linkDomT n p (nth n.domains d).vlan).1,0⟩ else none
def E8 (p:Int):Hop:=⟨2,0,p,0⟩
def hopsL (n:Net) (d:Int):List Hop:=(Bd n d).filterMap (linkHop n d)++(nth n.domains d).peers.map E8
def E3 (n:Net) (d:Int):List Hop:=if Qi n d then hopsL n d else []
theorem S4 {n:Net} {d:Int} {l:List Int} {j:Nat} {p:Int} (h:j<l.length) (hp:l[j]=p):(l.take (j+1)).filterMap (linkHop n d) =
  (l.take j).filterMap (linkHop n d)++(match linkHop n d p with | some h=>[h] | none=>[]):=by
 subst hp
 rw[List.take_add_one,List.getElem?_eq_getElem h,List.filterMap_append]
 cases hh:linkHop n d l[j]<;>simp[hh]
theorem Afs (n:Net) (hn:n.Fin) (d:Int):Sy.Spec Tryz.prog 95 [Al n,Aa d] [] (.sl 4 A6 (E3 n d)) []:=Ab Γ hm 100 F95 Tryz.ntmps95 rfl fun F hF=>by
 have hp:=Ac5 n hn d
 have hm2:=J4 n hn d
 have hms:=C5 n hn d
 unfold An at hms
 conv=>whnf
 refine A3 2 8 (Al n) E E E ?_
 refine rg ?_;conv=>whnf
 refine Ag hp F148 E E E E E ?_
 by_cases hd:Qi n d
 rotate_left
 ·rw[E3,if_neg hd,decide_eq_false hd]
  (refine rg ?_;(conv=>whnf);refine aT ?_;refine rg ?_;conv=>whnf)
  refine Ap 4 4 A6 E ?_
  refine rg ?_;conv=>whnf
  exact Ac E (.cons .tmp .nil) E E
 rw[E3,if_pos hd,decide_eq_true hd]
 have hk:d.toNat<n.domains.length:=by have:=hd.1;omega
 have h0:0≤d:=hd.1.1
 have hpe:=hn.peers _ (List.getElem_mem hk)
 unfold An at hpe
 have hh:=hopsL.eq_1 n d
 have hlh:=linkHop.eq_1 n d
 have hsn:=fun j p h hp=>S4 (n:=n) (d:=d) (l:=Bd n d) (j:=j) (p:=p) h hp
 have hfl:∀ j,((Bd n d).take j |>.filterMap (linkHop n d)).length≤(Bd n d).length:=fun j=>by
  refine Nat.le_trans (List.length_filterMap_le _ _) ?_
  rw[List.length_take];omega
 have hall:(Bd n d).take (Bd n d).length=Bd n d:=List.take_length
 rw[Ah hk]at hh hlh
 obtain ⟨x,hx⟩:∃ x,n.domains[d.toNat]'hk=x:=⟨_,rfl⟩
 rw[hx]at hh hlh hpe
 generalize hopsL n d=res at *
 generalize Bd n d=mem at *
 (refine rg ?_;(conv=>whnf);refine aF ?_;refine rg ?_;conv=>whnf)
 refine Ag hm2 F26 E E E E E ?_
 refine rg ?_;conv=>whnf
 refine B7 5 1000 4 A6 E E ?_
 refine Aw mem.length (fun j=>[(1,Aa d),(2,.ref 8 (Al n) 0),(5,.osl 1000),(18,.sl 1 Aa mem),(19,Aa mem.length),(20,Aa j)]) (fun j=>[(1000,.row 4 A6 ((mem.take j).filterMap (linkHop n d)))]) []
  ⟨⟨rfl,rfl,rfl,rfl,rfl,rfl,rfl,rfl,rfl,rfl,rfl,rfl,trivial⟩,⟨.inl rfl,rfl,trivial⟩,rfl,rfl⟩ ?_
 intro j hj
 have hflj:=hfl j
 refine rg ?_;conv=>whnf
 refine⟨fun h=>?_,fun h=>?_⟩
 ·have hlt:j<mem.length:=by simpa using h
  have hj0:((j:Nat):Int).toNat<mem.length:=by simpa using hlt
  obtain ⟨p,hp'⟩:∃ p,mem[((j:Nat):Int).toNat]'hj0=p:=⟨_,rfl⟩
  have hs:=hsn j p hlt hp'
  have q:=Aa6 n hn p x.vlan
  rw[hlh p]at hs
  generalize linkDomT n p x.vlan=ld at *
  obtain ⟨to,ok⟩:=ld
  refine rg ?_;conv=>whnf
  refine⟨E,by omega,hj0,?_⟩
  rw[hp']
  conv=>whnf
  refine⟨E,h0,hk,?_⟩
  rw[hx]
  conv=>whnf
  refine Aq q F149 E E E qq E ?_
  refine rd qq ?_;conv=>whnf
  refine⟨qq,?_⟩
  conv=>whnf
  dsimp only at hs
  refine⟨fun h=>?_,fun h=>?_⟩<;>(have h:ok=_:=h;subst h)
  ·refine rg ?_;conv=>whnf
   refine Ai (Am Γ.toTy 42 E E E E E (.row E) (.lit (e:=A6) (l:=[⟨1,p,to,0⟩]) E E) qy (by simp;omega) (by simp;omega)) E E ?_
   refine rg ?_;conv=>whnf
   refine⟨by unfold I64;omega,?_⟩
   conv=>whnf
   exact Ar [(1000,42)] hlt ⟨⟨E,E,E,E,E,E,E,E,E,E,E,E,Y⟩,⟨.inl (congrArg (Ob.row 4 A6) hs),E,Y⟩,E,E⟩
  ·refine rg ?_;conv=>whnf
   refine⟨by unfold I64;omega,?_⟩
   conv=>whnf
   exact Ar [] hlt ⟨⟨E,E,E,E,E,E,E,E,E,E,E,E,Y⟩,⟨.inl (congrArg (Ob.row 4 A6) (hs.trans (List.append_nil _))),E,Y⟩,E,E⟩
 ·have:j=mem.length:=by have:=of_decide_eq_false h;omega
  subst this
  rw[hall]at hflj ⊢
  generalize mem.filterMap (linkHop n d)=first at *
  refine rg ?_;conv=>whnf
  refine⟨E,h0,hk,?_⟩
  rw[hx]
  conv=>whnf
  refine Aw x.peers.length (fun j=>[(5,.osl 1000),(49,.sl 1 Aa x.peers),(50,Aa x.peers.length),(51,Aa j)]) (fun j=>[(1000,.row 4 A6 (first++(x.peers.take j).map E8))]) []
   ⟨⟨rfl,rfl,rfl,rfl,rfl,rfl,rfl,rfl,trivial⟩,⟨.inl (congrArg (Ob.row 4 A6) (List.append_nil _)),rfl,trivial⟩,rfl,rfl⟩ ?_
  intro j hj
  refine rg ?_;conv=>whnf
  refine⟨fun h=>?_,fun h=>?_⟩
  ·have hlt:j<x.peers.length:=by simpa using h
   have hj0:((j:Nat):Int).toNat<x.peers.length:=by simpa using hlt
   obtain ⟨p,hp'⟩:∃ p,x.peers[((j:Nat):Int).toNat]'hj0=p:=⟨_,rfl⟩
   have hs:(first++(x.peers.take j).map E8)++[⟨2,0,p,0⟩]=first++(x.peers.take (j+1)).map E8:=by
    rw[List.take_add_one,List.getElem?_eq_getElem hlt,List.map_append,List.append_assoc]
    congr 2
    simp only[Option.toList,List.map_cons,List.map_nil,E8]
    congr 2
    exact hp'.symm
   refine rg ?_;conv=>whnf
   refine⟨E,by omega,hj0,?_⟩
   rw[hp']
   conv=>whnf
   refine Ai (Am Γ.toTy 59 E E E E E (.row E) (.lit (e:=A6) (l:=[⟨2,0,p,0⟩]) E E) qy (by simp;omega) (by simp;omega)) E E ?_
   refine rg ?_;conv=>whnf
   refine⟨by unfold I64;omega,?_⟩
   conv=>whnf
   exact Ar [(1000,59)] hlt ⟨⟨E,E,E,E,E,E,E,E,Y⟩,⟨.inl (congrArg (Ob.row 4 A6) hs.symm),E,Y⟩,E,E⟩
  ·have:j=x.peers.length:=by have:=of_decide_eq_false h;omega
   subst this
   refine rg ?_;conv=>whnf
   refine Au 1000 E ?_
   refine rg ?_;conv=>whnf
   refine Ac E (.cons .tmp .nil) ?_ E
   rw[hh,List.take_length]
   rfl
abbrev Add (a b:Int):SV:=.agg [Bj a,Aa b]
theorem Ajm (a b:Int) (h:0≤b∧b≤32):Sy.Spec Tryz.prog 269 [Add a b] [] (Ad true) []:=Ab Γ hm 100 F269 Tryz.ntmps269 rfl fun F hF=>by
 conv=>whnf
 refine⟨fun _=>?_,fun h2=>absurd (of_decide_eq_false h2) qn⟩
 refine rg ?_;conv=>whnf
 refine Ac E (.cons .tmp .nil) (congrArg Ad ?_) E
 simp;omega
def Acw (b:Int):Int:=IntKind.u32.wrap (IntKind.u32.wrap (1 * 2 ^ (min (32-b).toNat IntKind.u32.bits))-1)
theorem Al4 (a b:Int) (h:0≤b∧b≤32):Sy.Spec Tryz.prog 270 [Add a b] [] (Bj (Acw b)) []:=Ab Γ hm 100 F270 Tryz.ntmps270 rfl fun F hF=>by
 conv=>whnf
 refine⟨by unfold I64;omega,?_⟩
 conv=>whnf
 refine⟨by omega,?_⟩
 conv=>whnf
 exact Ac E (.cons .tmp .nil) E E
def Vx (a b x:Int):Bool:=bits .andNot .u32 (bits .xor .u32 a x) (Acw b) == 0
theorem Anv (a b x:Int) (h:0≤b∧b≤32):Sy.Spec Tryz.prog 327 [Add a b,Bj x] [] (Ad (Vx a b x)) []:=Ab Γ hm 100 F327 Tryz.ntmps327 rfl fun F hF=>by
 have q1:=Ajm a b h
 have q2:=Al4 a b h
 rw[Vx]
 generalize Acw b=r at *
 conv=>whnf
 refine Aq q1 F269 E E E qq E ?_
 (refine rd qq ?_;(conv=>whnf);refine aT ?_;refine rd qq ?_;conv=>whnf)
 refine Aq q2 F270 E E E qq E ?_
 refine rd qq ?_;conv=>whnf
 refine⟨qq,?_⟩
 conv=>whnf
 exact Ac E (.cons .tmp .nil) E E
def Ow (c:Int→Int→Int) (l:List Int) (j:Nat):Int:=((l.drop 1).take j).foldl (fun m x=>if 0<c x m then x else m) (nth l 0)
theorem Uj (c:Int→Int→Int) (l:List Int) (j:Nat) (h:j+1<l.length):Ow c l (j+1)=if 0<c l[j+1] (Ow c l j) then l[j+1] else Ow c l j:=by
 have hl:j<(l.drop 1).length:=by rw[List.length_drop];omega
 rw[Ow,List.take_succ_eq_append_getElem hl,List.foldl_append]
 have e:(l.drop 1)[j]=l[j+1]:=by rw[List.getElem_drop];congr 1;omega
 simp only[List.foldl_cons,List.foldl_nil,e]
 rfl
theorem Mi (c:Int→Int→Int) (l:List Int) (h:0<l.length):∀ j,j+1≤l.length→Ow c l j∈l
 | 0,_=>by
  rw[Ow,List.take_zero,List.foldl_nil,Ah (l:=l) (i:=0) (by simpa using h)]
  exact List.getElem_mem _
 | j+1,hj=>by
  rw[Uj c l j qn]
  split
  ·exact List.getElem_mem _
  ·exact Mi c l h j qn
theorem Amj (l:List Int) (c:Int→Int→Int) (f:FuncId) (first cap:List SV) (hc:(SV.clo (.func f) first cap).inn []=true) (h0:0<l.length) (hl:An l)
  (hf:∀ x∈l,∀ y∈l,Hz Tryz.prog f (first++[Aa x,Aa y]++cap) (Aa (c x y))) :
  Sy.Spec Tryz.prog 330 [.sl 1 Aa l,.clo (.func f) first cap] [] (Aa (Ow c l (l.length-1))) []:=Ab Γ hm 100 F330 Tryz.ntmps330 rfl fun F hF=>by
 unfold An at hl
 have hin:∀ x y:Int,B8 [] (first++[Aa x,Aa y]++cap)=true:=fun x y=>Cr hc rfl
 have hmem:=Mi c l h0
 have hsucc:=Uj c l
 have hz:Ow c l 0=l[0]:=by rw[Ow,List.take_zero,List.foldl_nil,Ah (l:=l) (i:=0) (by simpa using h0)];rfl
 generalize Ow c l=m at *
 conv=>whnf
 refine⟨fun h=>absurd (of_decide_eq_true h) qn,fun _=>?_⟩
 refine rg ?_;conv=>whnf
 refine⟨E,by omega,by simpa using h0,?_⟩
 conv=>whnf
 refine Aw (l.length-1) (fun j=>[(0,.sl 1 Aa l),(1,.clo (.func f) first cap),(5,Aa (m j)),(6,Aa ((j:Int)+1))]) (fun _=>[]) []
  ⟨⟨rfl,rfl,Bb _,hc,congrArg Aa hz,rfl,rfl,rfl,trivial⟩,trivial,rfl,rfl⟩ ?_
 intro j hj
 have hmj:=hmem j qn
 have hsj:=hsucc j
 refine rg ?_;conv=>whnf
 refine⟨fun h=>?_,fun h=>?_⟩
 ·have hlt:j+1<l.length:=by have:=of_decide_eq_true h;omega
  have hsj:=hsj hlt
  have hk:((j:Int)+1).toNat<l.length:=by omega
  have e1:l[((j:Int)+1).toNat]'hk=l[j+1]:=by congr 1
  obtain ⟨x,hx⟩:∃ x,l[j+1]=x:=⟨_,rfl⟩
  have hxm:x∈l:=hx ▸ List.getElem_mem hlt
  rw[hx]at e1 hsj
  refine rg ?_;conv=>whnf
  refine⟨E,by omega,hk,?_⟩
  rw[e1]
  conv=>whnf
  refine D7 (hf x hxm (m j) hmj) E E E (by simp only[hin];rfl) E E ?_
  refine rg ?_;conv=>whnf
  refine⟨fun h2=>?_,fun h2=>?_⟩
  ·rw[if_pos (of_decide_eq_true h2)]at hsj
   refine rg ?_;conv=>whnf
   refine⟨E,by omega,hk,?_⟩
   rw[e1]
   conv=>whnf
   refine⟨by unfold I64;omega,?_⟩
   conv=>whnf
   exact Ar [] qn ⟨⟨E,E,Bb _,hc,congrArg Aa hsj,E,congrArg Aa qn,E,Y⟩,Y,E,E⟩
  ·rw[if_neg (of_decide_eq_false h2)]at hsj
   refine rg ?_;conv=>whnf
   refine⟨by unfold I64;omega,?_⟩
   conv=>whnf
   exact Ar [] qn ⟨⟨E,E,Bb _,hc,congrArg Aa hsj,E,congrArg Aa qn,E,Y⟩,Y,E,E⟩
 ·have:j=l.length-1:=by have:=of_decide_eq_false h;omega
  subst this
  refine rg ?_;conv=>whnf
  exact Ac E (.cons .tmp .nil) E E
def Xf (n:Net) (irb i:Int):Int:=if (nth n.irbs i).vrf=(nth n.irbs irb).vrf then 1 else 0
abbrev InIrbs (n:Net) (i:Int):Prop:=0≤i∧i.toNat<n.irbs.length
theorem Ads (n:Net) (irb i:Int) (hi:InIrbs n i) (hk:InIrbs n irb):Sy.Spec Tryz.prog 329 [Aa i,.ref 8 (Al n) 0,.ref 1 (Aa irb) 0] [] (Aa (Xf n irb i)) []:=Ab Γ hm 100 F329 Tryz.ntmps329 rfl fun F hF=>by
 rw[Xf,Ah hi.2,Ah hk.2]
 obtain ⟨x,hx⟩:∃ x,n.irbs[i.toNat]'hi.2=x:=⟨_,rfl⟩
 obtain ⟨y,hy⟩:∃ y,n.irbs[irb.toNat]'hk.2=y:=⟨_,rfl⟩
 rw[hx,hy]
 conv=>whnf
 refine⟨E,hi.1,hi.2,?_⟩
 rw[hx]
 conv=>whnf
 refine⟨E,hk.1,hk.2,?_⟩
 rw[hy]
 conv=>whnf
 refine⟨qq,?_⟩
 conv=>whnf
 refine⟨fun h=>?_,fun h=>?_⟩
 ·rw[if_pos (by simpa using h)]
  refine rg ?_;conv=>whnf
  exact Ac E (.cons .tmp .nil) E E
 ·rw[if_neg (by simpa using h)]
  refine rg ?_;conv=>whnf
  exact Ac E (.cons .tmp .nil) E E
def cmpR (n:Net) (irb a b:Int):Int:=if (nth n.irbs a).bits≠(nth n.irbs b).bits then (nth n.irbs a).bits-(nth n.irbs b).bits else Xf n irb a-Xf n irb b
theorem V6 (n:Net) (irb i:Int):0≤Xf n irb i∧Xf n irb i≤1:=by
 unfold Xf;split<;>omega
theorem Amm (n:Net) (hb:Ae n=true) (irb a b:Int) (hk:InIrbs n irb) (ha:InIrbs n a) (hb2:InIrbs n b) :
  Sy.Spec Tryz.prog 331 [Aa a,Aa b,.ref 8 (Al n) 0,.ref 1 (.clo (.func 329) [] [.ref 8 (Al n) 0,.ref 1 (Aa irb) 0]) 0] [] (Aa (cmpR n irb a b)) []:=Ab Γ hm 100 F331 Tryz.ntmps331 rfl fun F hF=>by
 have fa:=(B4 hb ha.2).2.2
 have fb:=(B4 hb hb2.2).2.2
 have q1:=Ads n irb a ha hk
 have q2:=Ads n irb b hb2 hk
 have l1:=V6 n irb a
 have l2:=V6 n irb b
 rw[cmpR,Ah ha.2,Ah hb2.2]
 obtain ⟨x,hx⟩:∃ x,n.irbs[a.toNat]'ha.2=x:=⟨_,rfl⟩
 obtain ⟨y,hy⟩:∃ y,n.irbs[b.toNat]'hb2.2=y:=⟨_,rfl⟩
 rw[hx]at fa ⊢
 rw[hy]at fb ⊢
 generalize Xf n irb a=oa at *
 generalize Xf n irb b=ob at *
 conv=>whnf
 refine⟨E,ha.1,ha.2,?_⟩
 rw[hx]
 conv=>whnf
 refine⟨E,hb2.1,hb2.2,?_⟩
 rw[hy]
 conv=>whnf
 refine⟨qq,?_⟩
 conv=>whnf
 refine⟨fun h=>?_,fun h=>?_⟩
 ·rw[if_pos (by simpa using h)]
  refine rg ?_;conv=>whnf
  refine⟨by unfold I64;omega,?_⟩
  conv=>whnf
  exact Ac E (.cons .tmp .nil) E E
 ·rw[if_neg (by simpa using h)]
  refine rg ?_;conv=>whnf
  refine Ag5 ⟨⟨_,_,F329⟩,q1⟩ E E E E qq E ?_
  refine rd qq ?_;conv=>whnf
  refine Ag5 ⟨⟨_,_,F329⟩,q2⟩ E E E E qq E ?_
  refine rd qq ?_;conv=>whnf
  refine⟨by unfold I64;omega,?_⟩
  conv=>whnf
  refine⟨qq,?_⟩
  conv=>whnf
  exact Ac E (.cons .tmp .nil) E E
def Ej (n:Net) (irb dst:Int) (i:Nat):Bool:=Dr n i == Dr n irb && (nth n.irbs i).addr == dst
def H3 (n:Net) (irb dst:Int) (i:Nat):Bool:=Vx (nth n.irbs i).addr (nth n.irbs i).bits dst && Ws n irb i
def Ef (n:Net) (irb dst:Int):List Int:=Cw (H3 n irb dst) n.irbs.length
def lookT (n:Net) (irb dst:Int):Int × Bool :=
 if (List.range n.irbs.length).any (Ej n irb dst)=true then (0,false)
 else if Ef n irb dst=[] then (0,false) else (Ow (cmpR n irb) (Ef n irb dst) ((Ef n irb dst).length-1),true)
theorem Ah0 (n:Net) (hn:n.Fin) (hb:Ae n=true) (irb dst:Int) (hk:InIrbs n irb):Sy.Spec Tryz.prog 271 [Al n,Aa irb,Bj dst] [] (.tup [Aa (lookT n irb dst).1,Ad (lookT n irb dst).2]) []:=Ab Γ hm 100 F271 Tryz.ntmps271 rfl fun F hF=>by
 have hlk:=lookT.eq_1 n irb dst
 generalize lookT n irb dst=r at *
 have hsi:=hn.irbs
 unfold An at hsi
 have qk:=Ix n hb irb hk
 conv=>whnf
 refine A3 3 8 (Al n) E E E ?_
 refine A3 4 1 (Aa irb) E E E ?_
 refine B7 8 1000 1 Aa E E ?_
 refine Ay n.irbs.length (fun j=>∀ i,i<j→Ej n irb dst i=false) (fun j=>[(2,Bj dst),(3,.ref 8 (Al n) 0),(4,.ref 1 (Aa irb) 0),(8,.osl 1000),(13,.sl 5 Cg n.irbs),(14,Aa n.irbs.length),(15,Aa j)]) (fun j=>[(1000,.row 1 Aa (Cw (H3 n irb dst) j))]) [] (fun i hi=>absurd hi qn)
  ⟨⟨rfl,rfl,rfl,rfl,rfl,rfl,rfl,rfl,rfl,rfl,rfl,rfl,rfl,rfl,trivial⟩,⟨.inl rfl,rfl,trivial⟩,rfl,rfl⟩ ?_
 intro j hj hI
 refine rg ?_;conv=>whnf
 refine⟨fun h=>?_,fun h=>?_⟩
 ·have hlt:j<n.irbs.length:=by simpa using h
  have hij:InIrbs n (j:Int):=⟨by omega,by simpa using hlt⟩
  have qj:=Ix n hb j hij
  have hsucc:=Jl (H3 n irb dst) j
  have hfl:=D1 (H3 n irb dst) j
  have hta:Ej n irb dst j=(Dr n j == Dr n irb && (nth n.irbs j).addr == dst):=rfl
  have hwa:H3 n irb dst j=(Vx (nth n.irbs j).addr (nth n.irbs j).bits dst && Ws n irb j):=rfl
  have enj:nth n.irbs (j:Int)=n.irbs[j]:=Ah (l:=n.irbs) (i:=(j:Int)) (by simpa using hlt)
  have hf:=(B4 hb hlt).2.2
  have e1:n.irbs[(j:Int).toNat]'qn=n.irbs[j]:=rfl
  rw[enj]at hta hwa
  obtain ⟨x,hx⟩:∃ x,n.irbs[j]=x:=⟨_,rfl⟩
  rw[hx]at e1 hta hwa hf
  have q1:=Anv x.addr x.bits dst hf
  have q2:=Afk n hn hb irb j hk hij
  rw[hwa]at hsucc
  obtain ⟨u,hu⟩:∃ u,Cw (H3 n irb dst) j=u:=⟨_,rfl⟩
  rw[hu]at hsucc hfl ⊢
  refine rg ?_;conv=>whnf
  refine⟨E,by omega,by omega,?_⟩
  rw[e1]
  conv=>whnf
  refine Aq qj F326 E E E qq E ?_
  refine rd qq ?_;conv=>whnf
  refine Aq qk F326 E E E qq E ?_
  refine rd qq ?_;conv=>whnf
  refine⟨fun h2=>?_,fun h2=>?_⟩
  ·rw[h2,Bool.true_and]at hta
   refine rd qq ?_;conv=>whnf
   refine⟨qq,?_⟩
   conv=>whnf
   refine⟨fun h3=>?_,fun h3=>?_⟩
   ·have:(List.range n.irbs.length).any (Ej n irb dst)=true:=List.any_eq_true.2 ⟨j,by simpa using hlt,hta.trans h3⟩
    rw[if_pos this]at hlk
    subst hlk
    refine rg ?_;conv=>whnf
    exact Ac E (.cons .tmp (.cons .tmp .nil)) E E
   ·have hnt:=hta.trans h3
    refine rg ?_;conv=>whnf
    refine Ag q1 F327 E E E E E ?_
    refine rg ?_;conv=>whnf
    refine⟨fun h4=>?_,fun h4=>?_⟩
    ·rw[h4,Bool.true_and]at hsucc
     refine rg ?_;conv=>whnf
     refine Ag q2 F328 E E E E E ?_
     refine rg ?_;conv=>whnf
     refine⟨fun h5=>?_,fun h5=>?_⟩
     ·rw[if_pos h5]at hsucc
      refine rg ?_;conv=>whnf
      refine Ai (Am Γ.toTy 47 E E E E E (.row E) (.lit (e:=Aa) (l:=[(j:Int)]) E E) qy (by simp;omega) (by simp;omega)) E E ?_
      refine rg ?_;conv=>whnf
      refine⟨by unfold I64;omega,?_⟩
      conv=>whnf
      exact Av [(1000,47)] hI hlt (fun i hi=>if e:i=j then (by rw[e];exact hnt) else hI i qn) ⟨⟨E,E,E,E,E,E,E,E,E,E,E,E,E,E,Y⟩,⟨.inl (congrArg (Ob.row 1 Aa) hsucc),E,Y⟩,E,E⟩
     ·rw[if_neg (by simp[h5])]at hsucc
      refine rg ?_;conv=>whnf
      refine⟨by unfold I64;omega,?_⟩
      conv=>whnf
      exact Av [] hI hlt (fun i hi=>if e:i=j then (by rw[e];exact hnt) else hI i qn) ⟨⟨E,E,E,E,E,E,E,E,E,E,E,E,E,E,Y⟩,⟨.inl (congrArg (Ob.row 1 Aa) hsucc),E,Y⟩,E,E⟩
    ·rw[if_neg (by simp[h4])]at hsucc
     (refine rg ?_;(conv=>whnf);refine aF ?_;refine rg ?_;conv=>whnf)
     refine⟨by unfold I64;omega,?_⟩
     conv=>whnf
     exact Av [] hI hlt (fun i hi=>if e:i=j then (by rw[e];exact hnt) else hI i qn) ⟨⟨E,E,E,E,E,E,E,E,E,E,E,E,E,E,Y⟩,⟨.inl (congrArg (Ob.row 1 Aa) hsucc),E,Y⟩,E,E⟩
  ·have hnt:Ej n irb dst j=false:=by rw[hta,h2,Bool.false_and]
   refine rd qq ?_;conv=>whnf
   refine⟨qq,?_⟩
   ((conv=>whnf);refine aF ?_;refine rg ?_;conv=>whnf)
   refine Ag q1 F327 E E E E E ?_
   refine rg ?_;conv=>whnf
   refine⟨fun h4=>?_,fun h4=>?_⟩
   ·rw[h4,Bool.true_and]at hsucc
    refine rg ?_;conv=>whnf
    refine Ag q2 F328 E E E E E ?_
    refine rg ?_;conv=>whnf
    refine⟨fun h5=>?_,fun h5=>?_⟩
    ·rw[if_pos h5]at hsucc
     refine rg ?_;conv=>whnf
     refine Ai (Am Γ.toTy 47 E E E E E (.row E) (.lit (e:=Aa) (l:=[(j:Int)]) E E) qy (by simp;omega) (by simp;omega)) E E ?_
     refine rg ?_;conv=>whnf
     refine⟨by unfold I64;omega,?_⟩
     conv=>whnf
     exact Av [(1000,47)] hI hlt (fun i hi=>if e:i=j then (by rw[e];exact hnt) else hI i qn) ⟨⟨E,E,E,E,E,E,E,E,E,E,E,E,E,E,Y⟩,⟨.inl (congrArg (Ob.row 1 Aa) hsucc),E,Y⟩,E,E⟩
    ·rw[if_neg (by simp[h5])]at hsucc
     refine rg ?_;conv=>whnf
     refine⟨by unfold I64;omega,?_⟩
     conv=>whnf
     exact Av [] hI hlt (fun i hi=>if e:i=j then (by rw[e];exact hnt) else hI i qn) ⟨⟨E,E,E,E,E,E,E,E,E,E,E,E,E,E,Y⟩,⟨.inl (congrArg (Ob.row 1 Aa) hsucc),E,Y⟩,E,E⟩
   ·rw[if_neg (by simp[h4])]at hsucc
    (refine rg ?_;(conv=>whnf);refine aF ?_;refine rg ?_;conv=>whnf)
    refine⟨by unfold I64;omega,?_⟩
    conv=>whnf
    exact Av [] hI hlt (fun i hi=>if e:i=j then (by rw[e];exact hnt) else hI i qn) ⟨⟨E,E,E,E,E,E,E,E,E,E,E,E,E,E,Y⟩,⟨.inl (congrArg (Ob.row 1 Aa) hsucc),E,Y⟩,E,E⟩
 ·have:j=n.irbs.length:=by have:=of_decide_eq_false h;omega
  subst this
  have hno:¬ (List.range n.irbs.length).any (Ej n irb dst)=true:=fun h=>by
   obtain ⟨i,h1,h2⟩:=List.any_eq_true.1 h
   rw[hI i (by simpa using h1)]at h2
   cases h2
  rw[if_neg hno]at hlk
  have hin:∀ y∈Ef n irb dst,InIrbs n y:=fun y hy=>by
   have:=(filtI_mem (p:=H3 n irb dst) (j:=n.irbs.length)).1 hy
   exact⟨this.1,by omega⟩
  have hwl:=D1 (H3 n irb dst) n.irbs.length
  have hwe:Cw (H3 n irb dst) n.irbs.length=Ef n irb dst:=rfl
  rw[hwe]at hwl ⊢
  have q:∀ h0:0<(Ef n irb dst).length,_:=fun h0=>Amj (Ef n irb dst) (cmpR n irb) 331 [] [.ref 8 (Al n) 0,.ref 1 (.clo (.func 329) [] [.ref 8 (Al n) 0,.ref 1 (Aa irb) 0]) 0] rfl h0 (by unfold An;omega) (fun y hy z hz=>⟨⟨_,_,F331⟩,Amm n hb irb y z hk (hin y hy) (hin z hz)⟩)
  generalize Ef n irb dst=l at *
  refine Au 1000 E ?_
  refine rg ?_;conv=>whnf
  refine⟨fun h3=>?_,fun h3=>?_⟩
  ·have h4:l=[]:=by simpa using h3
   rw[if_pos h4]at hlk
   subst hlk
   refine rg ?_;conv=>whnf
   exact Ac E (.cons .tmp (.cons .tmp .nil)) E E
  ·have h4:¬ l=[]:=by simpa using h3
   rw[if_neg h4]at hlk
   have q:=q (List.length_pos_iff.2 h4)
   subst hlk
   refine rg ?_;conv=>whnf
   refine A3 11 1 (.clo (.func 329) [] [.ref 8 (Al n) 0,.ref 1 (Aa irb) 0]) E E E ?_
   refine rg ?_;conv=>whnf
   refine Ag q F330 E E E E E ?_
   refine rg ?_;conv=>whnf
   exact Ac E (.cons .tmp (.cons .tmp .nil)) E E
theorem Aar (n:Net) (hn:n.Fin) (hb:Ae n=true) (irb dst:Int) (hk:InIrbs n irb):Sy.Spec Tryz.prog 207 [Al n,Aa irb,Bj dst] [] (.tup [Aa (lookT n irb dst).1,Ad (lookT n irb dst).2]) []:=Ab Γ hm 100 F207 Tryz.ntmps207 rfl fun F hF=>by
 have hr:=Be n hn
 rw[hb]at hr
 have q:=Ah0 n hn hb irb dst hk
 generalize lookT n irb dst=r at *
 ((conv=>whnf);repeat((first|refine aF ?_|refine aT ?_);(first|refine rG Γ hm ?_|refine rD Γ hm qq ?_);conv=>whnf))
 refine⟨fun h=>absurd (of_decide_eq_true h) qn,fun _=>?_⟩
 ((first|refine rG Γ hm ?_|refine rD Γ hm qq ?_);(conv=>whnf);repeat((first|refine aF ?_|refine aT ?_);(first|refine rG Γ hm ?_|refine rD Γ hm qq ?_);conv=>whnf))
 refine⟨fun h=>absurd (of_decide_eq_true h) qn,fun _=>?_⟩
 ((first|refine rG Γ hm ?_|refine rD Γ hm qq ?_);(conv=>whnf);repeat((first|refine aF ?_|refine aT ?_);(first|refine rG Γ hm ?_|refine rD Γ hm qq ?_);conv=>whnf))
 refine Ag hr F23 E E E E E ?_
 ((first|refine rG Γ hm ?_|refine rD Γ hm qq ?_);(conv=>whnf);repeat((first|refine aF ?_|refine aT ?_);(first|refine rG Γ hm ?_|refine rD Γ hm qq ?_);conv=>whnf))
 refine Ag q F271 E E E E E ?_
 ((first|refine rG Γ hm ?_|refine rD Γ hm qq ?_);(conv=>whnf);repeat((first|refine aF ?_|refine aT ?_);(first|refine rG Γ hm ?_|refine rD Γ hm qq ?_);conv=>whnf))
 exact Ac E (.cons .tmp (.cons .tmp .nil)) E E
theorem Mj {n:Net} {irb dst:Int} (h:(lookT n irb dst).2=true):InIrbs n (lookT n irb dst).1:=by
 unfold lookT at h ⊢
 split at h
 ·cases h
 rename_i h1
 rw[if_neg h1]
 split at h
 ·cases h
 rename_i h2
 rw[if_neg h2]
 have hm:=Mi (cmpR n irb) (Ef n irb dst) (List.length_pos_iff.2 h2) ((Ef n irb dst).length-1) (by have:=List.length_pos_iff.2 h2;omega)
 have:=(filtI_mem (p:=H3 n irb dst) (j:=n.irbs.length)).1 hm
 exact⟨this.1,by omega⟩
end Go.Sy.YteinjapglfkamaaGreat
namespace Go.Sy.YteinjapglfkamaaGreat
open Go.Proofs
attribute [local irreducible] Go.Sy.G Go.Sy.DR
set_option maxRecDepth 100000
set_option maxHeartbeats 4000000
theorem Alr (i:Int) (h0:0≤i) (h5:i≤5):Sy.Spec Tryz.prog 157 [Aa i] [] (Bf (8 * (5-i))) []:=Ab Γ hm 100 F157 Tryz.ntmps157 rfl fun F hF=>by
 conv=>whnf
 refine⟨by unfold I64;omega,?_⟩
 conv=>whnf
 refine⟨by unfold I64;omega,?_⟩
 conv=>whnf
 refine Ac E (.cons .tmp .nil) (congrArg (fun z=>SV.val (.int .u64 z)) ?_) E
 rw[IntKind.wrap_u64]
 omega
def be:Nat→Nat→List UInt8
 | 0,_=>[]
 | k+1,m=>UInt8.ofNat (m / 256 ^ k)::be k m
theorem Dd (m:Nat):∀ k,(be k m).length=k
 | 0=>rfl
 | k+1=>by simp[be,Dd m k]
theorem Aby (m:Nat):∀ (k j:Nat) (h:j<k),(be k m).take (j+1)=(be k m).take j++[UInt8.ofNat (m / 256 ^ (k-1-j))]
 | 0,j,h=>by omega
 | k+1,0,h=>by simp[be]
 | k+1,j+1,h=>by
  have:=Aby m k j qn
  simp only[be,List.take_succ_cons,List.cons_append,this]
  rw[show k+1-1-(j+1)=k-1-j by omega]
theorem Acm (m k:Nat) (hk:k≤7):IntKind.u8.wrap ((m:Int).fdiv (2 ^ (min (8 * (k:Int)).toNat IntKind.u64.bits)))=((UInt8.ofNat (m / 256 ^ k)).toNat:Int):=by
 have h1:min (8 * (k:Int)).toNat IntKind.u64.bits=8 * k:=by simp[IntKind.bits];omega
 rw[h1,Int.fdiv_eq_ediv_of_nonneg _ (by exact Int.pow_nonneg qx),IntKind.wrap_u8]
 have h2:(2:Int) ^ (8 * k)=((256 ^ k:Nat):Int):=by rw[Int.pow_mul];simp
 rw[h2]
 simp
theorem put2 (l:List UInt8) (hl:l.length<1000000) (m:Nat):Sy.Spec Tryz.prog 106 [.osl 0,Bf m] [(0,.row 1 Ao l)] (.osl 1) [(0,.non),(1,.row 1 Ao (l++be 6 m))]:=Ab Γ hm 100 F106 Tryz.ntmps106 rfl fun F hF=>by
 conv=>whnf
 refine Ahg 0 1 [0] E E qx (by simp;rfl) ?_
 refine Aw 6 (fun j=>[(0,.osl 1),(1,Bf m),(6,Aa j)]) (fun j=>[(0,.non),(1,.row 1 Ao (l++(be 6 m).take j))]) [(0,0),(1,1)] ⟨⟨E,E,E,E,E,E,Y⟩,⟨.inl E,E,.inl (congrArg (Ob.row 1 Ao) (List.append_nil l)),E,Y⟩,E,E⟩ ?_
 intro j hj
 refine rg ?_;conv=>whnf
 refine⟨fun h=>?_,fun h=>?_⟩
 ·have hlt:j<6:=by have:=of_decide_eq_true h;omega
  refine rg ?_;conv=>whnf
  refine Ag (Alr j qn qn) F157 E E E E E ?_
  refine rg ?_;conv=>whnf
  refine⟨by omega,?_⟩
  conv=>whnf
  refine Ai (Am Γ.toTy 16 E E E E E (.row E) (.lit (l:=[UInt8.ofNat (m / 256 ^ (5-j))]) E ?_) qy ?_ ?_) E E ?_
  ·have:=Acm m (5-j) qn
   rw[show ((5-j:Nat):Int)=5-(j:Int) by omega]at this
   simp only[List.map_cons,List.map_nil,Ao,← this]
  ·simp[Dd];omega
  ·simp[Dd];omega
  refine rg ?_;conv=>whnf
  refine⟨by unfold I64;omega,?_⟩
  conv=>whnf
  exact Ar [(0,0),(1,16)] hlt ⟨⟨E,E,E,E,E,E,Y⟩,⟨.inl E,E,.inl (congrArg (Ob.row 1 Ao) (by rw[Aby _ _ _ hlt,List.append_assoc])),E,Y⟩,E,E⟩
 ·have:j=6:=by have:=of_decide_eq_false h;omega
  subst this
  refine rg ?_;conv=>whnf
  exact done E (.cons .tmp .nil) [(0,0),(1,1)] _ (fun _ h=>h) E E ⟨Y,⟨.inl E,E,.inl E,E,Y⟩,E,E⟩
theorem put2n (m:Nat):Sy.Spec Tryz.prog 106 [.val (.slice none 0 0),Bf m] [] (.osl 0) [(0,.row 1 Ao (be 6 m))]:=Ab Γ hm 100 F106 Tryz.ntmps106 rfl fun F hF=>by
 conv=>whnf
 refine B7 0 1000 1 Ao E E ?_
 refine Aw 6 (fun j=>[(0,.osl 1000),(1,Bf m),(6,Aa j)]) (fun j=>[(1000,.row 1 Ao ((be 6 m).take j))]) [] ⟨⟨E,E,E,E,E,E,Y⟩,⟨.inl E,E,Y⟩,E,E⟩ ?_
 intro j hj
 refine rg ?_;conv=>whnf
 refine⟨fun h=>?_,fun h=>?_⟩
 ·have hlt:j<6:=by have:=of_decide_eq_true h;omega
  refine rg ?_;conv=>whnf
  refine Ag (Alr j qn qn) F157 E E E E E ?_
  refine rg ?_;conv=>whnf
  refine⟨by omega,?_⟩
  conv=>whnf
  refine Ai (Am Γ.toTy 16 E E E E E (.row E) (.lit (l:=[UInt8.ofNat (m / 256 ^ (5-j))]) E ?_) qy ?_ ?_) E E ?_
  ·have:=Acm m (5-j) qn
   rw[show ((5-j:Nat):Int)=5-(j:Int) by omega]at this
   simp only[List.map_cons,List.map_nil,Ao,← this]
  ·simp[Dd];omega
  ·simp[Dd];omega
  refine rg ?_;conv=>whnf
  refine⟨by unfold I64;omega,?_⟩
  conv=>whnf
  exact Ar [(1000,16)] hlt ⟨⟨E,E,E,E,E,E,Y⟩,⟨.inl (congrArg (Ob.row 1 Ao) (Aby _ _ _ hlt)),E,Y⟩,E,E⟩
 ·have:j=6:=by have:=of_decide_eq_false h;omega
  subst this
  refine rg ?_;conv=>whnf
  exact done E (.cons .tmp .nil) [(0,1000)] _ (fun _ h=>h) E E ⟨Y,⟨.inl E,E,Y⟩,E,E⟩
def Am7 (d s:Nat) (t:Int) (body:List UInt8):SV:=.agg [Bf d,Bf s,Aa t,.sl 1 Ao body]
def frame (d s t:Nat) (body:List UInt8):List UInt8:=be 6 d++be 6 s++[UInt8.ofNat (t / 256),UInt8.ofNat t]++body
theorem Em (t:Nat):[UInt8.ofNat (t / 256),UInt8.ofNat t].map Ao=[SV.val (.int .u8 (IntKind.u8.wrap ((t:Int).fdiv (2 ^ (min (Int.toNat 8) IntKind.i64.bits))))),SV.val (.int .u8 (IntKind.u8.wrap (t:Int)))]:=by
 have h1:IntKind.u8.wrap ((t:Int).fdiv (2 ^ (min (Int.toNat 8) IntKind.i64.bits)))=((UInt8.ofNat (t / 256)).toNat:Int):=by
  show IntKind.u8.wrap ((t:Int).fdiv 256)=_
  rw[Int.fdiv_eq_ediv_of_nonneg _ qx,IntKind.wrap_u8]
  simp
 have h2:IntKind.u8.wrap (t:Int)=((UInt8.ofNat t).toNat:Int):=by
  rw[IntKind.wrap_u8]
  simp
 rw[h1,h2]
 rfl
theorem Aed (d s t:Nat) (body:List UInt8) (hd:d<281474976710656) (hs:s<281474976710656) (ht:t≤65535) (hb:body.length≤1504):Sy.Spec Tryz.prog 45 [Am7 d s t body] [] (.tup [.osl 0,Aa 0]) [(0,.row 1 Ao (frame d s t body))]:=Ab Γ hm 100 F45 Tryz.ntmps45 rfl fun F hF=>by
 conv=>whnf
 refine⟨fun h=>absurd (of_decide_eq_true h) qn,fun _=>?_⟩
 refine rg ?_;conv=>whnf
 refine⟨fun h=>absurd (of_decide_eq_true h) qn,fun _=>?_⟩
 (refine rg ?_;(conv=>whnf);refine aF ?_;refine rg ?_;conv=>whnf)
 refine⟨fun h=>absurd (of_decide_eq_true h) qn,fun _=>?_⟩
 refine rg ?_;conv=>whnf
 refine⟨fun h=>absurd (of_decide_eq_true h) qn,fun _=>?_⟩
 refine rg ?_;conv=>whnf
 refine Bn (Ak [(0,31)] E F106 (put2n d) E Y E ⟨.inr E,Y⟩) qq E ?_
 refine rd qq ?_;conv=>whnf
 refine Bn (Ak [(0,31),(1,34)] E F106 (put2 (be 6 d) (by simp[Dd]) s) E ⟨E,Y⟩ E ⟨.inl E,.inr E,Y⟩) qq E ?_
 refine rd qq ?_;conv=>whnf
 refine⟨by kernel_rfl,?_⟩
 conv=>whnf
 refine⟨by decide,?_⟩
 conv=>whnf
 refine Bn (Am Γ.toTy 44 E E E E E (.row E) (.lit (l:=[UInt8.ofNat (t / 256),UInt8.ofNat t]) E (Em t)) qx ?_ ?_) qq E ?_
 ·simp[Dd]
 ·simp[Dd]
 refine rd qq ?_;conv=>whnf
 refine Bn (Am Γ.toTy 47 E E E E E (.row E) .sl qx ?_ ?_) qq E ?_
 ·simp[Dd];omega
 ·simp[Dd];omega
 refine rd qq ?_;conv=>whnf
 refine⟨by kernel_rfl,?_⟩
 conv=>whnf
 exact done E (.cons .tmp (.cons .tmp .nil)) [(0,47)] _ (fun _ h=>h) E E ⟨Y,⟨.inl E,E,Y⟩,E,E⟩
end Go.Sy.YteinjapglfkamaaGreat
namespace Go.Sy.YteinjapglfkamaaGreat
structure FrameM where
 dst:Nat
 src:Nat
 typ:Nat
 body:List UInt8
def B9 (f:FrameM):SV:=Am7 f.dst f.src f.typ f.body
structure StepM where
 kind:Int
 port:Int
 domain:Int
 at_:Int
 bytes:List UInt8
 up:List Bool
def Ed (x:StepM):SV:=.agg [Aa x.kind,Aa x.port,Aa x.domain,Aa x.at_,.sl 1 Ao x.bytes,.sl 1 Ad x.up]
structure SeenM where
 port:Int
 origin:Int
 bytes:List UInt8
def Dx (x:SeenM):SV:=.agg [Aa x.port,Aa x.origin,.sl 1 Ao x.bytes]
def Ii (ip:Int):Nat:=2199023255552+ip.toNat
def Ce (a bits:Int):Int:=if 0≤bits∧bits≤32 then a-a % 2 ^ (32-bits).toNat else 0
def H1 (n:Nat):Nat:=if n=0 then 0 else (n-1) % 65535+1
end Go.Sy.YteinjapglfkamaaGreat
namespace Go.Sy.YteinjapglfkamaaGreat
open Go.Proofs
attribute [local irreducible] Go.Sy.G Go.Sy.DR
set_option maxRecDepth 100000
set_option maxHeartbeats 4000000
def Ey (a bits:Int):SV:=.agg [Bj a,Aa bits]
theorem Yl (a bits:Int):Sy.Spec Tryz.prog 269 [Ey a bits] [] (Ad (decide (0≤bits∧bits≤32))) []:=Ab Γ hm 100 F269 Tryz.ntmps269 rfl fun F hF=>by
 conv=>whnf
 (repeat' (first | (refine⟨fun h=>?_,fun h=>?_⟩<;>(repeat (first | simp only[decide_eq_true_eq]at h | simp only[decide_eq_false_iff_not]at h))<;>((refine rg ?_);(conv=>whnf))) | (refine Ac rfl (.cons .tmp .nil) ?_ rfl)))
 all_goals (refine congrArg Ad ?_;clear hF;grind)
theorem Aac (a bits:Int) (h:0≤bits∧bits≤32):Sy.Spec Tryz.prog 270 [Ey a bits] [] (Bj (2 ^ (32-bits).toNat-1)) []:=Ab Γ hm 100 F270 Tryz.ntmps270 rfl fun F hF=>by
 conv=>whnf
 refine⟨by unfold I64;omega,?_⟩
 conv=>whnf
 refine⟨by omega,?_⟩
 conv=>whnf
 refine Ac E (.cons .tmp .nil) ?_ E
 refine congrArg (fun z=>SV.val (.int .u32 z)) ?_
 obtain ⟨k,hk,hk2⟩:∃ k:Nat,(32-bits).toNat=k∧k≤32:=⟨_,rfl,by omega⟩
 have h1:min (32-bits).toNat IntKind.u32.bits=k:=by show min (32-bits).toNat 32=k;omega
 rw[h1,hk,IntKind.wrap_u32,IntKind.wrap_u32]
 have h2:(2:Int) ^ k≤4294967296:=by
  have:=Nat.pow_le_pow_right (n:=2) qx hk2
  rw[show (2:Int) ^ k=((2 ^ k:Nat):Int) by rw[Int.natCast_pow];rfl]
  have e:(2:Nat) ^ 32=4294967296:=rfl
  rw[e]at this
  omega
 have h0:(1:Int)≤2 ^ k:=by
  have:=Nat.one_le_two_pow (n:=k)
  rw[show (2:Int) ^ k=((2 ^ k:Nat):Int) by rw[Int.natCast_pow];rfl]
  omega
 generalize (2:Int) ^ k=q at *
 omega
theorem Yh (a k:Nat) (ha:a<4294967296) (hk:k≤32):bits .andNot .u32 (a:Int) ((2 ^ k-1:Nat):Int)=((a-a % 2 ^ k:Nat):Int):=by
 have hp:=Nat.pow_le_pow_right (n:=2) qx hk
 have e32:(2:Nat) ^ 32=4294967296:=rfl
 rw[e32]at hp
 have h1:=Nat.one_le_two_pow (n:=k)
 have x1:(BitVec.ofInt 32 (a:Int)).toNat=a:=by rw[BitVec.ofInt_natCast,BitVec.toNat_ofNat];exact Nat.mod_eq_of_lt qn
 have x2:(BitVec.ofInt 32 ((2 ^ k-1:Nat):Int)).toNat=2 ^ k-1:=by rw[BitVec.ofInt_natCast,BitVec.toNat_ofNat];exact Nat.mod_eq_of_lt qn
 have key:(BitVec.ofInt 32 (a:Int) &&& ~~~ BitVec.ofInt 32 ((2 ^ k-1:Nat):Int)).toNat=a-a % 2 ^ k:=by
  have hd:a-a % 2 ^ k=2 ^ k * (a / 2 ^ k):=by have:=Nat.div_add_mod a (2 ^ k);omega
  rw[hd]
  refine Nat.eq_of_testBit_eq fun i=>?_
  rw[BitVec.testBit_toNat,BitVec.getLsbD_and,BitVec.getLsbD_not,← BitVec.testBit_toNat,← BitVec.testBit_toNat,x1,x2,Nat.testBit_two_pow_sub_one,Nat.testBit_two_pow_mul,Nat.testBit_div_two_pow]
  by_cases hi:i<k
  ·have:¬ i≥k:=by omega
   simp[hi,this]
  ·have h2:i≥k:=by omega
   have h3:i-k+k=i:=by omega
   by_cases h4:i<32
   ·simp[hi,h2,h4,h3]
   ·have h5:a.testBit i=false:=Nat.testBit_lt_two_pow (Nat.lt_of_lt_of_le (by rw[← e32]at ha;exact ha) (Nat.pow_le_pow_right qx qn))
    rw[h3,h5]
    simp
 show IntKind.u32.wrap (((BitVec.ofInt 32 (a:Int) &&& ~~~ BitVec.ofInt 32 ((2 ^ k-1:Nat):Int)).toNat:Nat):Int)=_
 rw[key,IntKind.wrap_u32]
 omega
theorem Jk (a k:Nat) (bits:Int) (h:0≤bits∧bits≤32) (hk:(32-bits).toNat=k):Ce a bits=((a-a % 2 ^ k:Nat):Int):=by
 rw[Ce,if_pos h,hk]
 have h1:=Nat.mod_le a (2 ^ k)
 rw[show (2:Int) ^ k=((2 ^ k:Nat):Int) by rw[Int.natCast_pow];rfl]
 omega
theorem Ahd (a:Nat) (bits:Int) (ha:a<4294967296):Sy.Spec Tryz.prog 205 [Ey a bits] [] (Bj (Ce a bits)) []:=Ab Γ hm 100 F205 Tryz.ntmps205 rfl fun F hF=>by
 have hr:=Yl a bits
 by_cases hb:0≤bits∧bits≤32
 ·have hrest:=Aac a bits hb
  rw[decide_eq_true hb]at hr
  obtain ⟨k,hk,hk2⟩:∃ k:Nat,(32-bits).toNat=k∧k≤32:=⟨_,rfl,by omega⟩
  have hn:=Yh a k ha hk2
  have hf:=Jk a k bits hb hk
  have h1:=Nat.one_le_two_pow (n:=k)
  have e2:(2:Int) ^ k-1=((2 ^ k-1:Nat):Int):=by
   rw[show (2:Int) ^ k=((2 ^ k:Nat):Int) by rw[Int.natCast_pow];rfl]
   omega
  rw[hk,e2]at hrest
  rw[hf,← hn]
  ((conv=>whnf);repeat((first|refine aF ?_|refine aT ?_);(first|refine rG Γ hm ?_|refine rD Γ hm qq ?_);conv=>whnf))
  refine Ag hr F269 E E E E E ?_
  ((first|refine rG Γ hm ?_|refine rD Γ hm qq ?_);(conv=>whnf);repeat((first|refine aF ?_|refine aT ?_);(first|refine rG Γ hm ?_|refine rD Γ hm qq ?_);conv=>whnf))
  first | refine Aq hrest F270 rfl rfl rfl qq rfl ?_ | refine Ag hrest F270 rfl rfl rfl rfl rfl ?_
  ((first|refine rG Γ hm ?_|refine rD Γ hm qq ?_);(conv=>whnf);repeat((first|refine aF ?_|refine aT ?_);(first|refine rG Γ hm ?_|refine rD Γ hm qq ?_);conv=>whnf))
  first | (refine⟨qq,?_⟩;((conv=>whnf);repeat((first|refine aF ?_|refine aT ?_);(first|refine rG Γ hm ?_|refine rD Γ hm qq ?_);conv=>whnf))) | skip
  exact Ac E (.cons .tmp .nil) E E
 ·rw[decide_eq_false hb]at hr
  have hf:Ce a bits=0:=by rw[Ce,if_neg hb]
  rw[hf]
  ((conv=>whnf);repeat((first|refine aF ?_|refine aT ?_);(first|refine rG Γ hm ?_|refine rD Γ hm qq ?_);conv=>whnf))
  refine Ag hr F269 E E E E E ?_
  ((first|refine rG Γ hm ?_|refine rD Γ hm qq ?_);(conv=>whnf);repeat((first|refine aF ?_|refine aT ?_);(first|refine rG Γ hm ?_|refine rD Γ hm qq ?_);conv=>whnf))
  exact Ac E (.cons .tmp .nil) E E
def lastI (a bits:Int):Int:=if 0≤bits∧bits≤32 then Ce a bits+2 ^ (32-bits).toNat-1 else 0
theorem or_low (a k:Nat) (ha:a<4294967296) (hk:k≤32):bits .or .u32 (a:Int) ((2 ^ k-1:Nat):Int)=((a-a % 2 ^ k+(2 ^ k-1):Nat):Int):=by
 have hp:=Nat.pow_le_pow_right (n:=2) qx hk
 have e32:(2:Nat) ^ 32=4294967296:=rfl
 rw[e32]at hp
 have h1:=Nat.one_le_two_pow (n:=k)
 have x1:(BitVec.ofInt 32 (a:Int)).toNat=a:=by rw[BitVec.ofInt_natCast,BitVec.toNat_ofNat];exact Nat.mod_eq_of_lt qn
 have x2:(BitVec.ofInt 32 ((2 ^ k-1:Nat):Int)).toNat=2 ^ k-1:=by rw[BitVec.ofInt_natCast,BitVec.toNat_ofNat];exact Nat.mod_eq_of_lt qn
 have hd:a-a % 2 ^ k=2 ^ k * (a / 2 ^ k):=by have:=Nat.div_add_mod a (2 ^ k);omega
 have hsum:=Nat.two_pow_add_eq_or_of_lt (i:=k) (b:=2 ^ k-1) qn (a / 2 ^ k)
 have key:(BitVec.ofInt 32 (a:Int) ||| BitVec.ofInt 32 ((2 ^ k-1:Nat):Int)).toNat=a-a % 2 ^ k+(2 ^ k-1):=by
  rw[hd,hsum]
  refine Nat.eq_of_testBit_eq fun i=>?_
  rw[BitVec.testBit_toNat,BitVec.getLsbD_or,← BitVec.testBit_toNat,← BitVec.testBit_toNat,x1,x2,Nat.testBit_or,Nat.testBit_two_pow_sub_one,Nat.testBit_two_pow_mul,Nat.testBit_div_two_pow]
  by_cases hi:i<k
  ·simp[hi]
  ·have h2:i≥k:=by omega
   have h3:i-k+k=i:=by omega
   simp[hi,h2,h3]
 show IntKind.u32.wrap (((BitVec.ofInt 32 (a:Int) ||| BitVec.ofInt 32 ((2 ^ k-1:Nat):Int)).toNat:Nat):Int)=_
 have hlt:(BitVec.ofInt 32 (a:Int) ||| BitVec.ofInt 32 ((2 ^ k-1:Nat):Int)).toNat<4294967296:=BitVec.isLt _
 rw[key]at hlt
 rw[key,IntKind.wrap_u32]
 omega
theorem Ul (a k:Nat) (bits:Int) (h:0≤bits∧bits≤32) (hk:(32-bits).toNat=k):lastI a bits=((a-a % 2 ^ k+(2 ^ k-1):Nat):Int):=by
 rw[lastI,if_pos h,hk,Jk a k bits h hk]
 have h1:=Nat.one_le_two_pow (n:=k)
 rw[show (2:Int) ^ k=((2 ^ k:Nat):Int) by rw[Int.natCast_pow];rfl]
 omega
theorem Aad (a:Nat) (bits:Int) (ha:a<4294967296):Sy.Spec Tryz.prog 206 [Ey a bits] [] (Bj (lastI a bits)) []:=Ab Γ hm 100 F206 Tryz.ntmps206 rfl fun F hF=>by
 have hr:=Yl a bits
 by_cases hb:0≤bits∧bits≤32
 ·have hrest:=Aac a bits hb
  rw[decide_eq_true hb]at hr
  obtain ⟨k,hk,hk2⟩:∃ k:Nat,(32-bits).toNat=k∧k≤32:=⟨_,rfl,by omega⟩
  have hn:=or_low a k ha hk2
  have hf:=Ul a k bits hb hk
  have h1:=Nat.one_le_two_pow (n:=k)
  have e2:(2:Int) ^ k-1=((2 ^ k-1:Nat):Int):=by
   rw[show (2:Int) ^ k=((2 ^ k:Nat):Int) by rw[Int.natCast_pow];rfl]
   omega
  rw[hk,e2]at hrest
  rw[hf,← hn]
  ((conv=>whnf);repeat((first|refine aF ?_|refine aT ?_);(first|refine rG Γ hm ?_|refine rD Γ hm qq ?_);conv=>whnf))
  refine Ag hr F269 E E E E E ?_
  ((first|refine rG Γ hm ?_|refine rD Γ hm qq ?_);(conv=>whnf);repeat((first|refine aF ?_|refine aT ?_);(first|refine rG Γ hm ?_|refine rD Γ hm qq ?_);conv=>whnf))
  first | refine Aq hrest F270 rfl rfl rfl qq rfl ?_ | refine Ag hrest F270 rfl rfl rfl rfl rfl ?_
  ((first|refine rG Γ hm ?_|refine rD Γ hm qq ?_);(conv=>whnf);repeat((first|refine aF ?_|refine aT ?_);(first|refine rG Γ hm ?_|refine rD Γ hm qq ?_);conv=>whnf))
  first | (refine⟨qq,?_⟩;((conv=>whnf);repeat((first|refine aF ?_|refine aT ?_);(first|refine rG Γ hm ?_|refine rD Γ hm qq ?_);conv=>whnf))) | skip
  exact Ac E (.cons .tmp .nil) E E
 ·rw[decide_eq_false hb]at hr
  have hf:lastI a bits=0:=by rw[lastI,if_neg hb]
  rw[hf]
  ((conv=>whnf);repeat((first|refine aF ?_|refine aT ?_);(first|refine rG Γ hm ?_|refine rD Γ hm qq ?_);conv=>whnf))
  refine Ag hr F269 E E E E E ?_
  ((first|refine rG Γ hm ?_|refine rD Γ hm qq ?_);(conv=>whnf);repeat((first|refine aF ?_|refine aT ?_);(first|refine rG Γ hm ?_|refine rD Γ hm qq ?_);conv=>whnf))
  exact Ac E (.cons .tmp .nil) E E
theorem Anz (a b:Nat) (ha:a<4294967296) (hb:b<4294967296):bits .xor .u32 (a:Int) (b:Int)=((a ^^^ b:Nat):Int):=by
 have x1:(BitVec.ofInt 32 (a:Int)).toNat=a:=by rw[BitVec.ofInt_natCast,BitVec.toNat_ofNat];exact Nat.mod_eq_of_lt qn
 have x2:(BitVec.ofInt 32 (b:Int)).toNat=b:=by rw[BitVec.ofInt_natCast,BitVec.toNat_ofNat];exact Nat.mod_eq_of_lt qn
 show IntKind.u32.wrap (((BitVec.ofInt 32 (a:Int) ^^^ BitVec.ofInt 32 (b:Int)).toNat:Nat):Int)=_
 have hlt:(BitVec.ofInt 32 (a:Int) ^^^ BitVec.ofInt 32 (b:Int)).toNat<4294967296:=BitVec.isLt _
 rw[BitVec.toNat_xor,x1,x2]at hlt ⊢
 rw[IntKind.wrap_u32]
 omega
theorem masked (a x k:Nat) (ha:a<4294967296) (hx:x<4294967296) (hk:k≤32):(bits .andNot .u32 (bits .xor .u32 (a:Int) (x:Int)) ((2 ^ k-1:Nat):Int) == 0)=decide (a / 2 ^ k=x / 2 ^ k):=by
 have hxl:a ^^^ x<4294967296:=Nat.xor_lt_two_pow (n:=32) ha hx
 rw[Anz a x ha hx,Yh _ k hxl hk]
 have hd:(a ^^^ x)-(a ^^^ x) % 2 ^ k=2 ^ k * ((a ^^^ x) / 2 ^ k):=by have:=Nat.div_add_mod (a ^^^ x) (2 ^ k);omega
 rw[hd,Nat.xor_div_two_pow]
 have h1:=Nat.one_le_two_pow (n:=k)
 by_cases h:a / 2 ^ k=x / 2 ^ k
 ·rw[h,Nat.xor_self]
  simp
 ·rw[decide_eq_false h]
  have:a / 2 ^ k ^^^ x / 2 ^ k≠0:=fun e=>h (by
   have:=congrArg (fun z=>z ^^^ x / 2 ^ k) e
   simpa [Nat.xor_assoc] using this)
  rw[beq_eq_false_iff_ne]
  intro e
  have e:=Int.natCast_eq_zero.1 e
  rcases Nat.mul_eq_zero.1 e with e | e
  ·omega
  ·exact this e
theorem Ai2 (a x q:Nat) (hq:0<q):(a / q=x / q)↔(a-a % q≤x∧x≤a-a % q+(q-1)):=by
 have h1:=Nat.div_add_mod a q
 have hd:a-a % q=q * (a / q):=by omega
 rw[hd]
 constructor
 ·intro e
  have h2:=Nat.div_add_mod x q
  have h3:=Nat.mod_lt x hq
  rw[← e]at h2
  omega
 ·rintro ⟨h2,h3⟩
  symm
  rw[Nat.div_eq_iff hq]
  generalize a / q=m at *
  have:q * m=m * q:=Nat.mul_comm ..
  constructor<;>omega
def Df (n:Net):Prop:=∀ x∈n.irbs,0≤x.addr∧x.addr<4294967296
end Go.Sy.YteinjapglfkamaaGreat
namespace Go.Sy.YteinjapglfkamaaGreat
open Go.Proofs
set_option maxRecDepth 20000
set_option maxHeartbeats 4000000
theorem Hi {x:Int} (h0:0≤x) (h1:x<4294967297):IntKind.i64.wrap x=x:=by
 rw[IntKind.wrap_i64];omega
theorem T6 {x:Int} (h0:0≤x) (h1:x<4294967296):IntKind.u32.wrap x=x:=by
 rw[IntKind.wrap_u32];omega
theorem Aja (b:Int) (h:0≤b∧b≤32):Acw b=((2 ^ (32-b).toNat-1:Nat):Int):=by
 obtain ⟨k,hk,hk2⟩:∃ k:Nat,(32-b).toNat=k∧k≤32:=⟨_,rfl,by omega⟩
 have h1:min (32-b).toNat IntKind.u32.bits=k:=by show min (32-b).toNat 32=k;omega
 have hp:=Nat.pow_le_pow_right (n:=2) qx hk2
 have e32:(2:Nat) ^ 32=4294967296:=rfl
 rw[e32]at hp
 have h0:=Nat.one_le_two_pow (n:=k)
 rw[Acw,h1,hk,IntKind.wrap_u32,IntKind.wrap_u32,show (2:Int) ^ k=((2 ^ k:Nat):Int) by rw[Int.natCast_pow];rfl]
 generalize 2 ^ k=q at *
 omega
theorem Kq (a b x:Int) (hb:0≤b∧b≤32) (ha:0≤a∧a<4294967296) (hx:0≤x∧x<4294967296):Vx a b x=true↔Ce a b≤x∧x≤lastI a b:=by
 obtain ⟨a,rfl⟩:=Int.eq_ofNat_of_zero_le ha.1
 obtain ⟨x,rfl⟩:=Int.eq_ofNat_of_zero_le hx.1
 obtain ⟨k,hk,hk2⟩:∃ k:Nat,(32-b).toNat=k∧k≤32:=⟨_,rfl,by omega⟩
 have h0:=Nat.one_le_two_pow (n:=k)
 rw[Vx,Aja b hb,hk,masked a x k qn qn hk2,decide_eq_true_iff,Ai2 a x (2 ^ k) qn,Jk a k b hb hk,Ul a k b hb hk]
 omega
theorem E1 (a b:Int) (ha:0≤a∧a<4294967296):0≤lastI a b∧lastI a b<4294967296:=by
 by_cases hb:0≤b∧b≤32
 ·obtain ⟨a,rfl⟩:=Int.eq_ofNat_of_zero_le ha.1
  obtain ⟨k,hk,hk2⟩:∃ k:Nat,(32-b).toNat=k∧k≤32:=⟨_,rfl,by omega⟩
  have h0:=Nat.one_le_two_pow (n:=k)
  rw[Ul a k b hb hk]
  have hd:a-a % 2 ^ k=2 ^ k * (a / 2 ^ k):=by have:=Nat.div_add_mod a (2 ^ k);omega
  have h32:2 ^ k * 2 ^ (32-k)=4294967296:=by
   rw[← Nat.pow_add,show k+(32-k)=32 by omega]
  have:a / 2 ^ k<2 ^ (32-k):=by rw[Nat.div_lt_iff_lt_mul qn,Nat.mul_comm,h32];omega
  have:2 ^ k * (a / 2 ^ k)+2 ^ k≤2 ^ k * 2 ^ (32-k):=by
   rw[← Nat.mul_succ];exact Nat.mul_le_mul_left _ this
  omega
 ·rw[lastI,if_neg hb];omega
theorem H9 (a b:Int) (ha:0≤a∧a<4294967296):0≤Ce a b∧Ce a b<4294967296:=by
 by_cases hb:0≤b∧b≤32
 ·obtain ⟨a,rfl⟩:=Int.eq_ofNat_of_zero_le ha.1
  rw[Jk a _ b hb rfl]
  omega
 ·rw[Ce,if_neg hb];omega
end Go.Sy.YteinjapglfkamaaGreat
namespace Go.Sy
def Ae4 (C:Cx) {β:Type} (I:β→Prop) (L:β→List (Nat × SV)) (O:β→Obs) (μ:β→Nat) (x:β) (a:Act) (w:World):Prop :=
 ∃ x':{y:β // I y},∃ κ,μ x'.1<μ x∧St C.F C.n (mkS (L x'.1) (O x'.1)) κ a w
theorem Oo {C:Cx} {k:List KI} {s:SS} {body:Code} {β:Type} (I:β→Prop) (L:β→List (Nat × SV)) (O:β→Obs) (μ:β→Nat) (x₀:β) (ρ:List (Nat × Nat)) (h0:I x₀) (hsub:Sub C s ρ (L x₀) (O x₀))
  (h:∀ x,I x→G C (.code body::.inv (Ae4 C I L O μ x)::k) (mkS (L x) (O x))):G C (.code (.loop body)::k) s :=
 M6 (α:={y:β // I y}) (fun x=>L x.1) (fun x=>O x.1) (fun x=>μ x.1) ⟨x₀,h0⟩ ρ hsub (fun x=>h x.1 x.2)
theorem Ds {C:Cx} {k:List KI} {s:SS} {β:Type} {I:β→Prop} {L:β→List (Nat × SV)} {O:β→Obs} {μ:β→Nat} {x:β} (x':β) (ρ:List (Nat × Nat)) (h':I x') (hμ:μ x'<μ x) (hsub:Sub C s ρ (L x') (O x')) :
  G C (.inv (Ae4 C I L O μ x)::k) s:=fun _ _ _ hs=>⟨⟨x',h'⟩,_,hμ,hsub.st hs⟩
theorem M5 {C:Cx} {kk:List KI} {s:SS} (k d:Nat) {sz:Nat} {α:Type} {e:α→SV} {l:List α} (h:s.h k=.row sz e l) (hd:s.h d=.fresh) (hkd:k≠d)
  (hg:G C kk ⟨fun i=>frz k (.osl d) (s.σ i),upd (fun j=>bif Nat.beq j k then .non else Akd k (.osl d) (s.h j)) d (.row sz e l)⟩):G C kk s:=fun κ a w hs=>by
 have hob:=hs.obj k
 rw[h]at hob
 have hnew:κ d=.new:=by have:=hs.obj d;rwa [hd]at this
 have fin:∀ κ':Ka,(∀ j,j≠k→j≠d→κ' j=κ j)→Step (fun j=>j=k∨j=d) κ w κ' w→Inv κ' w→(∀ v,Rd κ w (.osl k) v→Rd κ' w (.osl d) v)→ObOK κ' w d (.row sz e l)→den C.P C.B kk .normal a w:=by
  intro κ' hne st inv hv ho
  refine hg κ' a w ⟨hs.defers,hs.size,inv,hs.ctx.step inv st,fun j=>Abc st hv _ _ (hs.slot j),fun j=>?_⟩
  show ObOK κ' w j (upd (fun j=>bif Nat.beq j k then .non else Akd k (.osl d) (s.h j)) d (.row sz e l) j)
  by_cases hj:j=d
  ·subst hj;rw[Bi];exact ho
  ·rw[B0 _ _ hj]
   by_cases hj2:j=k
   ·subst hj2;rw[show Nat.beq j j=true from Nat.beq_refl j];trivial
   ·rw[show Nat.beq j k=false from by cases hb:Nat.beq j k with | false=>rfl | true=>exact absurd (Nat.eq_of_beq_eq_true hb) hj2]
    have hb:=ObOK.step st (fun e=>e.elim hj2 hj) _ (hs.obj j)
    have h0:=hs.obj j
    show ObOK κ' w j (Akd k (.osl d) (s.h j))
    cases hh:s.h j with
    | box m =>
     rw[hh]at h0 hb
     obtain ⟨b,cs,T,fr,e1,e2,e3,e4,e5⟩:=h0
     exact⟨b,cs,T,fr,(hne j hj2 hj).trans e1,e2,e3,e4,Ln st hv m cs e5⟩
    | fresh=>rw[hh]at hb;exact hb
    | non=>rw[hh]at hb;exact hb
    | row sz' e' l'=>rw[hh]at hb;exact hb
    | lit sz' svs=>rw[hh]at hb;exact hb
    | glob sz' x' g'=>rw[hh]at hb;exact hb
    | pin b' n' cap' sz' e' l'=>rw[hh]at hb;exact hb
    | dat v' sz' e' l'=>rw[hh]at hb;exact hb
 rcases hob with ⟨h1,rfl⟩ | ⟨b,cap,cs,T,fr,e1,e2,e3,e4,e5,e6⟩
 ·have st:=Ho (Ht hs.inv (some k)) (by show C1 κ k .dead d=.new;rw[Bq _ _ (Ne.symm hkd)];exact hnew) (e:=.nil) (Grew.refl w) (fun b hb=>by cases hb)
  refine fin _ (fun j h1 h2=>by rw[Bq _ _ h2];exact Bq _ _ h1) (((En (some k)).weaken (fun j hj=>.inl (Option.some.inj hj).symm)).trans (st.1.weaken (fun j hj=>.inr hj))) st.2 (fun v hv=>?_) (.inl ⟨As _ _ _,E⟩)
  simp only[Rd,h1]at hv
  simp[Rd,As,hv]
 ·obtain ⟨st,inv⟩:=Ke (n':=l.length) (w':=w) hs.inv e1 hnew rfl rfl rfl rfl (fun _ _=>rfl)
  refine fin _ (fun j h1 h2=>by rw[Bq _ _ h2];exact Bq _ _ h1) st inv (fun v hv=>?_) (.inr ⟨b,cap,cs,T,fr,As _ _ _,e2,e3,e4,e5,fun i x hx=>?_⟩)
  ·simp only[Rd,e1]at hv
   simp[Rd,As,hv]
  ·obtain ⟨q1,u,q2,q3⟩:=e6 i x hx
   exact⟨q1,u,RdD.keep st.keeps _ _ q2,q3⟩
theorem Iq {C:Cx} {k:List KI} {s:SS} (d:Nat) {sz:Nat} {α:Type} (e:α→SV) (l:List α) {svs:List SV} (h:s.h d=.lit sz svs) (hl:l.map e=svs) (hg:G C k ⟨s.σ,upd s.h d (.row sz e l)⟩):G C k s:=fun κ a w hs=>by
 refine hg κ a w ⟨hs.defers,hs.size,hs.inv,hs.ctx,hs.slot,fun j=>?_⟩
 show ObOK κ w j (upd s.h d (.row sz e l) j)
 by_cases hj:j=d
 ·subst hj
  rw[Bi]
  have hob:=hs.obj j
  rw[h]at hob
  have hlen:l.length=svs.length:=by rw[← hl,List.length_map]
  obtain ⟨b,cap,cs,T,fr,e1,e2,e3,e4,e5,e6⟩:=hob
  exact .inr ⟨b,cap,cs,T,fr,by rw[hlen];exact e1,e2,e3,e4,by omega,fun i x hx=>by rw[hlen];exact e6 i x (Kg hl i x hx)⟩
 ·rw[B0 _ _ hj];exact hs.obj j
end Go.Sy
namespace Go.Sy.YteinjapglfkamaaGreat
open Go.Proofs
attribute [local irreducible] Go.Sy.G Go.Sy.DR
set_option maxRecDepth 20000
set_option maxHeartbeats 4000000
theorem Ajw {n:Net} {irb dst:Int} (h:(lookT n irb dst).2=true):H3 n irb dst (lookT n irb dst).1.toNat=true:=by
 unfold lookT at h ⊢
 split at h
 ·cases h
 rename_i h1
 rw[if_neg h1]
 split at h
 ·cases h
 rename_i h2
 rw[if_neg h2]
 have hm:=Mi (cmpR n irb) (Ef n irb dst) (List.length_pos_iff.2 h2) ((Ef n irb dst).length-1) (by have:=List.length_pos_iff.2 h2;omega)
 exact((filtI_mem (p:=H3 n irb dst) (j:=n.irbs.length)).1 hm).2.2
theorem Ai3 (x:Int) (i:Irb):Sy.Spec Tryz.prog 273 [Cg i,.ref 1 (Bj x) 0] [] (Ad (i.addr == x)) []:=Ab Γ hm 100 F273 Tryz.ntmps273 rfl fun F hF=>by
 conv=>whnf
 exact Ac E (.cons .tmp .nil) E E
theorem Ai4 (x:Int) (i:Irb):Sy.Spec Tryz.prog 209 [Cg i,.ref 1 (Bj x) 0] [] (Ad (i.addr == x)) []:=Ab Γ hm 100 F209 Tryz.ntmps209 rfl fun F hF=>by
 conv=>whnf
 exact Ac E (.cons .tmp .nil) E E
def Ec (n:Net) (a:Int):Bool:=decide (0≤Ct (fun i:Irb=>i.addr == a) n.irbs)
def pastI (n:Net) (a led:Int):Int:=if Ec n a=true then a+1 else lastI (nth n.irbs led).addr (nth n.irbs led).bits+1
theorem Aer (n:Net) (hn:n.Fin) (hu:Df n) (a led:Int) (ha:0≤a∧a<4294967296) (hl:Ec n a=false→InIrbs n led) :
  Sy.Spec Tryz.prog 210 [Al n,Bj a,Aa led] [] (Aa (pastI n a led)) []:=Ab Γ hm 100 F210 Tryz.ntmps210 rfl fun F hF=>by
 have hlk:=pastI.eq_1 n a led
 generalize pastI n a led=res at *
 have q7:=Ju n.irbs (fun i:Irb=>i.addr == a) 273 [] [.ref 1 (Bj a) 0] rfl (fun i _=>⟨⟨_,_,F273⟩,Ai3 a i⟩) hn.irbs
 have ht:decide (0≤Ct (fun i:Irb=>i.addr == a) n.irbs)=Ec n a:=rfl
 rw[ht]at q7
 generalize Ec n a=tk at *
 conv=>whnf
 refine A3 3 8 (Al n) E E E ?_
 refine A3 4 1 (Bj a) E E E ?_
 refine rg ?_;conv=>whnf
 refine Ag q7 F208 E E E E E ?_
 cases tk
 rotate_left
 ·rw[if_pos rfl]at hlk
  subst hlk
  (refine rg ?_;(conv=>whnf);refine aT ?_;refine rg ?_;conv=>whnf)
  rw[Hi qn qn]
  refine⟨by unfold I64;omega,?_⟩
  conv=>whnf
  exact Ac E (.cons .tmp .nil) E E
 rw[if_neg qy]at hlk
 have hli:=hl rfl
 rw[Ah hli.2]at hlk
 have hui:=hu _ (List.getElem_mem hli.2)
 obtain ⟨x,hx⟩:∃ x,n.irbs[led.toNat]'hli.2=x:=⟨_,rfl⟩
 rw[hx]at hlk hui
 obtain ⟨y,hy⟩:=Int.eq_ofNat_of_zero_le hui.1
 have q:=Aad y x.bits qn
 have hle:=E1 x.addr x.bits hui
 rw[← hy]at q
 generalize lastI x.addr x.bits=z at *
 subst hlk
 (refine rg ?_;(conv=>whnf);refine aF ?_;refine rg ?_;conv=>whnf)
 refine⟨E,hli.1,hli.2,?_⟩
 rw[hx]
 conv=>whnf
 first | refine Aq q F206 rfl rfl rfl qq rfl ?_ | refine Ag q F206 rfl rfl rfl rfl rfl ?_
 refine rg ?_;conv=>whnf
 rw[Hi qn qn]
 refine⟨by unfold I64;omega,?_⟩
 conv=>whnf
 exact Ac E (.cons .tmp .nil) E E
theorem Adg {n:Net} (hu:Df n) (hb:Ae n=true) {irb a:Int} (ha:0≤a∧a<4294967296) (h:Ec n a=false→(lookT n irb a).2=true) :
  a<pastI n a (lookT n irb a).1∧pastI n a (lookT n irb a).1≤4294967296:=by
 rw[pastI]
 split
 ·omega
 rename_i ht
 have h2:=h (by simpa using ht)
 have hw:=Ajw h2
 have hi:=Mj h2
 have e:((lookT n irb a).1.toNat:Int)=(lookT n irb a).1:=by have:=hi.1;omega
 rw[H3,Bool.and_eq_true,e]at hw
 rw[Ah hi.2]at hw ⊢
 have hui:=hu _ (List.getElem_mem hi.2)
 have hbi:=(B4 hb hi.2).2.2
 have h3:=(Kq _ _ _ hbi hui ha).1 hw.1
 have h4:=E1 _ (n.irbs[(lookT n irb a).1.toNat]'hi.2).bits hui
 omega
def addrGo (n:Net) (irb to e:Int) (x:Int):Int × Bool :=
 if x≤e then
  if (lookT n irb x).2=true∧(lookT n irb x).1=to∧Ec n x=false then (x,true)
  else if (lookT n irb x).2=false∧Ec n x=false then (0,false)
  else if x<pastI n x (lookT n irb x).1 then addrGo n irb to e (pastI n x (lookT n irb x).1) else (0,false)
 else (0,false)
 termination_by (e+1-x).toNat
 decreasing_by omega
def addrT (n:Net) (irb to:Int):Int × Bool :=
 if (0≤irb∧irb<n.irbs.length)∧(0≤to∧to<n.irbs.length)∧Ae n=true then
  addrGo n irb to (lastI (nth n.irbs to).addr (nth n.irbs to).bits) (Ce (nth n.irbs to).addr (nth n.irbs to).bits) else (0,false)
theorem Yd (n:Net) (hn:n.Fin) (hu:Df n) (irb to:Int):Sy.Spec Tryz.prog 150 [Al n,Aa irb,Aa to] [] (.tup [Bj (addrT n irb to).1,Ad (addrT n irb to).2]) []:=Ab Γ hm 100 F150 Tryz.ntmps150 rfl fun F hF=>by
 have hlk:=addrT.eq_1 n irb to
 generalize addrT n irb to=res at *
 have hr:=Be n hn
 have hsi:=hn.irbs
 unfold An at hsi
 conv=>whnf
 refine⟨fun h=>?_,fun h=>?_⟩
 ·rw[if_neg (by have:=of_decide_eq_true h;omega)]at hlk
  subst hlk
  (refine rg ?_;(conv=>whnf);refine aT ?_;refine rg ?_;(conv=>whnf);refine aT ?_;refine rg ?_;(conv=>whnf);refine aT ?_;refine rg ?_;(conv=>whnf);refine aT ?_;refine rg ?_;conv=>whnf)
  exact Ac E (.cons .tmp (.cons .tmp .nil)) E E
 have h1:¬ irb<0:=of_decide_eq_false h
 refine rg ?_;conv=>whnf
 refine⟨fun h=>?_,fun h=>?_⟩
 ·rw[if_neg (by have:=of_decide_eq_true h;omega)]at hlk
  subst hlk
  (refine rg ?_;(conv=>whnf);refine aT ?_;refine rg ?_;(conv=>whnf);refine aT ?_;refine rg ?_;(conv=>whnf);refine aT ?_;refine rg ?_;conv=>whnf)
  exact Ac E (.cons .tmp (.cons .tmp .nil)) E E
 have h2:¬ to<0:=of_decide_eq_false h
 refine A3 3 8 (Al n) E E E ?_
 refine rg ?_;conv=>whnf
 refine⟨fun h=>?_,fun h=>?_⟩
 ·rw[if_neg (by have:=of_decide_eq_true h;omega)]at hlk
  subst hlk
  (refine rg ?_;(conv=>whnf);refine aT ?_;refine rg ?_;(conv=>whnf);refine aT ?_;refine rg ?_;conv=>whnf)
  exact Ac E (.cons .tmp (.cons .tmp .nil)) E E
 have h3:irb<n.irbs.length:=by have:=of_decide_eq_false h;omega
 refine rg ?_;conv=>whnf
 refine⟨fun h=>?_,fun h=>?_⟩
 ·rw[if_neg (by have:=of_decide_eq_true h;omega)]at hlk
  subst hlk
  (refine rg ?_;(conv=>whnf);refine aT ?_;refine rg ?_;conv=>whnf)
  exact Ac E (.cons .tmp (.cons .tmp .nil)) E E
 have h4:to<n.irbs.length:=by have:=of_decide_eq_false h;omega
 refine rg ?_;conv=>whnf
 refine Ag hr F23 E E E E E ?_
 cases hb:Ae n
 ·rw[if_neg (by simp[hb])]at hlk
  subst hlk
  (refine rg ?_;(conv=>whnf);refine aT ?_;refine rg ?_;conv=>whnf)
  exact Ac E (.cons .tmp (.cons .tmp .nil)) E E
 rw[if_pos ⟨⟨by omega,h3⟩,⟨by omega,h4⟩,hb⟩]at hlk
 have hti:InIrbs n to:=⟨by omega,by omega⟩
 have hii:InIrbs n irb:=⟨by omega,by omega⟩
 rw[Ah hti.2]at hlk
 have hui:=hu _ (List.getElem_mem hti.2)
 obtain ⟨x,hx⟩:∃ x,n.irbs[to.toNat]'hti.2=x:=⟨_,rfl⟩
 rw[hx]at hlk hui
 obtain ⟨y,hy⟩:=Int.eq_ofNat_of_zero_le hui.1
 have q1:=Ahd y x.bits qn
 have q2:=Aad y x.bits qn
 have hf:=H9 x.addr x.bits hui
 have hle:=E1 x.addr x.bits hui
 rw[← hy]at q1 q2
 generalize lastI x.addr x.bits=e at *
 generalize Ce x.addr x.bits=s at *
 (refine rg ?_;(conv=>whnf);refine aF ?_;refine rg ?_;conv=>whnf)
 refine⟨E,hti.1,hti.2,?_⟩
 rw[hx]
 conv=>whnf
 refine Aq q1 F205 E E E qq E ?_
 refine rd qq ?_;conv=>whnf
 refine Aq q2 F206 E E E qq E ?_
 refine rd qq ?_;conv=>whnf
 refine⟨qq,?_⟩
 conv=>whnf
 refine Oo (fun z:Int=>0≤z∧z≤4294967296∧res=addrGo n irb to e z) (fun z=>[(1,Aa irb),(2,Aa to),(3,.ref 8 (Al n) 0),(9,Aa z),(10,Aa e)]) (fun _=>[]) (fun z=>(e+1-z).toNat) s [] ⟨hf.1,by omega,hlk⟩
  ⟨⟨rfl,rfl,rfl,rfl,rfl,rfl,congrArg Aa (Hi (x:=s) qn qn).symm,rfl,congrArg Aa (Hi (x:=e) qn qn).symm,rfl,trivial⟩,trivial,rfl,rfl⟩ ?_
 clear hlk
 rintro z ⟨hz0,hz1,hlk⟩
 refine rg ?_;conv=>whnf
 refine⟨fun h=>?_,fun h=>?_⟩
 ·have h5:z≤e:=of_decide_eq_true h
  rw[addrGo,if_pos h5]at hlk
  have hz2:0≤z∧z<4294967296:=by omega
  have q6:=Aar n hn hb irb z hii
  have hgt:=Adg (irb:=irb) hu hb hz2
  have hth:=Mj (n:=n) (irb:=irb) (dst:=z)
  have q8:=fun led hl=>Aer n hn hu z led hz2 hl
  have q7:=Ju n.irbs (fun i:Irb=>i.addr == z) 209 [] [.ref 1 (Bj z) 0] rfl (fun i _=>⟨⟨_,_,F209⟩,Ai4 z i⟩) hn.irbs
  have ht:decide (0≤Ct (fun i:Irb=>i.addr == z) n.irbs)=Ec n z:=rfl
  rw[ht]at q7
  clear ht
  generalize Ec n z=tk at *
  generalize lookT n irb z=ld at *
  obtain ⟨led,ok⟩:=ld
  dsimp only at *
  refine rg ?_;conv=>whnf
  rw[T6 hz2.1 hz2.2]
  refine Ag q6 F207 E E E E E ?_
  refine A3 11 1 (Bj z) E E E ?_
  refine rg ?_;conv=>whnf
  refine Ag q7 F208 E E E E E ?_
  cases ok
  ·cases tk
   ·rw[if_neg qy,if_pos ⟨rfl,rfl⟩]at hlk
    subst hlk
    (refine rg ?_;(conv=>whnf);refine aF ?_;refine rg ?_;(conv=>whnf);refine aF ?_;refine rg ?_;(conv=>whnf);refine aF ?_;refine rg ?_;(conv=>whnf);refine aT ?_;refine rg ?_;(conv=>whnf);refine aT ?_;refine rg ?_;conv=>whnf)
    exact Ac E (.cons .tmp (.cons .tmp .nil)) E E
   ·rw[if_neg qy,if_neg qy,if_pos (hgt (fun h=>by cases h)).1]at hlk
    have hg:=hgt (fun h=>by cases h)
    have q:=q8 led (fun h=>by cases h)
    generalize pastI n z led=nx at *
    (refine rg ?_;(conv=>whnf);refine aF ?_;refine rg ?_;(conv=>whnf);refine aF ?_;refine rg ?_;(conv=>whnf);refine aF ?_;refine rg ?_;(conv=>whnf);refine aT ?_;refine rg ?_;(conv=>whnf);refine aF ?_;refine rg ?_;conv=>whnf)
    refine Ag q F210 E E E E E ?_
    refine rg ?_;conv=>whnf
    exact Ds nx [] ⟨by omega,hg.2,hlk⟩ qn ⟨⟨E,E,E,E,E,E,E,E,E,E,Y⟩,Y,E,E⟩
  ·have q:=q8 led (fun _=>hth rfl)
   have hg:=hgt (fun _=>rfl)
   cases tk
   ·by_cases hto:led=to
    ·subst hto
     rw[if_pos ⟨rfl,rfl,rfl⟩]at hlk
     subst hlk
     (refine rg ?_;(conv=>whnf);refine aT ?_;refine rg ?_;conv=>whnf)
     refine⟨fun h=>?_,fun h=>?_⟩
     ·(refine rg ?_;(conv=>whnf);refine aT ?_;refine rg ?_;conv=>whnf)
      exact Ac E (.cons .tmp (.cons .tmp .nil)) E E
     ·simp at h
    ·rw[if_neg (by simp[hto]),if_neg qy,if_pos hg.1]at hlk
     generalize pastI n z led=nx at *
     (refine rg ?_;(conv=>whnf);refine aT ?_;refine rg ?_;conv=>whnf)
     refine⟨fun h=>absurd (by simpa using h) hto,fun h=>?_⟩
     (refine rg ?_;(conv=>whnf);refine aF ?_;refine rg ?_;(conv=>whnf);refine aF ?_;refine rg ?_;(conv=>whnf);refine aF ?_;refine rg ?_;conv=>whnf)
     refine Ag q F210 E E E E E ?_
     refine rg ?_;conv=>whnf
     exact Ds nx [] ⟨by omega,hg.2,hlk⟩ qn ⟨⟨E,E,E,E,E,E,E,E,E,E,Y⟩,Y,E,E⟩
   ·rw[if_neg qy,if_neg qy,if_pos hg.1]at hlk
    generalize pastI n z led=nx at *
    (refine rg ?_;(conv=>whnf);refine aT ?_;refine rg ?_;conv=>whnf)
    refine⟨fun h=>?_,fun h=>?_⟩
    ·(refine rg ?_;(conv=>whnf);refine aF ?_;refine rg ?_;(conv=>whnf);refine aF ?_;refine rg ?_;(conv=>whnf);refine aF ?_;refine rg ?_;conv=>whnf)
     refine Ag q F210 E E E E E ?_
     refine rg ?_;conv=>whnf
     exact Ds nx [] ⟨by omega,hg.2,hlk⟩ qn ⟨⟨E,E,E,E,E,E,E,E,E,E,Y⟩,Y,E,E⟩
    ·(refine rg ?_;(conv=>whnf);refine aF ?_;refine rg ?_;(conv=>whnf);refine aF ?_;refine rg ?_;(conv=>whnf);refine aF ?_;refine rg ?_;conv=>whnf)
     refine Ag q F210 E E E E E ?_
     refine rg ?_;conv=>whnf
     exact Ds nx [] ⟨by omega,hg.2,hlk⟩ qn ⟨⟨E,E,E,E,E,E,E,E,E,E,Y⟩,Y,E,E⟩
 ·have h5:¬ z≤e:=of_decide_eq_false h
  rw[addrGo,if_neg h5]at hlk
  subst hlk
  refine rg ?_;conv=>whnf
  exact Ac E (.cons .tmp (.cons .tmp .nil)) E E
structure Lead where
 (to domain addr:Int)
abbrev C9 (l:Lead):SV:=.agg [Aa l.to,Aa l.domain,Bj l.addr]
instance:Inhabited Lead:=⟨⟨0,0,0⟩⟩
def leadF (n:Net) (irb:Int) (i:Nat):Option Lead:=if (addrT n irb i).2=true then some ⟨i,(nth n.irbs i).domain,(addrT n irb i).1⟩ else none
def J7 (n:Net) (irb:Int) (j:Nat):List Lead:=(List.range j).filterMap (leadF n irb)
def routesT (n:Net) (d:Int):List Lead:=if (0≤d∧d<n.domains.length)∧0≤(nth n.domains d).irb∧Ae n=true then J7 n (nth n.domains d).irb n.irbs.length else []
theorem Vb (n:Net) (irb:Int) (j:Nat):J7 n irb (j+1)=J7 n irb j++(match leadF n irb j with | some h=>[h] | none=>[]):=by
 rw[J7,List.range_succ,List.filterMap_append]
 cases h:leadF n irb j<;>simp[h,J7]
theorem J6 (n:Net) (irb:Int) (j:Nat):(J7 n irb j).length≤j:=by
 have:=List.length_filterMap_le (leadF n irb) (List.range j)
 simpa [J7] using this
theorem Y6 (n:Net) (hn:n.Fin) (hu:Df n) (d:Int):Sy.Spec Tryz.prog 96 [Al n,Aa d] [] (.sl 3 C9 (routesT n d)) []:=Ab Γ hm 100 F96 Tryz.ntmps96 rfl fun F hF=>by
 have hlk:=routesT.eq_1 n d
 generalize routesT n d=res at *
 have hr:=Be n hn
 have hsi:=hn.irbs
 unfold An at hsi
 conv=>whnf
 refine⟨fun h=>?_,fun h=>?_⟩
 ·rw[if_neg (by have:=of_decide_eq_true h;omega)]at hlk
  subst hlk
  (refine rg ?_;(conv=>whnf);refine aT ?_;refine rg ?_;(conv=>whnf);refine aT ?_;refine rg ?_;(conv=>whnf);refine aT ?_;refine rg ?_;conv=>whnf)
  refine Ap 4 3 C9 E ?_
  refine rg ?_;conv=>whnf
  exact Ac E (.cons .tmp .nil) E E
 have h1:¬ d<0:=of_decide_eq_false h
 refine A3 2 8 (Al n) E E E ?_
 refine rg ?_;conv=>whnf
 refine⟨fun h=>?_,fun h=>?_⟩
 ·rw[if_neg (by have:=of_decide_eq_true h;omega)]at hlk
  subst hlk
  (refine rg ?_;(conv=>whnf);refine aT ?_;refine rg ?_;(conv=>whnf);refine aT ?_;refine rg ?_;conv=>whnf)
  refine Ap 4 3 C9 E ?_
  refine rg ?_;conv=>whnf
  exact Ac E (.cons .tmp .nil) E E
 have h2:d<n.domains.length:=by have:=of_decide_eq_false h;omega
 have hk:d.toNat<n.domains.length:=by omega
 rw[Ah hk]at hlk
 obtain ⟨x,hx⟩:∃ x,n.domains[d.toNat]'hk=x:=⟨_,rfl⟩
 rw[hx]at hlk
 refine rg ?_;conv=>whnf
 refine⟨E,by omega,hk,?_⟩
 rw[hx]
 conv=>whnf
 refine⟨fun h=>?_,fun h=>?_⟩
 ·rw[if_neg (by have:=of_decide_eq_true h;omega)]at hlk
  subst hlk
  (refine rg ?_;(conv=>whnf);refine aT ?_;refine rg ?_;conv=>whnf)
  refine Ap 4 3 C9 E ?_
  refine rg ?_;conv=>whnf
  exact Ac E (.cons .tmp .nil) E E
 have h3:0≤x.irb:=by have:=of_decide_eq_false h;omega
 refine rg ?_;conv=>whnf
 refine Ag hr F23 E E E E E ?_
 cases hb:Ae n
 ·rw[if_neg (by simp[hb])]at hlk
  subst hlk
  (refine rg ?_;(conv=>whnf);refine aT ?_;refine rg ?_;conv=>whnf)
  refine Ap 4 3 C9 E ?_
  refine rg ?_;conv=>whnf
  exact Ac E (.cons .tmp .nil) E E
 rw[if_pos ⟨⟨by omega,h2⟩,h3,hb⟩]at hlk
 subst hlk
 (refine rg ?_;(conv=>whnf);refine aF ?_;refine rg ?_;conv=>whnf)
 refine B7 5 1000 3 C9 E E ?_
 refine Aw n.irbs.length (fun j=>[(1,Aa d),(2,.ref 8 (Al n) 0),(5,.osl 1000),(34,.sl 5 Cg n.irbs),(35,Aa n.irbs.length),(36,Aa j)]) (fun j=>[(1000,.row 3 C9 (J7 n x.irb j))]) []
  ⟨⟨rfl,rfl,rfl,rfl,rfl,rfl,rfl,rfl,rfl,rfl,rfl,rfl,trivial⟩,⟨.inl rfl,rfl,trivial⟩,rfl,rfl⟩ ?_
 intro j hj
 have hll:=J6 n x.irb j
 refine rg ?_;conv=>whnf
 refine⟨fun h=>?_,fun h=>?_⟩
 ·have hlt:j<n.irbs.length:=by simpa using h
  have hj0:((j:Nat):Int).toNat<n.irbs.length:=by simpa using hlt
  have q:=Yd n hn hu x.irb j
  have hs:=Vb n x.irb j
  have hle:=leadF.eq_1 n x.irb j
  rw[Ah hj0]at hle
  rw[hle]at hs
  obtain ⟨y,hy⟩:∃ y,n.irbs[((j:Nat):Int).toNat]'hj0=y:=⟨_,rfl⟩
  rw[hy]at hs
  generalize addrT n x.irb j=ad at *
  obtain ⟨a,ok⟩:=ad
  dsimp only at hs q
  refine rg ?_;conv=>whnf
  refine⟨E,by omega,hj0,?_⟩
  rw[hy]
  conv=>whnf
  refine⟨E,by omega,hk,?_⟩
  rw[hx]
  conv=>whnf
  refine Aq q F150 E E E qq E ?_
  refine rd qq ?_;conv=>whnf
  refine⟨qq,?_⟩
  conv=>whnf
  refine⟨fun h=>?_,fun h=>?_⟩<;>(have h:ok=_:=h;subst h)
  ·refine rg ?_;conv=>whnf
   refine Ai (Am Γ.toTy 61 E E E E E (.row E) (.lit (e:=C9) (l:=[⟨j,y.domain,a⟩]) E E) qy (by simp;omega) (by simp;omega)) E E ?_
   refine rg ?_;conv=>whnf
   refine⟨by unfold I64;omega,?_⟩
   conv=>whnf
   exact Ar [(1000,61)] hlt ⟨⟨E,E,E,E,E,E,E,E,E,E,E,E,Y⟩,⟨.inl (congrArg (Ob.row 3 C9) hs),E,Y⟩,E,E⟩
  ·refine rg ?_;conv=>whnf
   refine⟨by unfold I64;omega,?_⟩
   conv=>whnf
   exact Ar [] hlt ⟨⟨E,E,E,E,E,E,E,E,E,E,E,E,Y⟩,⟨.inl (congrArg (Ob.row 3 C9) (hs.trans (List.append_nil _))),E,Y⟩,E,E⟩
 ·have:j=n.irbs.length:=by have:=of_decide_eq_false h;omega
  subst this
  refine rg ?_;conv=>whnf
  refine Au 1000 E ?_
  refine rg ?_;conv=>whnf
  exact Ac E (.cons .tmp .nil) E E
def Hv (n:Net) (i:Int):Bool:=decide (0≤i) && decide (i<n.ports.length) && decide ((nth n.ports i).link<0)
theorem Q8 (n:Net) (i:Int):Sy.Spec Tryz.prog 22 [Al n,Aa i] [] (Ad (Hv n i)) []:=Ab Γ hm 100 F22 Tryz.ntmps22 rfl fun F hF=>by
 conv=>whnf
 refine⟨fun h=>?_,fun h=>?_⟩
 ·have h1:0≤i:=of_decide_eq_true h
  refine A3 2 8 (Al n) E E E ?_
  refine rg ?_;conv=>whnf
  refine⟨fun h=>?_,fun h=>?_⟩
  ·have h2:i<n.ports.length:=of_decide_eq_true h
   have hk:i.toNat<n.ports.length:=by omega
   rw[Hv,Ah hk,decide_eq_true h1,decide_eq_true h2,Bool.true_and,Bool.true_and]
   obtain ⟨p,hp⟩:∃ p,n.ports[i.toNat]'hk=p:=⟨_,rfl⟩
   rw[hp]
   refine rg ?_;conv=>whnf
   refine⟨E,h1,hk,?_⟩
   rw[hp]
   conv=>whnf
   exact Ac E (.cons .tmp .nil) E E
  ·have h2:¬ i<n.ports.length:=of_decide_eq_false h
   rw[Hv,decide_eq_false h2,Bool.and_false,Bool.false_and]
   refine rg ?_;conv=>whnf
   exact Ac E (.cons .tmp .nil) E E
 ·have h1:¬ 0≤i:=of_decide_eq_false h
  rw[Hv,decide_eq_false h1,Bool.false_and,Bool.false_and]
  (refine rg ?_;(conv=>whnf);refine aF ?_;refine rg ?_;conv=>whnf)
  exact Ac E (.cons .tmp .nil) E E
structure Fnd where
 (domain kind:Int) (hop:Hop) (ahead:Int)
abbrev Qe (f:Fnd):SV:=.agg [Aa f.domain,Aa f.kind,Aa f.hop.kind,Aa f.hop.port,Aa f.hop.domain,Bj f.hop.addr,Aa f.ahead]
instance:Inhabited Fnd:=⟨⟨0,0,default,0⟩⟩
structure Srch where
 (m0 m1:List Bool) (list:List Fnd)
abbrev stSV (d k:Int):SV:=.agg [Aa d,Aa k]
abbrev Uz (n:Net) (S:Srch):Obs:=[(0,.box [.sl 5 Bm n.devices,.sl 7 A5 n.ports,.sl 3 Ch n.links,.sl 6 At n.domains,.sl 4 Bk n.statics,.sl 4 Bw n.floods,.sl 5 Cv n.vrfs,.sl 5 Cg n.irbs,.osl 1,.osl 2,.osl 3]),
 (1,.row 1 Ad S.m0),(2,.row 1 Ad S.m1),(3,.row 7 Qe S.list)]
abbrev Se (n:Net) (S:Srch):Obs:=[(0,.box [.sl 5 Bm n.devices,.sl 7 A5 n.ports,.sl 3 Ch n.links,.sl 6 At n.domains,.sl 4 Bk n.statics,.sl 4 Bw n.floods,.sl 5 Cv n.vrfs,.sl 5 Cg n.irbs,.osl 1,.osl 2,.osl 4]),
 (1,.row 1 Ad S.m0),(2,.row 1 Ad S.m1),(3,.non),(4,.row 7 Qe S.list)]
def Kl (S:Srch) (d k:Int):Bool:=if k=0 then nth S.m0 d else nth S.m1 d
def Jf (S:Srch) (d k:Int) (h:Hop) (ahead:Int):Srch :=
 if k=0 then ⟨S.m0.set d.toNat true,S.m1,S.list++[⟨d,k,h,ahead⟩]⟩ else ⟨S.m0,S.m1.set d.toNat true,S.list++[⟨d,k,h,ahead⟩]⟩
def meetT (S:Srch) (d k:Int) (h:Hop) (ahead:Int):Srch:=if Kl S d k=true then S else Jf S d k h ahead
theorem Ami (n:Net) (S:Srch) (d:Int) (h:Hop) (ahead:Int) (hd:0≤d∧d.toNat<S.m0.length) (hl:An S.list) :
  Sy.Spec Tryz.prog 90 [.ptr 0 0,stSV d 0,A6 h,Aa ahead] (Uz n S) (.tup []) (Se n (meetT S d 0 h ahead)):=Ab Γ hm 100 F90 Tryz.ntmps90 rfl fun F hF=>by
 unfold An at hl
 have hlk:=meetT.eq_1 S d 0 h ahead
 rw[Kl,if_pos rfl,Ah hd.2,show Jf S d 0 h ahead=⟨S.m0.set d.toNat true,S.m1,S.list++[⟨d,0,h,ahead⟩]⟩ from if_pos rfl]at hlk
 generalize meetT S d 0 h ahead=res at *
 conv=>whnf
 refine⟨by decide,by decide,?_⟩
 conv=>whnf
 refine⟨hd.1,hd.2,?_⟩
 conv=>whnf
 refine⟨E,hd.2,?_⟩
 conv=>whnf
 refine⟨qq,?_⟩
 conv=>whnf
 refine⟨fun h1=>?_,fun h1=>?_⟩
 rotate_left
 ·rw[if_pos (by simpa using h1)]at hlk
  subst hlk
  refine M5 3 1000 E E qx ?_
  refine rg ?_;conv=>whnf
  exact Ba E .nil [(4,1000)] (Se n res) (fun _ h=>h) E E ⟨Y,⟨.inl E,E,.inl E,E,.inl E,E,.inl E,E,.inl E,E,Y⟩,E,E⟩
 rw[if_neg (by simpa using h1)]at hlk
 subst hlk
 refine rg ?_;conv=>whnf
 refine⟨by decide,by decide,?_⟩
 conv=>whnf
 refine⟨hd.1,hd.2,?_⟩
 conv=>whnf
 refine⟨E,hd.2,true,E,E,?_⟩
 conv=>whnf
 refine⟨qq,?_⟩
 conv=>whnf
 refine Bn (Am Γ.toTy 40 E E E E E (.row E) (.lit (e:=Qe) (l:=[⟨d,0,h,ahead⟩]) E E) qy (by simp;omega) (by simp;omega)) qq E ?_
 refine rd qq ?_;conv=>whnf
 refine⟨qq,?_⟩
 conv=>whnf
 exact Ba E .nil [(4,40)] (Se n ⟨S.m0.set d.toNat true,S.m1,S.list++[⟨d,0,h,ahead⟩]⟩) (fun _ h=>h) E E ⟨Y,⟨.inl E,E,.inl E,E,.inl E,E,.inl E,E,.inl E,E,Y⟩,E,E⟩
theorem Amh (n:Net) (S:Srch) (d:Int) (h:Hop) (ahead:Int) (hd:0≤d∧d.toNat<S.m1.length) (hl:An S.list) :
  Sy.Spec Tryz.prog 90 [.ptr 0 0,stSV d 1,A6 h,Aa ahead] (Uz n S) (.tup []) (Se n (meetT S d 1 h ahead)):=Ab Γ hm 100 F90 Tryz.ntmps90 rfl fun F hF=>by
 unfold An at hl
 have hlk:=meetT.eq_1 S d 1 h ahead
 rw[show Kl S d 1=nth S.m1 d from if_neg qx,Ah hd.2,show Jf S d 1 h ahead=⟨S.m0,S.m1.set d.toNat true,S.list++[⟨d,1,h,ahead⟩]⟩ from if_neg qx]at hlk
 generalize meetT S d 1 h ahead=res at *
 conv=>whnf
 refine⟨by decide,by decide,?_⟩
 conv=>whnf
 refine⟨hd.1,hd.2,?_⟩
 conv=>whnf
 refine⟨E,hd.2,?_⟩
 conv=>whnf
 refine⟨qq,?_⟩
 conv=>whnf
 refine⟨fun h1=>?_,fun h1=>?_⟩
 rotate_left
 ·rw[if_pos (by simpa using h1)]at hlk
  subst hlk
  refine M5 3 1000 E E qx ?_
  refine rg ?_;conv=>whnf
  exact Ba E .nil [(4,1000)] (Se n res) (fun _ h=>h) E E ⟨Y,⟨.inl E,E,.inl E,E,.inl E,E,.inl E,E,.inl E,E,Y⟩,E,E⟩
 rw[if_neg (by simpa using h1)]at hlk
 subst hlk
 refine rg ?_;conv=>whnf
 refine⟨by decide,by decide,?_⟩
 conv=>whnf
 refine⟨hd.1,hd.2,?_⟩
 conv=>whnf
 refine⟨E,hd.2,true,E,E,?_⟩
 conv=>whnf
 refine⟨qq,?_⟩
 conv=>whnf
 refine Bn (Am Γ.toTy 40 E E E E E (.row E) (.lit (e:=Qe) (l:=[⟨d,1,h,ahead⟩]) E E) qy (by simp;omega) (by simp;omega)) qq E ?_
 refine rd qq ?_;conv=>whnf
 refine⟨qq,?_⟩
 conv=>whnf
 exact Ba E .nil [(4,40)] (Se n ⟨S.m0,S.m1.set d.toNat true,S.list++[⟨d,1,h,ahead⟩]⟩) (fun _ h=>h) E E ⟨Y,⟨.inl E,E,.inl E,E,.inl E,E,.inl E,E,.inl E,E,Y⟩,E,E⟩
structure Srch.OK (n:Net) (S:Srch):Prop where
 l0:S.m0.length=n.domains.length
 l1:S.m1.length=n.domains.length
 at_:∀ f∈S.list,(0≤f.domain∧f.domain.toNat<n.domains.length)∧(f.kind=0∨f.kind=1)
 len:S.list.length≤S.m0.count true+S.m1.count true
theorem Srch.OK.le {n:Net} {S:Srch} (h:S.OK n):S.list.length≤2 * n.domains.length:=by
 have h1:S.m0.count true≤S.m0.length:=List.count_le_length
 have h2:S.m1.count true≤S.m1.length:=List.count_le_length
 have:=h.len
 rw[h.l0]at h1
 rw[h.l1]at h2
 omega
theorem count_set {l:List Bool} {i:Nat} (h:i<l.length) (hi:l[i]=false):(l.set i true).count true=l.count true+1:=by
 rw[List.count_set h,hi]
 simp
theorem Srch.OK.meet {n:Net} {S:Srch} (h:S.OK n) {d k:Int} (hd:0≤d∧d.toNat<n.domains.length) (hk:k=0∨k=1) (hp:Hop) (a:Int):(meetT S d k hp a).OK n:=by
 rw[meetT]
 split
 ·exact h
 rename_i hmt
 have h0:d.toNat<S.m0.length:=by rw[h.l0];exact hd.2
 have h1:d.toNat<S.m1.length:=by rw[h.l1];exact hd.2
 rcases hk with rfl | rfl
 ·rw[Kl,if_pos rfl,Ah h0]at hmt
  rw[Jf,if_pos rfl]
  refine⟨by simp[h.l0],h.l1,fun f hf=>?_,?_⟩
  ·rcases List.mem_append.1 hf with hf | hf
   ·exact h.at_ f hf
   ·rw[List.mem_singleton]at hf
    subst hf
    exact⟨hd,.inl E⟩
  ·rw[count_set h0 (by simpa using hmt),List.length_append,List.length_singleton]
   have:=h.len
   show _≤_+S.m1.count true
   omega
 ·rw[Kl,if_neg qx,Ah h1]at hmt
  rw[Jf,if_neg qx]
  refine⟨h.l0,by simp[h.l1],fun f hf=>?_,?_⟩
  ·rcases List.mem_append.1 hf with hf | hf
   ·exact h.at_ f hf
   ·rw[List.mem_singleton]at hf
    subst hf
    exact⟨hd,.inr E⟩
  ·rw[count_set h1 (by simpa using hmt),List.length_append,List.length_singleton]
   have:=h.len
   show _≤S.m0.count true+_
   omega
theorem Aeh {n:Net} (h:Ae n=true) {i:Nat} (hi:i<n.ports.length) {v:Int} (hv:Cp n.ports[i] v=true):0≤Mx n n.ports[i].dev v∧(Mx n n.ports[i].dev v).toNat<n.domains.length:=by
 have hp:=X4 h hi
 simp only[Eh,Bool.and_eq_true,Bool.not_eq_true']at hp
 simp only[Cp,Bool.and_eq_true,bne_iff_ne,Bool.or_eq_true,beq_iff_eq]at hv
 have h0:0≤Mx n n.ports[i].dev v:=by
  rcases hv.2 with h1 | h1
  ·have h2:=hp.1.2
   have h3:=hp.1.1.1.1.1.1.1.2
   rw[h1]at hv ⊢
   have h4:decide (0<n.ports[i].native)=true:=by
    simp only[decide_eq_true_eq]at h3 ⊢
    omega
   rw[h4]at h2
   simpa [By] using h2
  ·have h2:=hp.1.1.2
   obtain ⟨x,hx,e⟩:=List.any_eq_true.1 h1
   obtain ⟨j,hj,rfl⟩:=List.mem_iff_getElem.1 hx
   have h3:=allB_iff.1 h2 j hj
   simp only[beq_iff_eq]at e
   rw[e]at h3
   simpa [By] using h3
 refine⟨h0,?_⟩
 have:=E9 (fun d:Domain=>d.dev == n.ports[i].dev && d.vlan == v) n.domains
 have e:Mx n n.ports[i].dev v=Ct (fun d:Domain=>d.dev == n.ports[i].dev && d.vlan == v) n.domains:=rfl
 omega
theorem Adw {n:Net} {i v:Int} (h:(linkDomT n i v).2=true):0≤(linkDomT n i v).1∧(linkDomT n i v).1.toNat<n.domains.length:=by
 unfold linkDomT at h ⊢
 split at h
 ·rename_i hc
  rw[if_pos hc]
  have hth:=Lq hc
  unfold crossT at hc hth ⊢
  split at hc
  ·rename_i h1
   rw[if_pos h1]at hth ⊢
   have hb:=(Hs h1.1).2.1
   have h2:=h1.2.2
   rw[To]at h2 ⊢
   rw[B5,if_pos hb]
   dsimp only at hth ⊢
   rw[Ah hth.2]at h2 ⊢
   refine Aeh hb hth.2 ?_
   simp only[Cp,Bool.and_eq_true,bne_iff_ne,Bool.or_eq_true,beq_iff_eq]
   refine⟨h2,?_⟩
   split
   ·exact .inl E
   ·rename_i h3
    rw[if_neg h3]at h2
    split
    ·rename_i h4
     exact .inr h4
    ·rename_i h4
     rw[if_neg h4]at h2
     exact absurd E h2
  ·cases hc
 ·cases h
theorem e_peer {n:Net} (h:Ae n=true) {i:Nat} (hi:i<n.domains.length) {p:Int} (hp:p∈n.domains[i].peers):0≤p∧p.toNat<n.domains.length:=by
 simp only[Ae,Bool.and_eq_true]at h
 have h1:=allB_iff.1 h.1.1.1.1.1.1.2 i hi
 obtain ⟨j,hj,rfl⟩:=List.mem_iff_getElem.1 hp
 have h2:=allB_iff.1 h1 j hj
 simp only[Lx,Aj,Bool.and_eq_true,decide_eq_true_eq]at h2
 omega
theorem Ta {n:Net} {d:Int} {h:Hop} (hh:h∈E3 n d):0≤h.domain∧h.domain.toNat<n.domains.length:=by
 rw[E3]at hh
 split at hh
 ·rename_i hd
  have hk:d.toNat<n.domains.length:=by have:=hd.1;omega
  rw[hopsL,Ah hk]at hh
  rcases List.mem_append.1 hh with hh | hh
  ·obtain ⟨p,_,hp⟩:=List.mem_filterMap.1 hh
   rw[linkHop]at hp
   split at hp
   ·rename_i hl
    simp only[Option.some.injEq]at hp
    subst hp
    exact Adw hl
   ·cases hp
  ·obtain ⟨p,hp,rfl⟩:=List.mem_map.1 hh
   exact e_peer hd.2 hk hp
 ·cases hh
theorem Qo {n:Net} {d:Int} {q:Lead} (hq:q∈routesT n d):0≤q.domain∧q.domain.toNat<n.domains.length:=by
 rw[routesT]at hq
 split at hq
 ·rename_i hc
  obtain ⟨i,hi,hp⟩:=List.mem_filterMap.1 hq
  rw[leadF]at hp
  split at hp
  ·simp only[Option.some.injEq]at hp
   subst hp
   have hi':((i:Nat):Int).toNat<n.irbs.length:=by simpa using hi
   show 0≤(nth n.irbs i).domain∧_
   rw[Ah hi']
   exact(B4 hc.2.2 hi').1
  ·cases hp
 ·cases hq
end Go.Sy.YteinjapglfkamaaGreat
namespace Go.Sy.YteinjapglfkamaaGreat
open Go.Proofs
attribute [local irreducible] Go.Sy.G Go.Sy.DR
set_option maxRecDepth 20000
set_option maxHeartbeats 8000000
def ext1 (S:Srch) (k i:Int) (l:List Hop):Srch:=l.foldl (fun S h=>meetT S h.domain k h i) S
def ext2 (S:Srch) (i:Int) (l:List Lead):Srch:=l.foldl (fun S q=>meetT S q.domain 1 ⟨3,0,q.domain,q.addr⟩ i) S
def extT (n:Net) (S:Srch) (i:Int):Srch :=
 if (nth S.list i).kind=0 then ext2 (ext1 S 0 i (E3 n (nth S.list i).domain)) i (routesT n (nth S.list i).domain) else ext1 S 1 i (E3 n (nth S.list i).domain)
theorem Us (S:Srch) (k i:Int) {l:List Hop} {j:Nat} {h:Hop} (hj:j<l.length) (hh:l[j]=h):ext1 S k i (l.take (j+1))=meetT (ext1 S k i (l.take j)) h.domain k h i:=by
 subst hh
 rw[ext1,List.take_add_one,List.getElem?_eq_getElem hj,List.foldl_append]
 rfl
theorem Ur (S:Srch) (i:Int) {l:List Lead} {j:Nat} {q:Lead} (hj:j<l.length) (hh:l[j]=q):ext2 S i (l.take (j+1))=meetT (ext2 S i (l.take j)) q.domain 1 ⟨3,0,q.domain,q.addr⟩ i:=by
 subst hh
 rw[ext2,List.take_add_one,List.getElem?_eq_getElem hj,List.foldl_append]
 rfl
theorem Srch.OK.ext1 {n:Net} {k i:Int} (hk:k=0∨k=1):∀ {l:List Hop} {S:Srch},S.OK n→(∀ h∈l,0≤h.domain∧h.domain.toNat<n.domains.length)→(ext1 S k i l).OK n
 | [],S,h,_=>h
 | x::l,S,h,hl=>Srch.OK.ext1 hk (l:=l) (h.meet (hl x qy) hk x i) (fun y hy=>hl y (by simp[hy]))
theorem Srch.OK.ext2 {n:Net} {i:Int}:∀ {l:List Lead} {S:Srch},S.OK n→(∀ h∈l,0≤h.domain∧h.domain.toNat<n.domains.length)→(ext2 S i l).OK n
 | [],S,h,_=>h
 | x::l,S,h,hl=>Srch.OK.ext2 (l:=l) (h.meet (hl x qy) (.inr rfl) _ i) (fun y hy=>hl y (by simp[hy]))
theorem Srch.OK.ext {n:Net} {S:Srch} (h:S.OK n) (i:Int):(extT n S i).OK n:=by
 rw[extT]
 split
 ·exact(h.ext1 (.inl E) (fun x hx=>Ta hx)).ext2 (fun x hx=>Qo hx)
 ·exact h.ext1 (.inr E) (fun x hx=>Ta hx)
theorem Mp {n:Net} (hn:n.Fin) (d:Int):(E3 n d).length<4294967296:=by
 have h1:=C5 n hn d
 unfold An at h1
 rw[E3]
 split
 ·rename_i hd
  have hk:d.toNat<n.domains.length:=by have:=hd.1;omega
  have h2:=hn.peers _ (List.getElem_mem hk)
  unfold An at h2
  have h3:=List.length_filterMap_le (linkHop n d) (Bd n d)
  rw[hopsL,Ah hk,List.length_append,List.length_map]
  omega
 ·decide
theorem Jz {n:Net} (hn:n.Fin) (d:Int):(routesT n d).length<4294967296:=by
 have h1:=hn.irbs
 unfold An at h1
 rw[routesT]
 split
 ·have:=J6 n (nth n.domains d).irb n.irbs.length
  omega
 ·decide
abbrev Alk (n:Net) (S:Srch) (d k:Int):Obs:=[(0,.box [.sl 5 Bm n.devices,.sl 7 A5 n.ports,.sl 3 Ch n.links,.sl 6 At n.domains,.sl 4 Bk n.statics,.sl 4 Bw n.floods,.sl 5 Cv n.vrfs,.sl 5 Cg n.irbs,.osl 1,.osl 2,.osl 1000]),
 (1,.row 1 Ad S.m0),(2,.row 1 Ad S.m1),(3,.non),(1000,.row 7 Qe S.list),(4,.box [Aa d,Aa k])]
theorem Ao2 (n:Net) (hn:n.Fin) (hu:Df n) (hD:n.domains.length<1000000) (S:Srch) (hS:S.OK n) (i:Int) (hi:0≤i∧i.toNat<S.list.length) :
  Sy.Spec Tryz.prog 28 [.ptr 0 0,Aa i] (Uz n S) (.tup []) (Se n (extT n S i)):=Ab Γ hm 100 F28 Tryz.ntmps28 rfl fun F hF=>by
 have hlk:=extT.eq_1 n S i
 rw[Ah hi.2]at hlk
 generalize extT n S i=res at *
 have hfk:=(hS.at_ _ (List.getElem_mem hi.2)).2
 obtain ⟨f,hf⟩:∃ f,S.list[i.toNat]'hi.2=f:=⟨_,rfl⟩
 rw[hf]at hlk hfk
 obtain ⟨d,k,hp,ah⟩:=f
 dsimp only at hlk hfk
 have q1:=Afs n hn d
 have q2:=Y6 n hn hu d
 have hin1:=fun h=>Ta (n:=n) (d:=d) (h:=h)
 have hin2:=fun h=>Qo (n:=n) (d:=d) (q:=h)
 have hs1:=Mp hn d
 have hs2:=Jz hn d
 generalize E3 n d=hops at *
 generalize routesT n d=leads at *
 have ok1:∀ k,k=0∨k=1→∀ j,(ext1 S k i (hops.take j)).OK n:=fun k hk j=>hS.ext1 hk (fun x hx=>hin1 x (List.mem_of_mem_take hx))
 have ok2:∀ j,(ext2 (ext1 S 0 i hops) i (leads.take j)).OK n:=fun j=>Srch.OK.ext2 (hS.ext1 (.inl rfl) (fun x hx=>hin1 x hx)) (fun x hx=>hin2 x (List.mem_of_mem_take hx))
 have hsucc:=fun k j h hj hh=>Us S k i (l:=hops) (j:=j) (h:=h) hj hh
 have hsucc2:=fun j h hj hh=>Ur (ext1 S 0 i hops) i (l:=leads) (j:=j) (q:=h) hj hh
 conv=>whnf
 refine⟨hi.1,hi.2,?_⟩
 conv=>whnf
 refine⟨by intro e;rw[e]at hi;simp at hi,?_⟩
 conv=>whnf
 refine⟨E,hi.2,?_⟩
 rw[hf]
 conv=>whnf
 rcases hfk with rfl | rfl
 ·rw[if_pos rfl]at hlk
  have ok1:=ok1 0 qx
  have hsucc:=hsucc 0
  refine rd qq ?_;conv=>whnf
  refine Aq q1 F95 E E E qq E ?_
  refine rd qq ?_;conv=>whnf
  refine⟨qq,?_⟩
  conv=>whnf
  refine M5 3 1000 E E qx ?_
  refine Aw hops.length (fun j=>[(0,.ptr 0 0),(1,Aa i),(4,.ptr 4 0),(23,.sl 4 A6 hops),(24,Aa hops.length),(25,Aa j)]) (fun j=>Alk n (ext1 S 0 i (hops.take j)) d 0) []
   ⟨⟨rfl,rfl,rfl,rfl,rfl,rfl,rfl,rfl,rfl,rfl,rfl,rfl,trivial⟩,⟨.inl rfl,rfl,.inl rfl,rfl,.inl rfl,rfl,.inl rfl,rfl,.inl rfl,rfl,.inl rfl,rfl,trivial⟩,rfl,rfl⟩ ?_
  intro j hj
  have okj:=ok1 j
  have lej:=okj.le
  have l0:=okj.l0
  have scj:=hsucc j
  generalize hSj:ext1 S 0 i (hops.take j)=Sj at *
  refine rg ?_;conv=>whnf
  refine⟨fun h=>?_,fun h=>?_⟩
  ·have hlt:j<hops.length:=by simpa using h
   have hj0:((j:Nat):Int).toNat<hops.length:=by simpa using hlt
   obtain ⟨hp,hhp⟩:∃ hp,hops[((j:Nat):Int).toNat]'hj0=hp:=⟨_,rfl⟩
   have hdi:=hin1 hp (by rw[← hhp];exact List.getElem_mem _)
   have sc:=scj hp hlt hhp
   have q3:=Ami n Sj hp.domain hp i (by rw[l0];exact hdi) (by unfold An;omega)
   rw[← sc]at q3
   refine rg ?_;conv=>whnf
   refine⟨E,by omega,hj0,?_⟩
   rw[hhp]
   conv=>whnf
   refine Ai (Ak [(0,0),(1,1),(2,2),(3,1000),(4,1001)] E F90 q3 E ⟨E,E,E,E,Y⟩ E ⟨.inl E,.inl E,.inl E,.inl E,.inr E,Y⟩) E E ?_
   refine rg ?_;conv=>whnf
   refine⟨by unfold I64;omega,?_⟩
   conv=>whnf
   exact Ar [(1000,1001)] hlt ⟨⟨E,E,E,E,E,E,E,E,E,E,E,E,Y⟩,⟨.inl E,E,.inl E,E,.inl E,E,.inl E,E,.inl E,E,.inl E,E,Y⟩,E,E⟩
  ·have:j=hops.length:=by have:=of_decide_eq_false h;omega
   subst this
   rw[List.take_length]at hSj
   simp only[hSj]at hlk ok2 hsucc2
   (refine rg ?_;(conv=>whnf);refine aT ?_;refine rg ?_;conv=>whnf)
   refine Aq q2 F96 E E E qq E ?_
   refine rd qq ?_;conv=>whnf
   refine⟨qq,?_⟩
   conv=>whnf
   refine Aw leads.length (fun j=>[(0,.ptr 0 0),(1,Aa i),(4,.ptr 4 0),(48,.sl 3 C9 leads),(49,Aa leads.length),(50,Aa j)]) (fun j=>Alk n (ext2 Sj i (leads.take j)) d 0) []
    ⟨⟨rfl,rfl,rfl,rfl,rfl,rfl,rfl,rfl,rfl,rfl,rfl,rfl,trivial⟩,⟨.inl rfl,rfl,.inl rfl,rfl,.inl rfl,rfl,.inl rfl,rfl,.inl rfl,rfl,.inl rfl,rfl,trivial⟩,rfl,rfl⟩ ?_
   intro j hj
   have okj:=ok2 j
   have lej:=okj.le
   have l0:=okj.l1
   have scj:=hsucc2 j
   generalize hSk:ext2 Sj i (leads.take j)=Sk at *
   refine rg ?_;conv=>whnf
   refine⟨fun h=>?_,fun h=>?_⟩
   ·have hlt:j<leads.length:=by simpa using h
    have hj0:((j:Nat):Int).toNat<leads.length:=by simpa using hlt
    obtain ⟨hp,hhp⟩:∃ hp,leads[((j:Nat):Int).toNat]'hj0=hp:=⟨_,rfl⟩
    have hdi:=hin2 hp (by rw[← hhp];exact List.getElem_mem _)
    have sc:=scj hp hlt hhp
    have q3:=Amh n Sk hp.domain ⟨3,0,hp.domain,hp.addr⟩ i (by rw[l0];exact hdi) (by unfold An;omega)
    rw[← sc]at q3
    refine rg ?_;conv=>whnf
    refine⟨E,by omega,hj0,?_⟩
    rw[hhp]
    conv=>whnf
    refine Ai (Ak [(0,0),(1,1),(2,2),(3,1000),(4,1001)] E F90 q3 E ⟨E,E,E,E,Y⟩ E ⟨.inl E,.inl E,.inl E,.inl E,.inr E,Y⟩) E E ?_
    refine rg ?_;conv=>whnf
    refine⟨by unfold I64;omega,?_⟩
    conv=>whnf
    exact Ar [(1000,1001)] hlt ⟨⟨E,E,E,E,E,E,E,E,E,E,E,E,Y⟩,⟨.inl E,E,.inl E,E,.inl E,E,.inl E,E,.inl E,E,.inl E,E,Y⟩,E,E⟩
   ·have:j=leads.length:=by have:=of_decide_eq_false h;omega
    subst this
    rw[List.take_length]at hSk
    rw[hSk]at hlk
    subst hlk
    refine rg ?_;conv=>whnf
    exact Ba E .nil [(4,1000)] (Se n _) (fun _ h=>h) E E ⟨Y,⟨.inl E,E,.inl E,E,.inl E,E,.inl E,E,.inl E,E,Y⟩,E,E⟩
 ·rw[if_neg qx]at hlk
  clear ok2 hsucc2 q2 hs2 hin2
  have ok1:=ok1 1 qx
  have hsucc:=hsucc 1
  refine rd qq ?_;conv=>whnf
  refine Aq q1 F95 E E E qq E ?_
  refine rd qq ?_;conv=>whnf
  refine⟨qq,?_⟩
  conv=>whnf
  refine M5 3 1000 E E qx ?_
  refine Aw hops.length (fun j=>[(0,.ptr 0 0),(1,Aa i),(4,.ptr 4 0),(23,.sl 4 A6 hops),(24,Aa hops.length),(25,Aa j)]) (fun j=>Alk n (ext1 S 1 i (hops.take j)) d 1) []
   ⟨⟨rfl,rfl,rfl,rfl,rfl,rfl,rfl,rfl,rfl,rfl,rfl,rfl,trivial⟩,⟨.inl rfl,rfl,.inl rfl,rfl,.inl rfl,rfl,.inl rfl,rfl,.inl rfl,rfl,.inl rfl,rfl,trivial⟩,rfl,rfl⟩ ?_
  intro j hj
  have okj:=ok1 j
  have lej:=okj.le
  have l0:=okj.l1
  have scj:=hsucc j
  generalize hSj:ext1 S 1 i (hops.take j)=Sj at *
  refine rg ?_;conv=>whnf
  refine⟨fun h=>?_,fun h=>?_⟩
  ·have hlt:j<hops.length:=by simpa using h
   have hj0:((j:Nat):Int).toNat<hops.length:=by simpa using hlt
   obtain ⟨hp,hhp⟩:∃ hp,hops[((j:Nat):Int).toNat]'hj0=hp:=⟨_,rfl⟩
   have hdi:=hin1 hp (by rw[← hhp];exact List.getElem_mem _)
   have sc:=scj hp hlt hhp
   have q3:=Amh n Sj hp.domain hp i (by rw[l0];exact hdi) (by unfold An;omega)
   rw[← sc]at q3
   refine rg ?_;conv=>whnf
   refine⟨E,by omega,hj0,?_⟩
   rw[hhp]
   conv=>whnf
   refine Ai (Ak [(0,0),(1,1),(2,2),(3,1000),(4,1001)] E F90 q3 E ⟨E,E,E,E,Y⟩ E ⟨.inl E,.inl E,.inl E,.inl E,.inr E,Y⟩) E E ?_
   refine rg ?_;conv=>whnf
   refine⟨by unfold I64;omega,?_⟩
   conv=>whnf
   exact Ar [(1000,1001)] hlt ⟨⟨E,E,E,E,E,E,E,E,E,E,E,E,Y⟩,⟨.inl E,E,.inl E,E,.inl E,E,.inl E,E,.inl E,E,.inl E,E,Y⟩,E,E⟩
  ·have:j=hops.length:=by have:=of_decide_eq_false h;omega
   subst this
   rw[List.take_length]at hSj
   rw[hSj]at hlk
   subst hlk
   (refine rg ?_;(conv=>whnf);refine aF ?_;refine rg ?_;conv=>whnf)
   exact Ba E .nil [(4,1000)] (Se n _) (fun _ h=>h) E E ⟨Y,⟨.inl E,E,.inl E,E,.inl E,E,.inl E,E,.inl E,E,Y⟩,E,E⟩
def He (n:Net) (dev:Int) (S:Srch) (v:Int):Srch:=if v=0 then S else meetT S (B5 n dev v) 0 ⟨0,0,B5 n dev v,0⟩ (-1)
def Is (n:Net):Srch:=⟨List.replicate n.domains.length false,List.replicate n.domains.length false,[]⟩
def D2 (n:Net) (dev:Int) (l:List Int):Srch:=l.foldl (He n dev) (Is n)
def beginT (n:Net) (port:Int):Srch:=D2 n (nth n.ports port).dev ((nth n.ports port).native::(nth n.ports port).tagged)
theorem M0 (n:Net) (dev:Int) {l:List Int} {j:Nat} {v:Int} (hj:j<l.length) (hh:l[j]=v):D2 n dev (l.take (j+1))=He n dev (D2 n dev (l.take j)) v:=by
 subst hh
 rw[D2,List.take_add_one,List.getElem?_eq_getElem hj,List.foldl_append]
 rfl
theorem Aci (n:Net):(Is n).OK n:=⟨by simp[Is],by simp[Is],fun f hf=>by simp[Is]at hf,by simp[Is]⟩
theorem On {n:Net} {dev:Int} {l:List Int} (h:∀ v∈l,v≠0→0≤B5 n dev v∧(B5 n dev v).toNat<n.domains.length):(D2 n dev l).OK n:=by
 suffices hs:∀ (l:List Int) (S:Srch),S.OK n→(∀ v∈l,v≠0→0≤B5 n dev v∧(B5 n dev v).toNat<n.domains.length)→(l.foldl (He n dev) S).OK n from hs l _ (Aci n) h
 intro l
 induction l with
 | nil=>exact fun S h _=>h
 | cons x l ih =>
  intro S hS hl
  refine ih _ ?_ (fun v hv=>hl v (by simp[hv]))
  rw[He]
  split
  ·exact hS
  ·rename_i hx
   exact hS.meet (hl x qy hx) (.inl E) _ _
theorem Hk {n:Net} (hb:Ae n=true) {i:Nat} (hi:i<n.ports.length) {v:Int} (hv:v∈n.ports[i].native::n.ports[i].tagged) (h0:v≠0) :
  0≤B5 n n.ports[i].dev v∧(B5 n n.ports[i].dev v).toNat<n.domains.length:=by
 rw[B5,if_pos hb]
 refine Aeh hb hi ?_
 simp only[Cp,Bool.and_eq_true,bne_iff_ne,Bool.or_eq_true,beq_iff_eq]
 refine⟨h0,?_⟩
 rcases List.mem_cons.1 hv with h | h
 ·exact .inl h
 ·exact .inr (List.any_eq_true.2 ⟨v,h,by simp⟩)
abbrev Wq (n:Net) (a b c:SV):Ob:=.box [.sl 5 Bm n.devices,.sl 7 A5 n.ports,.sl 3 Ch n.links,.sl 6 At n.domains,.sl 4 Bk n.statics,.sl 4 Bw n.floods,.sl 5 Cv n.vrfs,.sl 5 Cg n.irbs,a,b,c]
abbrev Sv:SV:=.val (.slice none 0 0)
def madeO (n:Net):Nat→Obs
 | 0=>[(0,Wq n Sv Sv Sv)]
 | 1=>[(0,Wq n (.osl 1001) Sv Sv),(1001,.row 1 Ad (List.replicate n.domains.length false))]
 | _=>[(0,Wq n (.osl 1001) (.osl 1002) Sv),(1001,.row 1 Ad (List.replicate n.domains.length false)),(1002,.row 1 Ad (List.replicate n.domains.length false))]
abbrev srchB (n:Net) (S:Srch) (vs:List Int):Obs:=[(0,Wq n (.osl 1001) (.osl 1002) (.osl 1003)),(1001,.row 1 Ad S.m0),(1002,.row 1 Ad S.m1),(1003,.row 7 Qe S.list),(38,.row 1 Aa vs)]
theorem beginS (n:Net) (hn:n.Fin) (hb:Ae n=true) (hD:n.domains.length<1000000) (port:Int) (hp:0≤port∧port.toNat<n.ports.length) :
  Sy.Spec Tryz.prog 24 [.ptr 0 0,Aa port] [(0,Wq n Sv Sv Sv)] (.tup []) (Uz n (beginT n port)):=Ab Γ hm 100 F24 Tryz.ntmps24 rfl fun F hF=>by
 have hlk:=beginT.eq_1 n port
 rw[Ah hp.2]at hlk
 generalize beginT n port=res at *
 have hin:=fun v hv h0=>Hk hb hp.2 (v:=v) hv h0
 have hts:=hn.tagged _ (List.getElem_mem hp.2)
 unfold An at hts
 obtain ⟨p,hpp⟩:∃ p,n.ports[port.toNat]'hp.2=p:=⟨_,rfl⟩
 rw[hpp]at hlk hin hts
 have hok:∀ j,(D2 n p.dev ((p.native::p.tagged).take j)).OK n:=fun j=>On fun v hv h0=>hin v (List.mem_of_mem_take hv) h0
 have hsc:=fun j v hj hh=>M0 n p.dev (l:=p.native::p.tagged) (j:=j) (v:=v) hj hh
 have hd:=fun v=>I1 n hn p.dev v
 conv=>whnf
 refine⟨E,hp.1,hp.2,?_⟩
 rw[hpp]
 conv=>whnf
 refine A3 4 7 (A5 p) E E E ?_
 refine Ay 2 (fun _=>True) (fun j=>[(0,.ptr 0 0),(4,.ref 7 (A5 p) 0),(17,Aa j)]) (fun j=>madeO n j) [] Y ⟨⟨E,E,E,E,E,E,Y⟩,⟨.inl E,E,Y⟩,E,E⟩ ?_
 intro j hj _
 refine rg ?_;conv=>whnf
 refine⟨fun h=>?_,fun h=>?_⟩
 ·have hlt:j<2:=by have:=of_decide_eq_true h;omega
  have hj01:j=0∨j=1:=by omega
  rcases hj01 with rfl | rfl
  ·refine rg ?_;conv=>whnf
   refine Bn (Br Γ.toTy (d:=28) (n:=n.domains.length) Ad false E E E E E E E E qn qn E E E) qq E ?_
   refine rd qq ?_;conv=>whnf
   refine⟨by decide,by decide,?_⟩
   conv=>whnf
   refine⟨qq,?_⟩
   conv=>whnf
   refine⟨by unfold I64;decide,?_⟩
   conv=>whnf
   exact Av [(1001,28)] Y qx Y ⟨⟨E,E,E,E,E,E,Y⟩,⟨.inl E,E,.inl E,E,Y⟩,E,E⟩
  ·refine rg ?_;conv=>whnf
   refine Bn (Br Γ.toTy (d:=28) (n:=n.domains.length) Ad false E E E E E E E E qn qn E E E) qq E ?_
   refine rd qq ?_;conv=>whnf
   refine⟨by decide,by decide,?_⟩
   conv=>whnf
   refine⟨qq,?_⟩
   conv=>whnf
   refine⟨by unfold I64;decide,?_⟩
   conv=>whnf
   exact Av [(1002,28)] Y qx Y ⟨⟨E,E,E,E,E,E,Y⟩,⟨.inl E,E,.inl E,E,.inl E,E,Y⟩,E,E⟩
 ·have:j=2:=by have:=of_decide_eq_false h;omega
  subst this
  refine rg ?_;conv=>whnf
  refine Ai (Am Γ.toTy 38 E E E E E (.lit (e:=Aa) (l:=[p.native]) E E) .sl qx (by simp;omega) (by simp;omega)) E E ?_
  refine Ae7 0 10 1003 7 Qe E E E E ?_
  refine rg ?_;conv=>whnf
  generalize hvs:p.native::p.tagged=vs at *
  have hvl:vs.length=p.tagged.length+1:=by rw[← hvs];rfl
  refine Aw vs.length (fun j=>[(0,.ptr 0 0),(4,.ref 7 (A5 p) 0),(38,.osl 38),(39,Aa vs.length),(40,Aa j)]) (fun j=>srchB n (D2 n p.dev (vs.take j)) vs) []
   ⟨⟨rfl,rfl,rfl,rfl,rfl,rfl,congrArg Aa (by rw[hvl];rfl),rfl,rfl,rfl,trivial⟩,⟨.inl rfl,rfl,.inl rfl,rfl,.inl rfl,rfl,.inl rfl,rfl,.inl (congrArg (Ob.row 1 Aa) hvs.symm),rfl,trivial⟩,rfl,rfl⟩ ?_
  intro j hj
  have okj:=hok j
  have lej:=okj.le
  have l0:=okj.l0
  have scj:=hsc j
  generalize hSj:D2 n p.dev (vs.take j)=Sj at *
  refine rg ?_;conv=>whnf
  refine⟨fun h=>?_,fun h=>?_⟩
  ·have hlt:j<vs.length:=by simpa using h
   have hj0:((j:Nat):Int).toNat<vs.length:=by simpa using hlt
   obtain ⟨v,hv⟩:∃ v,vs[((j:Nat):Int).toNat]'hj0=v:=⟨_,rfl⟩
   have hmem:v∈vs:=by rw[← hv];exact List.getElem_mem _
   have sc:=scj v hlt hv
   rw[He]at sc
   have hdv:=hd v
   have hiv:=hin v hmem
   generalize B5 n p.dev v=dm at *
   refine rg ?_;conv=>whnf
   refine⟨by omega,hj0,?_⟩
   conv=>whnf
   refine⟨E,hj0,?_⟩
   rw[hv]
   conv=>whnf
   refine⟨fun h=>?_,fun h=>?_⟩
   ·have h0:v≠0:=by simpa using h
    rw[if_neg h0]at sc
    have q3:=Ami n Sj dm ⟨0,0,dm,0⟩ (-1) (by rw[l0];exact hiv h0) (by unfold An;omega)
    rw[← sc]at q3
    refine rg ?_;conv=>whnf
    refine Aq hdv F89 E E E qq E ?_
    refine rd qq ?_;conv=>whnf
    refine⟨qq,?_⟩
    conv=>whnf
    refine Ai (Ak [(0,0),(1,1001),(2,1002),(3,1003),(4,1004)] E F90 q3 E ⟨E,E,E,E,Y⟩ E ⟨.inl E,.inl E,.inl E,.inl E,.inr E,Y⟩) E E ?_
    refine rg ?_;conv=>whnf
    refine⟨by unfold I64;omega,?_⟩
    conv=>whnf
    exact Ar [(1003,1004)] hlt ⟨⟨E,E,E,E,E,E,E,E,E,E,Y⟩,⟨.inl E,E,.inl E,E,.inl E,E,.inl E,E,.inl E,E,Y⟩,E,E⟩
   ·have h0:v=0:=by simpa using h
    rw[if_pos h0]at sc
    refine rg ?_;conv=>whnf
    refine⟨by unfold I64;omega,?_⟩
    conv=>whnf
    exact Ar [] hlt ⟨⟨E,E,E,E,E,E,E,E,E,E,Y⟩,⟨.inl E,E,.inl (congrArg (fun S=>Ob.row 1 Ad (Srch.m0 S)) sc),E,.inl (congrArg (fun S=>Ob.row 1 Ad (Srch.m1 S)) sc),E,.inl (congrArg (fun S=>Ob.row 7 Qe (Srch.list S)) sc),E,.inl E,E,Y⟩,E,E⟩
  ·have:j=vs.length:=by have:=of_decide_eq_false h;omega
   subst this
   rw[List.take_length]at hSj
   rw[hSj]at hlk
   subst hlk
   refine rg ?_;conv=>whnf
   exact Ba E .nil [(1,1001),(2,1002),(3,1003)] (Uz n _) (fun _ h=>h) E E ⟨Y,⟨.inl E,E,.inl E,E,.inl E,E,.inl E,E,Y⟩,E,E⟩
theorem Acu (D:List Hop) (hl:D.length<4294967296):Sy.Spec Tryz.prog 94 [.osl 0] [(0,.row 4 A6 D)] (.tup []) [(0,.row 4 A6 D.reverse)]:=Ab Γ hm 100 F94 Tryz.ntmps94 rfl fun F hF=>by
 conv=>whnf
 refine⟨by unfold I64;omega,?_⟩
 conv=>whnf
 refine Aw (D.length / 2) (fun j=>[(0,.osl 0),(2,Aa j),(3,Aa ((D.length:Int)-1-j))]) (fun j=>[(0,.row 4 A6 (Sh D j))]) []
  ⟨⟨rfl,rfl,rfl,rfl,congrArg (fun z=>SV.val (.int .i64 z)) qn,rfl,trivial⟩,⟨.inl (congrArg (Ob.row 4 A6) (Ai7 D)),rfl,trivial⟩,rfl,rfl⟩ ?_
 intro i hi
 have hul:=De D i
 refine rg ?_;conv=>whnf
 refine⟨fun h2=>?_,fun h2=>?_⟩
 ·have hlt:2 * i+1<D.length:=by have:=of_decide_eq_true h2;omega
  obtain ⟨u,hu⟩:∃ u,Sh D i=u:=⟨_,rfl⟩
  obtain ⟨k,hk⟩:∃ k,D.length-1-i=k:=⟨_,rfl⟩
  have hk2:(D.length:Int)-1-i=(k:Nat):=by omega
  rw[hu]at hul
  have hs:=Ai9 hu hlt hk qn qn
  rw[hu,hk2]
  refine rg ?_;conv=>whnf
  refine⟨by omega,by omega,?_⟩
  conv=>whnf
  refine⟨E,by omega,?_⟩
  conv=>whnf
  refine⟨by omega,by omega,?_⟩
  conv=>whnf
  refine⟨E,by omega,?_⟩
  conv=>whnf
  refine⟨by omega,by omega,?_⟩
  conv=>whnf
  refine⟨E,by omega,u[k],E,E,?_⟩
  conv=>whnf
  refine⟨by omega,by simp;omega,?_⟩
  conv=>whnf
  refine⟨E,by simp;omega,u[i],E,E,?_⟩
  conv=>whnf
  refine⟨qq,?_⟩
  conv=>whnf
  refine⟨by unfold I64;omega,?_⟩
  conv=>whnf
  refine⟨by unfold I64;omega,?_⟩
  conv=>whnf
  refine Ar [] qn ⟨⟨E,E,E,E,congrArg (fun z=>SV.val (.int .i64 z)) qn,E,Y⟩,⟨.inl (congrArg (Ob.row 4 A6) hs.symm),E,Y⟩,E,E⟩
 ·have h3:D.length≤2 * i+1:=by have:=of_decide_eq_false h2;omega
  rw[Alv D i h3]
  refine rg ?_;conv=>whnf
  exact Ba E .nil [] [(0,.row 4 A6 D.reverse)] (fun _ h=>h) E E ⟨Y,⟨.inl E,E,Y⟩,E,E⟩
def backC (l:List Fnd) (i:Int):List Hop :=
 if h:0≤i∧(nth l i).ahead<i then (nth l i).hop::backC l (nth l i).ahead else []
 termination_by (i+1).toNat
 decreasing_by omega
def backT (l:List Fnd) (i:Int):List Hop:=(backC l i).reverse
def Backs (l:List Fnd):Prop:=∀ i (h:i<l.length),-1≤l[i].ahead∧l[i].ahead<i
theorem Backs.snoc {l:List Fnd} (h:Backs l) {f:Fnd} (hf:-1≤f.ahead∧f.ahead<l.length):Backs (l++[f]):=fun i hi=>by
 by_cases hl:i<l.length
 ·rw[List.getElem_append_left hl]
  exact h i hl
 ·have:i=l.length:=by simp at hi;omega
  subst this
  simpa using hf
theorem Backs.meet {S:Srch} (h:Backs S.list) (d k:Int) (hp:Hop) {a:Int} (ha:-1≤a∧a<S.list.length):Backs (meetT S d k hp a).list∧S.list.length≤(meetT S d k hp a).list.length:=by
 rw[meetT]
 split
 ·exact⟨h,Nat.le_refl _⟩
 ·rw[Jf]
  split
  ·exact⟨h.snoc ha,by simp⟩
  ·exact⟨h.snoc ha,by simp⟩
theorem Backs.ext1 {k i:Int}:∀ {l:List Hop} {S:Srch},Backs S.list→(-1≤i∧i<S.list.length)→Backs (ext1 S k i l).list∧S.list.length≤(ext1 S k i l).list.length
 | [],S,h,_=>⟨h,Nat.le_refl _⟩
 | x::l,S,h,hi=>by
  obtain ⟨h1,h2⟩:=h.meet x.domain k x hi
  obtain ⟨h3,h4⟩:=Backs.ext1 (k:=k) (i:=i) (l:=l) h1 ⟨hi.1,by omega⟩
  exact⟨h3,Nat.le_trans h2 h4⟩
theorem Backs.ext2 {i:Int}:∀ {l:List Lead} {S:Srch},Backs S.list→(-1≤i∧i<S.list.length)→Backs (ext2 S i l).list∧S.list.length≤(ext2 S i l).list.length
 | [],S,h,_=>⟨h,Nat.le_refl _⟩
 | x::l,S,h,hi=>by
  obtain ⟨h1,h2⟩:=h.meet x.domain 1 ⟨3,0,x.domain,x.addr⟩ hi
  obtain ⟨h3,h4⟩:=Backs.ext2 (i:=i) (l:=l) h1 ⟨hi.1,by omega⟩
  exact⟨h3,Nat.le_trans h2 h4⟩
theorem Backs.ext {n:Net} {S:Srch} (h:Backs S.list) {i:Int} (hi:0≤i∧i<S.list.length):Backs (extT n S i).list∧S.list.length≤(extT n S i).list.length:=by
 rw[extT]
 split
 ·obtain ⟨h1,h2⟩:=h.ext1 (k:=0) (i:=i) (l:=E3 n (nth S.list i).domain) ⟨by omega,hi.2⟩
  obtain ⟨h3,h4⟩:=h1.ext2 (i:=i) (l:=routesT n (nth S.list i).domain) ⟨by omega,by omega⟩
  exact⟨h3,Nat.le_trans h2 h4⟩
 ·exact h.ext1 ⟨by omega,hi.2⟩
theorem Ls (n:Net) (dev:Int) (l:List Int):Backs (D2 n dev l).list:=by
 suffices hs:∀ (l:List Int) (S:Srch),Backs S.list→Backs (l.foldl (He n dev) S).list from hs l _ (fun i h=>by simp[Is]at h)
 intro l
 induction l with
 | nil=>exact fun S h=>h
 | cons x l ih =>
  intro S hS
  refine ih _ ?_
  rw[He]
  split
  ·exact hS
  ·exact(hS.meet _ _ _ ⟨by omega,by omega⟩).1
abbrev srchA (n:Net) (S:Srch) (l:List Hop):Obs:=[(0,Wq n (.osl 1) (.osl 2) (.osl 3)),(1,.row 1 Ad S.m0),(2,.row 1 Ad S.m1),(3,.row 7 Qe S.list),(1000,.row 4 A6 l)]
theorem backS (n:Net) (S:Srch) (hB:Backs S.list) (hl:S.list.length<4000000) (i:Int) (hi:-1≤i∧i<S.list.length) :
  Sy.Spec Tryz.prog 27 [.ptr 0 0,Aa i] (Uz n S) (.sl 4 A6 (backT S.list i)) (Uz n S):=Ab Γ hm 100 F27 Tryz.ntmps27 rfl fun F hF=>by
 have hlk:=backT.eq_1 S.list i
 generalize backT S.list i=res at *
 conv=>whnf
 refine B7 5 1000 4 A6 E E ?_
 refine Oo (fun x:Int × List Hop=>(-1≤x.1∧x.1<S.list.length)∧x.2.length+(x.1+1).toNat≤S.list.length∧x.2++backC S.list x.1=backC S.list i)
  (fun x=>[(0,.ptr 0 0),(1,Aa x.1),(5,.osl 1000)]) (fun x=>srchA n S x.2) (fun x=>(x.1+1).toNat) (i,[]) [] ⟨hi,by simp;omega,rfl⟩
  ⟨⟨rfl,rfl,rfl,rfl,rfl,rfl,trivial⟩,⟨.inl rfl,rfl,.inl rfl,rfl,.inl rfl,rfl,.inl rfl,rfl,.inl rfl,rfl,trivial⟩,rfl,rfl⟩ ?_
 rintro ⟨z,acc⟩ ⟨hz,hal,hacc⟩
 dsimp only at hz hal hacc
 refine rg ?_;conv=>whnf
 refine⟨fun h=>?_,fun h=>?_⟩
 ·have h0:0≤z:=of_decide_eq_true h
  have hk:z.toNat<S.list.length:=by omega
  have hb:=hB z.toNat hk
  rw[backC,Ah hk]at hacc
  obtain ⟨f,hf⟩:∃ f,S.list[z.toNat]'hk=f:=⟨_,rfl⟩
  rw[hf]at hacc hb
  rw[dif_pos ⟨h0,by omega⟩]at hacc
  refine rg ?_;conv=>whnf
  refine⟨h0,hk,?_⟩
  conv=>whnf
  refine⟨by intro e;rw[e]at hk;simp at hk,?_⟩
  conv=>whnf
  refine⟨E,hk,?_⟩
  rw[hf]
  conv=>whnf
  refine Ai (Am Γ.toTy 26 E E E E E (.row E) (.lit (e:=A6) (l:=[f.hop]) E E) qy (by simp;omega) (by simp;omega)) E E ?_
  refine rg ?_;conv=>whnf
  refine⟨h0,hk,?_⟩
  conv=>whnf
  refine⟨by intro e;rw[e]at hk;simp at hk,?_⟩
  conv=>whnf
  refine⟨E,hk,?_⟩
  rw[hf]
  conv=>whnf
  exact Ds (f.ahead,acc++[f.hop]) [(1000,26)] ⟨⟨hb.1,by omega⟩,by simp;omega,by rw[List.append_assoc];exact hacc⟩ (by simp only;omega)
   ⟨⟨rfl,rfl,rfl,rfl,rfl,rfl,trivial⟩,⟨.inl rfl,rfl,.inl rfl,rfl,.inl rfl,rfl,.inl rfl,rfl,.inl rfl,rfl,trivial⟩,rfl,rfl⟩
 ·have h0:¬ 0≤z:=of_decide_eq_false h
  rw[backC,dif_neg (fun e=>h0 e.1),List.append_nil]at hacc
  have q:=Acu acc qn
  rw[← hacc]at hlk
  refine rg ?_;conv=>whnf
  refine Ai (Ak [(0,1000)] E F94 q E ⟨E,Y⟩ E ⟨.inl E,Y⟩) E E ?_
  refine Au 1000 E ?_
  rw[← hlk]
  refine rg ?_;conv=>whnf
  exact done E (.cons .tmp .nil) [] (Uz n S) (fun _ h=>h) E E ⟨Y,⟨.inl E,E,.inl E,E,.inl E,E,.inl E,E,Y⟩,E,E⟩
def Cy (n:Net) (to:Int):Nat→Srch→Nat→List Hop × Bool
 | 0,_,_=>([],false)
 | k+1,S,i=>if i<S.list.length then (if inB (Bd n (nth S.list i).domain) to=true then (backT S.list i,true) else Cy n to k (extT n S i) (i+1)) else ([],false)
def wayT (n:Net) (from_ to:Int):List Hop × Bool :=
 if Hv n from_=true∧Hv n to=true∧from_≠to∧Ae n=true then Cy n to (2 * n.domains.length+1) (beginT n from_) 0 else ([],false)
abbrev srchW (n:Net) (S:Srch):Obs:=[(32,Wq n (.osl 1001) (.osl 1002) (.osl 1003)),(1001,.row 1 Ad S.m0),(1002,.row 1 Ad S.m1),(1003,.row 7 Qe S.list)]
theorem Mo {n:Net} {i:Int} (h:Hv n i=true):0≤i∧i.toNat<n.ports.length:=by
 simp only[Hv,Bool.and_eq_true,decide_eq_true_eq]at h
 omega
theorem wayS (n:Net) (hn:n.Fin) (hu:Df n) (from_ to:Int):Sy.Spec Tryz.prog 9 [Al n,Aa from_,Aa to] [] (.tup [.sl 4 A6 (wayT n from_ to).1,Ad (wayT n from_ to).2]) []:=Ab Γ hm 100 F9 Tryz.ntmps9 rfl fun F hF=>by
 have hlk:=wayT.eq_1 n from_ to
 generalize wayT n from_ to=res at *
 have hr:=Be n hn
 have h1:=Q8 n from_
 have h2:=Q8 n to
 conv=>whnf
 refine A3 3 8 (Al n) E E E ?_
 refine rg ?_;conv=>whnf
 refine Ag h1 F22 E E E E E ?_
 cases hf:Hv n from_
 ·rw[if_neg (by simp[hf])]at hlk
  subst hlk
  (refine rg ?_;(conv=>whnf);refine aT ?_;refine rg ?_;(conv=>whnf);refine aT ?_;refine rg ?_;(conv=>whnf);refine aT ?_;refine rg ?_;(conv=>whnf);refine aT ?_;refine rg ?_;conv=>whnf)
  refine Ap 6 4 A6 E ?_
  refine rg ?_;conv=>whnf
  exact Ac E (.cons .tmp (.cons .tmp .nil)) E E
 (refine rg ?_;(conv=>whnf);refine aF ?_;refine rg ?_;conv=>whnf)
 refine Ag h2 F22 E E E E E ?_
 cases ht:Hv n to
 ·rw[if_neg (by simp[ht])]at hlk
  subst hlk
  (refine rg ?_;(conv=>whnf);refine aT ?_;refine rg ?_;(conv=>whnf);refine aT ?_;refine rg ?_;(conv=>whnf);refine aT ?_;refine rg ?_;conv=>whnf)
  refine Ap 6 4 A6 E ?_
  refine rg ?_;conv=>whnf
  exact Ac E (.cons .tmp (.cons .tmp .nil)) E E
 (refine rg ?_;(conv=>whnf);refine aF ?_;refine rg ?_;conv=>whnf)
 refine⟨fun h=>?_,fun h=>?_⟩
 ·rw[if_neg (by have:from_=to:=(by simpa using h);simp[this])]at hlk
  subst hlk
  (refine rg ?_;(conv=>whnf);refine aT ?_;refine rg ?_;conv=>whnf)
  refine Ap 6 4 A6 E ?_
  refine rg ?_;conv=>whnf
  exact Ac E (.cons .tmp (.cons .tmp .nil)) E E
 have hne:from_≠to:=by simpa using h
 refine rg ?_;conv=>whnf
 refine Ag hr F23 E E E E E ?_
 cases hb:Ae n
 ·rw[if_neg (by simp[hb])]at hlk
  subst hlk
  (refine rg ?_;(conv=>whnf);refine aT ?_;refine rg ?_;conv=>whnf)
  refine Ap 6 4 A6 E ?_
  refine rg ?_;conv=>whnf
  exact Ac E (.cons .tmp (.cons .tmp .nil)) E E
 rw[if_pos ⟨hf,ht,hne,hb⟩]at hlk
 have hD:n.domains.length<1000000:=by have:=(Ah8 hb).2.2.2.1;omega
 have hp:=Mo hf
 have q0:=beginS n hn hb hD from_ hp
 have ok0:(beginT n from_).OK n:=by
  rw[beginT,Ah hp.2]
  exact On fun v hv h0=>Hk hb hp.2 hv h0
 have bk0:Backs (beginT n from_).list:=by rw[beginT];exact Ls _ _ _
 generalize beginT n from_=S0 at *
 (refine rg ?_;(conv=>whnf);refine aF ?_;refine rg ?_;conv=>whnf)
 refine Ai (Ak [(0,32),(1,1001),(2,1002),(3,1003)] E F24 q0 E ⟨E,Y⟩ E ⟨.inl E,.inr E,.inr E,.inr E,Y⟩) E E ?_
 refine rg ?_;conv=>whnf
 refine Oo (fun x:Srch × Nat=>x.1.OK n∧Backs x.1.list∧x.2≤x.1.list.length∧res=Cy n to (2 * n.domains.length+1-x.2) x.1 x.2)
  (fun x=>[(2,Aa to),(3,.ref 8 (Al n) 0),(8,.ptr 32 0),(9,Aa x.2)]) (fun x=>srchW n x.1) (fun x=>2 * n.domains.length+1-x.2) (S0,0) [] ⟨ok0,bk0,Nat.zero_le _,hlk⟩
  ⟨⟨rfl,rfl,rfl,rfl,rfl,rfl,rfl,rfl,trivial⟩,⟨.inl rfl,rfl,.inl rfl,rfl,.inl rfl,rfl,.inl rfl,rfl,trivial⟩,rfl,rfl⟩ ?_
 clear hlk ok0 bk0 q0
 rintro ⟨S,i⟩ ⟨ok,bk,hi,hlk⟩
 dsimp only at ok bk hi hlk ⊢
 have hle:=ok.le
 obtain ⟨fuel,hfu⟩:∃ k,2 * n.domains.length+1-i=k+1:=⟨2 * n.domains.length-i,by omega⟩
 rw[hfu,Cy]at hlk
 refine rg ?_;conv=>whnf
 refine⟨fun h=>?_,fun h=>?_⟩
 ·have hlt:i<S.list.length:=by have:=of_decide_eq_true h;omega
  have hi0:((i:Nat):Int).toNat<S.list.length:=by simpa using hlt
  rw[if_pos hlt,Ah hi0]at hlk
  obtain ⟨f,hf2⟩:∃ f,S.list[((i:Nat):Int).toNat]'hi0=f:=⟨_,rfl⟩
  rw[hf2]at hlk
  have q1:=J4 n hn f.domain
  have q2:=C2 (Bd n f.domain) to (C5 n hn f.domain)
  generalize Bd n f.domain=mem at *
  refine rg ?_;conv=>whnf
  refine⟨by omega,hi0,?_⟩
  conv=>whnf
  refine⟨by intro e;rw[e]at hlt;simp at hlt,?_⟩
  conv=>whnf
  refine⟨by intro e;rw[e]at hlt;simp at hlt,?_⟩
  conv=>whnf
  refine⟨E,hi0,?_⟩
  rw[hf2]
  conv=>whnf
  refine Aq q1 F26 E E E qq E ?_
  refine rd qq ?_;conv=>whnf
  refine Aq q2 F25 E E E qq E ?_
  refine rd qq ?_;conv=>whnf
  refine⟨qq,?_⟩
  conv=>whnf
  generalize inB mem to=bm at *
  cases bm
  ·refine aF ?_
   rw[if_neg qy]at hlk
   have q3:=Ao2 n hn hu hD S ok i ⟨by omega,hi0⟩
   have ok':=ok.ext i
   have bk':=bk.ext (n:=n) (i:=i) ⟨by omega,by omega⟩
   generalize extT n S i=S' at *
   refine rg ?_;conv=>whnf
   refine Ai (Ak [(0,32),(1,1001),(2,1002),(3,1003),(4,1004)] E F28 q3 E ⟨E,E,E,E,Y⟩ E ⟨.inl E,.inl E,.inl E,.inl E,.inr E,Y⟩) E E ?_
   refine rg ?_;conv=>whnf
   refine⟨by unfold I64;omega,?_⟩
   conv=>whnf
   exact Ds (S',i+1) [(1003,1004)] ⟨ok',bk'.1,by simp only;omega,by simp only;rw[show 2 * n.domains.length+1-(i+1)=fuel by omega];exact hlk⟩ (by simp only;omega)
    ⟨⟨rfl,rfl,rfl,rfl,rfl,rfl,rfl,rfl,trivial⟩,⟨.inl rfl,rfl,.inl rfl,rfl,.inl rfl,rfl,.inl rfl,rfl,trivial⟩,rfl,rfl⟩
  ·refine aT ?_
   rw[if_pos rfl]at hlk
   subst hlk
   have q4:=backS n S bk qn i ⟨by omega,by omega⟩
   generalize backT S.list i=w at *
   refine rg ?_;conv=>whnf
   refine Ai (Ak [(0,32),(1,1001),(2,1002),(3,1003)] E F27 q4 E ⟨E,E,E,E,Y⟩ E ⟨.inl E,.inl E,.inl E,.inl E,Y⟩) E E ?_
   refine rg ?_;conv=>whnf
   exact Ac E (.cons .tmp (.cons .tmp .nil)) E E
 ·have hlt:¬ i<S.list.length:=by have:=of_decide_eq_false h;omega
  rw[if_neg hlt]at hlk
  subst hlk
  refine rg ?_;conv=>whnf
  refine Ap 6 4 A6 E ?_
  refine rg ?_;conv=>whnf
  exact Ac E (.cons .tmp (.cons .tmp .nil)) E E
end Go.Sy.YteinjapglfkamaaGreat
namespace Go.Sy.YteinjapglfkamaaGreat
open Go.Proofs
def T1 (n:Net) (h:Hop):Prop:=(0≤h.domain∧h.domain.toNat<n.domains.length)∧0≤h.addr∧h.addr<4294967296
theorem Aae {n:Net} {irb to e:Int} (he:e<4294967296):∀ {x:Int},0≤x→0≤(addrGo n irb to e x).1∧(addrGo n irb to e x).1<4294967296:=by
 intro x
 induction x using addrGo.induct n irb to e with
 | case1 x h1 h2=>intro h0;rw[addrGo,if_pos h1,if_pos h2];exact⟨h0,by simp only;omega⟩
 | case2 x h1 h2 h3=>intro h0;rw[addrGo,if_pos h1,if_neg h2,if_pos h3];decide
 | case3 x h1 h2 h3 h4 ih=>intro h0;rw[addrGo,if_pos h1,if_neg h2,if_neg h3,if_pos h4];exact ih qn
 | case4 x h1 h2 h3 h4=>intro h0;rw[addrGo,if_pos h1,if_neg h2,if_neg h3,if_neg h4];decide
 | case5 x h1=>intro h0;rw[addrGo,if_neg h1];decide
theorem Ant {n:Net} (hu:Df n) (irb to:Int):0≤(addrT n irb to).1∧(addrT n irb to).1<4294967296:=by
 rw[addrT]
 split
 ·rename_i hc
  have hk:to.toNat<n.irbs.length:=by omega
  rw[Ah hk]
  have hui:=hu _ (List.getElem_mem hk)
  exact Aae (E1 _ _ hui).2 (H9 _ _ hui).1
 ·decide
theorem Ad3 {n:Net} {d:Int} {h:Hop} (hh:h∈E3 n d):T1 n h:=by
 refine⟨Ta hh,?_⟩
 rw[E3]at hh
 split at hh
 ·rcases List.mem_append.1 hh with hh | hh
  ·obtain ⟨p,_,hp⟩:=List.mem_filterMap.1 hh
   rw[linkHop]at hp
   split at hp
   ·simp only[Option.some.injEq]at hp
    subst hp
    exact⟨by simp,by simp⟩
   ·cases hp
  ·obtain ⟨p,hp,rfl⟩:=List.mem_map.1 hh
   exact⟨by simp[E8],by simp[E8]⟩
 ·cases hh
theorem Aaq {n:Net} (hu:Df n) {d:Int} {q:Lead} (hq:q∈routesT n d):0≤q.addr∧q.addr<4294967296:=by
 rw[routesT]at hq
 split at hq
 ·obtain ⟨i,hi,hp⟩:=List.mem_filterMap.1 hq
  rw[leadF]at hp
  split at hp
  ·simp only[Option.some.injEq]at hp
   subst hp
   exact Ant hu _ _
  ·cases hp
 ·cases hq
def HopsOK (n:Net) (l:List Fnd):Prop:=∀ f∈l,T1 n f.hop
theorem HopsOK.meet {n:Net} {S:Srch} (h:HopsOK n S.list) (d k:Int) {hp:Hop} (hh:T1 n hp) (a:Int):HopsOK n (meetT S d k hp a).list:=by
 rw[meetT]
 split
 ·exact h
 ·rw[Jf]
  split<;>(intro f hf;rcases List.mem_append.1 hf with hf | hf;exact h f hf;rw[List.mem_singleton]at hf;subst hf;exact hh)
theorem HopsOK.ext1 {n:Net} {k i:Int}:∀ {l:List Hop} {S:Srch},HopsOK n S.list→(∀ h∈l,T1 n h)→HopsOK n (ext1 S k i l).list
 | [],S,h,_=>h
 | x::l,S,h,hl=>HopsOK.ext1 (l:=l) (h.meet x.domain k (hl x qy) i) (fun y hy=>hl y (by simp[hy]))
theorem HopsOK.ext2 {n:Net} {i:Int}:∀ {l:List Lead} {S:Srch},HopsOK n S.list→(∀ q∈l,T1 n ⟨3,0,q.domain,q.addr⟩)→HopsOK n (ext2 S i l).list
 | [],S,h,_=>h
 | x::l,S,h,hl=>HopsOK.ext2 (l:=l) (h.meet x.domain 1 (hl x qy) i) (fun y hy=>hl y (by simp[hy]))
theorem HopsOK.ext {n:Net} (hu:Df n) {S:Srch} (h:HopsOK n S.list) (i:Int):HopsOK n (extT n S i).list:=by
 rw[extT]
 split
 ·exact(h.ext1 (fun x hx=>Ad3 hx)).ext2 (fun q hq=>⟨Qo hq,Aaq hu hq⟩)
 ·exact h.ext1 (fun x hx=>Ad3 hx)
theorem Aew {n:Net} {dev:Int} {l:List Int} (h:∀ v∈l,v≠0→0≤B5 n dev v∧(B5 n dev v).toNat<n.domains.length):HopsOK n (D2 n dev l).list:=by
 suffices hs:∀ (l:List Int) (S:Srch),HopsOK n S.list→(∀ v∈l,v≠0→0≤B5 n dev v∧(B5 n dev v).toNat<n.domains.length)→HopsOK n (l.foldl (He n dev) S).list from hs l _ (fun f hf=>by simp[Is]at hf) h
 intro l
 induction l with
 | nil=>exact fun S h _=>h
 | cons x l ih =>
  intro S hS hl
  refine ih _ ?_ (fun v hv=>hl v (by simp[hv]))
  rw[He]
  split
  ·exact hS
  ·rename_i hx
   exact hS.meet _ _ ⟨hl x qy hx,by simp,by simp⟩ _
theorem Aex {l:List Fnd} (hB:Backs l) {P:Hop→Prop} (hP:∀ f∈l,P f.hop):∀ (k:Nat) (i:Int),i<k→i<l.length→(∀ h∈backC l i,P h)∧((backC l i).length:Int)≤i+1∨i<0:=by
 intro k
 induction k with
 | zero=>intro i hi _;exact .inr qn
 | succ k ih =>
  intro i hi hl
  by_cases h0:0≤i
  ·left
   have hk:i.toNat<l.length:=by omega
   have hb:=hB i.toNat hk
   rw[backC,Ah hk,dif_pos ⟨h0,by omega⟩]
   have hm:=hP _ (List.getElem_mem hk)
   rcases ih (l[i.toNat]'hk).ahead qn qn with ⟨h1,h2⟩ | h1
   ·refine⟨fun h hh=>?_,by rw[List.length_cons];omega⟩
    rcases List.mem_cons.1 hh with rfl | hh
    ·exact hm
    ·exact h1 h hh
   ·rw[backC,dif_neg (fun e=>by omega)]
    refine⟨fun h hh=>?_,by simp;omega⟩
    rw[List.mem_singleton]at hh
    subst hh
    exact hm
  ·exact .inr qn
theorem Il {l:List Fnd} (hB:Backs l) {P:Hop→Prop} (hP:∀ f∈l,P f.hop) {i:Nat} (hi:i<l.length):(∀ h∈backT l i,P h)∧(backT l i).length≤i+1∧backT l i≠[]:=by
 rcases Aex hB hP (i+1) i qn qn with ⟨h1,h2⟩ | h
 ·refine⟨fun h hh=>h1 h (by simpa [backT] using hh),by rw[backT,List.length_reverse];omega,?_⟩
  rw[backT]
  intro e
  have hk:((i:Nat):Int).toNat<l.length:=by simpa using hi
  have hb:=hB ((i:Nat):Int).toNat hk
  rw[backC,Ah hk,dif_pos ⟨by omega,by omega⟩]at e
  simp at e
 ·omega
theorem O4 {n:Net} (hu:Df n) {to:Int}:∀ (k:Nat) (S:Srch) (i:Nat),S.OK n→Backs S.list→HopsOK n S.list→i≤S.list.length→(Cy n to k S i).2=true →
  (∀ h∈(Cy n to k S i).1,T1 n h)∧(Cy n to k S i).1.length≤2 * n.domains.length∧(Cy n to k S i).1≠[]
 | 0,S,i,_,_,_,_,h=>by cases h
 | k+1,S,i,ok,bk,hk,hi,h=>by
  rw[Cy]at h ⊢
  split at h
  ·rename_i hlt
   rw[if_pos hlt]
   split at h
   ·rename_i hm2
    rw[if_pos hm2]
    have:=Il bk hk hlt
    have hle:=ok.le
    exact⟨this.1,by have:=this.2.1;simp only;omega,this.2.2⟩
   ·rename_i hm2
    rw[if_neg hm2]
    have bk':=bk.ext (n:=n) (i:=i) ⟨by omega,by omega⟩
    exact O4 hu k _ _ (ok.ext i) bk'.1 (hk.ext hu i) qn h
  ·cases h
theorem wayT_facts {n:Net} (hu:Df n) {from_ to:Int} (h:(wayT n from_ to).2=true) :
  (∀ h∈(wayT n from_ to).1,T1 n h)∧(wayT n from_ to).1.length≤2 * n.domains.length∧(wayT n from_ to).1≠[]∧Ae n=true:=by
 rw[wayT]at h ⊢
 split at h
 ·rename_i hc
  rw[if_pos hc]
  have hp:=Mo hc.1
  have ok0:(beginT n from_).OK n:=by
   rw[beginT,Ah hp.2]
   exact On fun v hv h0=>Hk hc.2.2.2 hp.2 hv h0
  have hk0:HopsOK n (beginT n from_).list:=by
   rw[beginT,Ah hp.2]
   exact Aew fun v hv h0=>Hk hc.2.2.2 hp.2 hv h0
  have bk0:Backs (beginT n from_).list:=by rw[beginT];exact Ls _ _ _
  obtain ⟨h1,h2,h3⟩:=O4 hu _ _ _ ok0 bk0 hk0 (Nat.zero_le _) h
  exact⟨h1,h2,h3,hc.2.2.2⟩
 ·cases h
end Go.Sy.YteinjapglfkamaaGreat
namespace Go.Sy.YteinjapglfkamaaGreat
open Go.Proofs
attribute [local irreducible] Go.Sy.G Go.Sy.DR
set_option maxRecDepth 20000
set_option maxHeartbeats 4000000
theorem Afn (l:List Int) (least most:Int) (hl:An l):Sy.Spec Tryz.prog 151 [.sl 1 Aa l,Aa least,Aa most] [] (Ad (C6 l least most)) []:=Ab Γ hm 100 F151 Tryz.ntmps151 rfl fun F hF=>by
 unfold An at hl
 conv=>whnf
 (repeat' (first | (refine⟨fun h=>?_,fun h=>?_⟩<;>(repeat (first | simp only[decide_eq_true_eq]at h | simp only[decide_eq_false_iff_not]at h))<;>((refine rg ?_);(conv=>whnf);repeat((refine aT ?_);(refine rg ?_);(conv=>whnf)))) | (refine Ac rfl (.cons .tmp .nil) ?_ rfl)))
 all_goals try (refine congrArg Ad ?_)
 ·rw[C6];simp;omega
 ·rw[C6];simp;omega
 refine Ay l.length (fun j=>Dk (Jr l least most) l j) (fun j=>[(0,.sl 1 Aa l),(1,Aa least),(2,Aa most),(7,Aa j)]) (fun _=>[]) [] (A2 _ _) ⟨⟨E,E,E,E,E,E,E,E,Y⟩,Y,E,E⟩ ?_
 intro j hj hI
 refine rg ?_;conv=>whnf
 (repeat' (first | (refine⟨fun h=>?_,fun h=>?_⟩<;>(repeat (first | simp only[decide_eq_true_eq]at h | simp only[decide_eq_false_iff_not]at h))<;>((first|refine rg ?_|refine rd qq ?_);(conv=>whnf);repeat((refine aT ?_);(refine rd qq ?_);(conv=>whnf)))) | (refine Ac rfl (.cons .tmp .nil) ?_ rfl) | (refine⟨qq,?_⟩;((conv=>whnf);repeat((first|refine aF ?_|refine aT ?_);(refine rg ?_);(conv=>whnf)))) | (refine⟨by (first | (unfold I64;omega) | omega),by (omega),?_⟩;((conv=>whnf))) | (refine⟨by (unfold I64;omega),?_⟩;((conv=>whnf))) | refine Av [] hI qn ?_ ⟨⟨rfl,rfl,rfl,rfl,rfl,rfl,rfl,rfl,trivial⟩,trivial,rfl,rfl⟩))
 all_goals try (refine congrArg Ad ?_)
 all_goals try simp only[Int.toNat_natCast,Int.pred_toNat]at *
 ·rw[C6,A8 (i:=j) qn (by simp[Jr];omega)];simp
 ·rw[C6,A8 (i:=j) qn (by simp[Jr];omega)];simp
 ·rw[C6,A8 (i:=j) qn (by simp only[Jr,Ah (show ((j:Int)-1).toNat<l.length by omega),Int.pred_toNat,Int.toNat_natCast];simp;omega)];simp
 ·exact Ax hI qn (by simp only[Jr,Ah (show ((j:Int)-1).toNat<l.length by omega),Int.pred_toNat,Int.toNat_natCast];simp;omega)
 ·exact Ax hI qn (by simp[Jr];omega)
 ·rw[C6,B6 hI qn,Bool.eq_iff_iff];simp;omega
theorem La (l:List Int) (most:Int) (hl:An l):Sy.Spec Tryz.prog 98 [.sl 1 Aa l,Aa most] [] (Ad (decide (l.length=0) || C6 l 1 most)) []:=Ab Γ hm 100 F98 Tryz.ntmps98 rfl fun F hF=>by
 conv=>whnf
 (repeat' (first | (refine⟨fun h=>?_,fun h=>?_⟩<;>(repeat (first | simp only[beq_iff_eq]at h | simp only[beq_eq_false_iff_ne]at h))<;>((refine rg ?_);(conv=>whnf))) | (refine Ac rfl (.cons .tmp .nil) ?_ rfl) | (refine Ag (Afn l 1 most hl) F151 rfl rfl rfl rfl rfl ?_;((refine rg ?_);(conv=>whnf)))))
 all_goals (refine congrArg Ad ?_)
 all_goals grind
theorem Bg (i:Int) (n:Nat):Sy.Spec Tryz.prog 46 [Aa i,Aa n] [] (Ad (Aj i n)) []:=Ab Γ hm 100 F46 Tryz.ntmps46 rfl fun F hF=>by
 conv=>whnf
 (repeat' (first | (refine⟨fun h=>?_,fun h=>?_⟩<;>(repeat (first | simp only[decide_eq_true_eq]at h | simp only[decide_eq_false_iff_not]at h))<;>((refine rg ?_);(conv=>whnf))) | (refine Ac rfl (.cons .tmp .nil) ?_ rfl)))
 all_goals (refine congrArg Ad ?_)
 all_goals grind [Aj]
theorem K1 {α:Type} {p:α→Bool} {l:List α} {j:Nat} (hI:Dk (fun _ x=>!(p x)) l j) (hj:l.length≤j):l.any p=false:=by
 rw[List.any_eq_false]
 intro x hx
 obtain ⟨i,hi,rfl⟩:=List.mem_iff_getElem.1 hx
 simpa using hI i hi qn
theorem M4 {α:Type} {p:α→Bool} {l:List α} {j:Nat} (hj:j<l.length) (h:p l[j]=true):l.any p=true:=List.any_eq_true.2 ⟨_,List.getElem_mem hj,h⟩
theorem Hp (l:List Int) (x:Int) (hl:An l):Sy.Spec Tryz.prog 36 [.sl 1 Aa l,Aa x] [] (Ad (inB l x)) []:=Ab Γ hm 100 F36 Tryz.ntmps36 rfl fun F hF=>by
 unfold An at hl
 conv=>whnf
 refine Ay l.length (fun j=>Dk (fun _ y=>!(y == x)) l j) (fun j=>[(0,.sl 1 Aa l),(1,Aa x),(5,Aa j)]) (fun _=>[]) [] (A2 _ _) ⟨⟨E,E,E,E,E,E,Y⟩,Y,E,E⟩ ?_
 intro j hj hI
 refine rg ?_;conv=>whnf
 (repeat' (first | (refine⟨fun h=>?_,fun h=>?_⟩<;>(repeat (first | simp only[decide_eq_true_eq]at h | simp only[decide_eq_false_iff_not]at h | simp only[beq_iff_eq]at h | simp only[beq_eq_false_iff_ne]at h))<;>((refine rg ?_);(conv=>whnf))) | (refine Ac rfl (.cons .tmp .nil) ?_ rfl) | (refine⟨qq,?_⟩;((conv=>whnf))) | (refine⟨by (omega),by (omega),?_⟩;((conv=>whnf))) | (refine⟨by (unfold I64;omega),?_⟩;((conv=>whnf))) | refine Av [] hI qn ?_ ⟨⟨rfl,rfl,rfl,rfl,rfl,rfl,trivial⟩,trivial,rfl,rfl⟩))
 all_goals try (refine congrArg Ad ?_)
 ·exact M4 (j:=j) qn (by simpa using h)
 ·exact Ax hI qn (by simpa using h)
 ·exact K1 hI qn
theorem Sn (p:Port) (v:Int) (hl:An p.tagged):Sy.Spec Tryz.prog 99 [A5 p,Aa v] [] (Ad (Cp p v)) []:=Ab Γ hm 100 F99 Tryz.ntmps99 rfl fun F hF=>by
 conv=>whnf
 (repeat' (first | (refine⟨fun h=>?_,fun h=>?_⟩<;>(repeat (first | simp only[beq_iff_eq]at h | simp only[beq_eq_false_iff_ne]at h | simp only[bne_iff_ne]at h | simp only[bne_eq_false_iff_eq]at h))<;>((refine rg ?_);(conv=>whnf))) | (refine Ac rfl (.cons .tmp .nil) ?_ rfl) | (refine Ag (Hp p.tagged v hl) F36 rfl rfl rfl rfl rfl ?_;((refine rg ?_);(conv=>whnf)))))
 all_goals (refine congrArg Ad ?_)
 all_goals grind [Cp]
theorem I9 (n:Net) (dev vlan:Int) (hl:An n.domains):Sy.Spec Tryz.prog 35 [Al n,Aa dev,Aa vlan] [] (Aa (Mx n dev vlan)) []:=Ab Γ hm 100 F35 Tryz.ntmps35 rfl fun F hF=>by
 unfold An at hl
 conv=>whnf
 refine A3 3 8 (Al n) E E E ?_
 refine Ay n.domains.length (fun j=>Dk (fun _ d=>!(d.dev == dev && d.vlan == vlan)) n.domains j) (fun j=>[(1,Aa dev),(2,Aa vlan),(3,.ref 8 (Al n) 0),(7,Aa j)]) (fun _=>[]) [] (A2 _ _) ⟨⟨E,E,E,E,E,E,E,E,Y⟩,Y,E,E⟩ ?_
 intro j hj hI
 refine rg ?_;conv=>whnf
 (repeat' (first | (refine⟨fun h=>?_,fun h=>?_⟩<;>(repeat (first | simp only[decide_eq_true_eq]at h | simp only[decide_eq_false_iff_not]at h | simp only[beq_iff_eq]at h | simp only[beq_eq_false_iff_ne]at h))<;>((refine rg ?_);(conv=>whnf);repeat((refine aF ?_);(refine rg ?_);(conv=>whnf)))) | (refine Ac rfl (.cons .tmp .nil) ?_ rfl) | (refine⟨qq,?_⟩;((conv=>whnf))) | (refine⟨by (omega),by (omega),?_⟩;((conv=>whnf))) | (refine⟨by (unfold I64;omega),?_⟩;((conv=>whnf))) | refine Av [] hI qn ?_ ⟨⟨rfl,rfl,rfl,rfl,rfl,rfl,rfl,rfl,trivial⟩,trivial,rfl,rfl⟩))
 all_goals try (refine congrArg Aa ?_)
 ·exact Dh qn (fun i hi hij=>by have:=hI i hi hij;grind) (by simp_all)
 ·exact Ax hI qn (by simp_all)
 ·exact Ax hI qn (by simp_all)
 ·exact Ea (fun i hi=>by have:=hI i hi qn;grind)
theorem Ac4 (n:Net) (hn:n.Fin):Sy.Spec Tryz.prog 31 [Al n] [] (Ad (Co (Jh n) n.links)) []:=Ab Γ hm 100 F31 Tryz.ntmps31 rfl fun F hF=>by
 have hl:=hn.links
 unfold An at hl
 conv=>whnf
 refine A3 1 8 (Al n) E E E ?_
 refine Ay n.links.length (fun j=>Dk (Jh n) n.links j) (fun j=>[(1,.ref 8 (Al n) 0),(3,Aa j)]) (fun _=>[]) [] (A2 _ _) ⟨⟨E,E,E,E,Y⟩,Y,E,E⟩ ?_
 intro j hj hI
 refine rg ?_;conv=>whnf
 (repeat' (first | (refine⟨fun h=>?_,fun h=>?_⟩<;>(repeat (first | simp only[Aj]at h | simp only[decide_eq_true_eq]at h | simp only[decide_eq_false_iff_not]at h | simp only[beq_iff_eq]at h | simp only[beq_eq_false_iff_ne]at h | simp only[bne_iff_ne]at h | simp only[bne_eq_false_iff_eq]at h | simp only[Bool.and_eq_true]at h | simp only[Bool.and_eq_false_iff]at h | simp only[Bool.not_eq_true']at h | simp only[Bool.not_eq_false']at h))<;>((first|refine rg ?_|refine rd qq ?_);(conv=>whnf);repeat((refine aT ?_);(first|refine rg ?_|refine rd qq ?_);(conv=>whnf)))) | (refine Ac rfl (.cons .tmp .nil) ?_ rfl) | (refine⟨qq,?_⟩;((conv=>whnf);repeat((refine aT ?_);(refine rg ?_);(conv=>whnf)))) | (refine⟨by (first | omega | (simp only[Int.toNat_natCast];omega)),by (first | omega | (simp only[Int.toNat_natCast];omega)),?_⟩;((conv=>whnf))) | (refine⟨by (unfold I64;omega),?_⟩;((conv=>whnf))) | (refine Ag (Bg (n.links[j]'qn).a n.ports.length) F46 rfl rfl rfl rfl rfl ?_;((refine rg ?_);(conv=>whnf))) | (refine Ag (Bg (n.links[j]'qn).b n.ports.length) F46 rfl rfl rfl rfl rfl ?_;((refine rg ?_);(conv=>whnf))) | refine Av [] hI qn ?_ ⟨⟨rfl,rfl,rfl,rfl,trivial⟩,trivial,rfl,rfl⟩))
 all_goals (simp only[Int.toNat_natCast]at *)
 all_goals first
  | exact Ax hI qn (by clear hI hF;grind [Jh,Aj,Ah])
  | (refine congrArg Ad ?_;exact A8 (i:=j) qn (by clear hI hF;grind [Jh,Aj,Ah]))
  | (refine congrArg Ad ?_;exact B6 hI qn)
theorem Ac3 (n:Net) (hn:n.Fin):Sy.Spec Tryz.prog 30 [Al n] [] (Ad (Co (Eh n) n.ports)) []:=Ab Γ hm 100 F30 Tryz.ntmps30 rfl fun F hF=>by
 have hl:=hn.ports
 unfold An at hl
 conv=>whnf
 refine A3 1 8 (Al n) E E E ?_
 refine Ay n.ports.length (fun j=>Dk (Eh n) n.ports j) (fun j=>[(1,.ref 8 (Al n) 0),(3,Aa j)]) (fun _=>[]) [] (A2 _ _) ⟨⟨E,E,E,E,Y⟩,Y,E,E⟩ ?_
 intro j hj hI
 refine rg ?_;conv=>whnf
 refine⟨fun h=>?_,fun h=>?_⟩
 ·have hjl:j<n.ports.length:=by simpa using h
  have ht:=hn.tagged _ (List.getElem_mem hjl)
  generalize hp:n.ports[j]=p at ht
  have hp':n.ports[(j:Int).toNat]'qn=p:=hp
  refine rg ?_;conv=>whnf
  refine⟨E,by omega,by omega,?_⟩
  rw[hp']
  conv=>whnf
  (repeat' (first | (refine⟨fun h=>?_,fun h=>?_⟩<;>(repeat (first | simp only[Aj]at h | simp only[decide_eq_true_eq]at h | simp only[decide_eq_false_iff_not]at h | simp only[beq_iff_eq]at h | simp only[beq_eq_false_iff_ne]at h | simp only[Bool.and_eq_true]at h | simp only[Bool.or_eq_true]at h | simp only[Bool.and_eq_false_iff]at h | simp only[Bool.or_eq_false_iff]at h | simp only[Bool.not_eq_true']at h | simp only[Bool.not_eq_false']at h))<;>((refine rg ?_);(conv=>whnf);repeat((first|refine aF ?_|refine aT ?_);(refine rg ?_);(conv=>whnf)))) | (refine Ac rfl (.cons .tmp .nil) ?_ rfl) | (refine Ag (Bg p.dev n.devices.length) F46 rfl rfl rfl rfl rfl ?_;((refine rg ?_);(conv=>whnf))) | (refine Ag (La p.tagged 4094 ht) F98 rfl rfl rfl rfl rfl ?_;((refine rg ?_);(conv=>whnf))) | (refine Ag (Hp p.tagged p.native ht) F36 rfl rfl rfl rfl rfl ?_;((refine rg ?_);(conv=>whnf))) | (refine Ag (I9 n p.dev p.native hn.domains) F35 rfl rfl rfl rfl rfl ?_;((refine rg ?_);(conv=>whnf)))))
  all_goals first
   | (refine congrArg Ad ?_;exact A8 hjl (by rw[hp];clear hI hF hp';grind [Eh,Aj,By]))
   | skip
  all_goals (
   refine A3 4 7 (A5 p) E E E ?_
   refine Ay p.tagged.length (fun k=>Dk (fun _ v=>By n p.dev v) p.tagged k) (fun k=>[(1,.ref 8 (Al n) 0),(3,Aa j),(4,.ref 7 (A5 p) 0),(5,Aa k)]) (fun _=>[]) [] (A2 _ _) ⟨⟨E,E,E,E,E,E,E,E,Y⟩,Y,E,E⟩ ?_
   intro k hk hI2
   have hsh:=ht
   unfold An at hsh
   ((first|refine rG Γ hm ?_|refine rD Γ hm qq ?_);(conv=>whnf);repeat((first|refine aF ?_|refine aT ?_);(first|refine rG Γ hm ?_|refine rD Γ hm qq ?_);conv=>whnf)))
  all_goals (
   (repeat' (first | (refine⟨fun h=>?_,fun h=>?_⟩<;>(repeat (first | simp only[Aj]at h | simp only[decide_eq_true_eq]at h | simp only[decide_eq_false_iff_not]at h | simp only[beq_iff_eq]at h | simp only[beq_eq_false_iff_ne]at h | simp only[bne_iff_ne]at h | simp only[bne_eq_false_iff_eq]at h | simp only[Bool.and_eq_true]at h | simp only[Bool.and_eq_false_iff]at h | simp only[Bool.not_eq_true']at h | simp only[Bool.not_eq_false']at h))<;>((refine rg ?_);(conv=>whnf);repeat((first|refine aF ?_|refine aT ?_);(refine rg ?_);(conv=>whnf)))) | (refine Ac rfl (.cons .tmp .nil) ?_ rfl) | (refine⟨qq,?_⟩;((conv=>whnf))) | (refine⟨by (omega),by (omega),?_⟩;((conv=>whnf))) | (refine⟨by (unfold I64;omega),?_⟩;((conv=>whnf))) | (refine Aq (I9 n p.dev (p.tagged[k]'qn) hn.domains) F35 rfl rfl rfl qq rfl ?_;((refine rd qq ?_);(conv=>whnf))) | (refine Ag (Bg p.link n.links.length) F46 rfl rfl rfl rfl rfl ?_;((refine rg ?_);(conv=>whnf))) | refine Av [] hI2 qn ?_ ⟨⟨rfl,rfl,rfl,rfl,rfl,rfl,rfl,rfl,trivial⟩,trivial,rfl,rfl⟩ | refine Av [] hI qn ?_ ⟨⟨rfl,rfl,rfl,rfl,trivial⟩,trivial,rfl,rfl⟩)))
  all_goals first
   | exact Ax hI2 qn (by simp only[By,decide_eq_true_eq];omega)
   | (refine congrArg Ad ?_
      have h0:Co (fun _ v=>By n p.dev v) p.tagged=false:=A8 (i:=k) qn (by simp only[By,decide_eq_false_iff_not];omega)
      exact A8 hjl (by rw[hp];clear hI hI2 hF hp';grind [Eh]))
   | skip
  all_goals have h0:Co (fun _ v=>By n p.dev v) p.tagged=true:=B6 hI2 qn
  all_goals first
   | exact Ax hI hjl (by rw[hp];clear hI hI2 hF hp';grind [Eh,Aj,By,Ah])
   | (refine congrArg Ad ?_
      exact A8 hjl (by rw[hp];clear hI hI2 hF hp';grind [Eh,Aj,By,Ah]))
 ·refine rg ?_;conv=>whnf
  exact Ac E (.cons .tmp .nil) (congrArg Ad (B6 hI (by simpa using h))) E
theorem Afr (n:Net) (i:Nat) (k:Int) (hn:n.Fin) (hi:i<n.domains.length) (hb:Co (Hy n) n.domains=true):Sy.Spec Tryz.prog 97 [Al n,Aa i,Aa k] [] (Ad (Lx n i n.domains[i] k)) []:=Ab Γ hm 100 F97 Tryz.ntmps97 rfl fun F hF=>by
 have hd:=K0 hb hi
 have ha:n.domains[(i:Int).toNat]'qn=n.domains[i]:=rfl
 have hr:∀ x:Bool,Lx n i n.domains[i] k=x→Lx n i (n.domains[(i:Int).toNat]'qn) k=x:=fun x h=>h
 generalize n.domains[i]=d at *
 simp only[Aj,Bool.and_eq_true,decide_eq_true_eq]at hd
 conv=>whnf
 (repeat' (first | (refine⟨fun h=>?_,fun h=>?_⟩<;>(repeat (first | simp only[Aj]at h | simp only[decide_eq_true_eq]at h | simp only[decide_eq_false_iff_not]at h | simp only[beq_iff_eq]at h | simp only[beq_eq_false_iff_ne]at h | simp only[bne_iff_ne]at h | simp only[bne_eq_false_iff_eq]at h | simp only[Bool.and_eq_true]at h | simp only[Bool.and_eq_false_iff]at h | simp only[Bool.not_eq_true']at h | simp only[Bool.not_eq_false']at h))<;>((refine rg ?_);(conv=>whnf);repeat((first|refine aF ?_|refine aT ?_);(refine rg ?_);(conv=>whnf)))) | (refine Ac rfl (.cons .tmp .nil) ?_ rfl) | (refine⟨qq,?_⟩;((conv=>whnf))) | (refine⟨by (first | omega | (first | (simp only[ha];omega) | (have hq:=K0 hb (i:=k.toNat) qn;simp only[Aj,Bool.and_eq_true,decide_eq_true_eq]at hq;omega))),by (first | omega | (first | (simp only[ha];omega) | (have hq:=K0 hb (i:=k.toNat) qn;simp only[Aj,Bool.and_eq_true,decide_eq_true_eq]at hq;omega))),?_⟩;((conv=>whnf))) | (refine Ag (Bg k n.domains.length) F46 rfl rfl rfl rfl rfl ?_;((refine rg ?_);(conv=>whnf))) | (refine Ag (Hp (n.domains[k.toNat]'qn).peers i (hn.peers _ (List.getElem_mem _))) F36 rfl rfl rfl rfl rfl ?_;((refine rg ?_);(conv=>whnf)))))
 all_goals (
  refine congrArg Ad ?_
  have hq:∀ h:k.toNat<n.domains.length,0≤n.domains[k.toNat].dev∧n.domains[k.toNat].dev<n.devices.length:=fun h=>by
   have:=K0 hb h
   simpa only [Aj,Bool.and_eq_true,decide_eq_true_eq] using this
  clear hF hr;grind [Lx,Ab4,Aj,Ah])
theorem Aow (l:List Int) (k:Nat) (hk:k<l.length):inB (l.take k) l[k]=!(Ct (· == l[k]) l == (k:Int)):=by
 have h0:∀ x,Ct (· == l[k]) l=x→inB (l.take k) l[k]=!(x == (k:Int)):=by
  intro x hx
  subst hx
  unfold Ct
  split
  ·rename_i i h
   rw[List.findIdx?_eq_some_iff_getElem]at h
   obtain ⟨hi,h1,h2⟩:=h
   have hle:i≤k:=by
    rcases Nat.lt_or_ge k i with h3 | h3
    ·exact absurd (h2 k h3) qy
    ·exact h3
   by_cases he:i=k
   ·subst he
    simp only[inB,beq_self_eq_true,Bool.not_true]
    rw[List.any_eq_false]
    intro x hx
    obtain ⟨m,hm,rfl⟩:=List.mem_iff_getElem.1 hx
    simp only[List.length_take]at hm
    rw[List.getElem_take]
    have:=h2 m qn
    simpa using this
   ·have:((i:Int) == (k:Int))=false:=by simp;omega
    rw[this]
    simp only[inB,Bool.not_false]
    refine List.any_eq_true.2 ⟨l[i],?_,h1⟩
    exact List.mem_iff_getElem.2 ⟨i,by simp;omega,by simp⟩
  ·rename_i h
   rw[List.findIdx?_eq_none_iff]at h
   have:=h l[k] (List.getElem_mem hk)
   simp at this
 exact h0 _ E
theorem Qc {P:Program} (Γ:Ty P) {o:Oper} {s:SS} {t:TypeId} {ti:TI} {et:TypeId} {sz eb lo hi:Nat} {ez:List Value} {x:Operand} {lx hx:Option Operand} {α:Type} {e:α→SV} {l:List α} (r:List α)
  (h:o.op=.slice t x lx hx none) (ht:Γ.get t=some ti) (hk:ti.k=.slice et sz eb ez) (hxe:ev s x=.sl sz e l) (hlo:BoundIs s lx 0 lo) (hhi:BoundIs s hx l.length hi) (h1:lo≤hi) (h2:hi≤l.length) (hr:(l.take hi).drop lo=r) :
  Good P o s ⟨.sl sz e r,[],[]⟩:=by
 subst hr
 exact Cm Γ h ht hk hxe hlo hhi h1 h2
theorem Yp (n:Net) (hn:n.Fin):Sy.Spec Tryz.prog 29 [Al n] [] (Ad (Co (Hy n) n.domains && Co (Mg n) n.domains)) []:=Ab Γ hm 100 F29 Tryz.ntmps29 rfl fun F hF=>by
 have hl:=hn.domains
 unfold An at hl
 conv=>whnf
 refine A3 1 8 (Al n) E E E ?_
 refine Ay n.domains.length (fun j=>Dk (Hy n) n.domains j) (fun j=>[(1,.ref 8 (Al n) 0),(3,Aa j)]) (fun _=>[]) [] (A2 _ _) ⟨⟨E,E,E,E,Y⟩,Y,E,E⟩ ?_
 intro j hj hI
 refine rg ?_;conv=>whnf
 refine⟨fun h=>?_,fun h=>?_⟩
 ·have hjl:j<n.domains.length:=by simpa using h
  generalize hp:n.domains[j]=p
  have hp':n.domains[(j:Int).toNat]'qn=p:=hp
  refine rg ?_;conv=>whnf
  refine⟨E,by omega,by omega,?_⟩
  rw[hp']
  conv=>whnf
  (repeat' (first | (refine⟨fun h=>?_,fun h=>?_⟩<;>(repeat (first | simp only[Aj]at h | simp only[decide_eq_true_eq]at h | simp only[decide_eq_false_iff_not]at h | simp only[bne_iff_ne]at h | simp only[bne_eq_false_iff_eq]at h | simp only[Bool.and_eq_true]at h | simp only[Bool.and_eq_false_iff]at h | simp only[Bool.not_eq_true']at h | simp only[Bool.not_eq_false']at h))<;>((refine rg ?_);(conv=>whnf);repeat((first|refine aF ?_|refine aT ?_);(refine rg ?_);(conv=>whnf)))) | (refine Ac rfl (.cons .tmp .nil) ?_ rfl) | (refine⟨qq,?_⟩;((conv=>whnf))) | (refine⟨by (omega),by (omega),?_⟩;((conv=>whnf))) | (refine⟨by (unfold I64;omega),?_⟩;((conv=>whnf))) | (refine Ag (Bg p.dev n.devices.length) F46 rfl rfl rfl rfl rfl ?_;((refine rg ?_);(conv=>whnf))) | (refine Ag (Bg p.irb n.irbs.length) F46 rfl rfl rfl rfl rfl ?_;((refine rg ?_);(conv=>whnf))) | (refine Ag (I9 n p.dev p.vlan hn.domains) F35 rfl rfl rfl rfl rfl ?_;((refine rg ?_);(conv=>whnf))) | refine Av [] hI qn ?_ ⟨⟨rfl,rfl,rfl,rfl,trivial⟩,trivial,rfl,rfl⟩))
  all_goals first
   | exact Ax hI hjl (by rw[hp];clear hI hF hp';grind [Hy,Aj,Ah])
   | (refine congrArg Ad ?_;rw[A8 (p:=Hy n) hjl (by rw[hp];clear hI hF hp';grind [Hy,Aj,Ah])];rfl)
 have hb:Co (Hy n) n.domains=true:=B6 hI (by simpa using h)
 clear hI
 refine rg ?_;conv=>whnf
 refine Ay n.domains.length (fun j=>Dk (Mg n) n.domains j) (fun j=>[(1,.ref 8 (Al n) 0),(5,Aa j)]) (fun _=>[]) [] (A2 _ _) ⟨⟨E,E,E,E,Y⟩,Y,E,E⟩ ?_
 clear hj h
 intro j hj hI
 refine rg ?_;conv=>whnf
 refine⟨fun h=>?_,fun h=>?_⟩
 ·have hjl:j<n.domains.length:=by simpa using h
  have hpe:=fun k=>Afr n j k hn hjl hb
  have hsh:=hn.peers _ (List.getElem_mem hjl)
  generalize hp:n.domains[j]=p at hpe hsh
  have hp':n.domains[(j:Int).toNat]'qn=p:=hp
  refine rg ?_;conv=>whnf
  refine⟨E,by omega,by omega,?_⟩
  rw[hp']
  conv=>whnf
  refine A3 6 6 (At p) E E E ?_
  refine Ay p.peers.length (fun k=>Dk (fun at_ k=>Lx n j p k && Ct (· == k) p.peers == at_) p.peers k) (fun k=>[(1,.ref 8 (Al n) 0),(5,Aa j),(6,.ref 6 (At p) 0),(7,Aa k)]) (fun _=>[]) [] (A2 _ _) ⟨⟨E,E,E,E,E,E,E,E,Y⟩,Y,E,E⟩ ?_
  intro k hk hI2
  unfold An at hsh
  refine rg ?_;conv=>whnf
  refine⟨fun h2=>?_,fun h2=>?_⟩
  ·have hkl:k<p.peers.length:=by simpa using h2
   have hkk:p.peers[(k:Int).toNat]'qn=p.peers[k]:=rfl
   have hty:=Aow p.peers k hkl
   refine rg ?_;conv=>whnf
   refine⟨qq,?_⟩
   refine⟨by omega,by omega,?_⟩
   rw[hkk]
   generalize p.peers[k]=x at *
   conv=>whnf
   (repeat' (first | (refine⟨fun h=>?_,fun h=>?_⟩<;>(repeat (first | simp only[Bool.not_eq_true']at h | simp only[Bool.not_eq_false']at h))<;>((first|refine rg ?_|refine rd qq ?_);(conv=>whnf))) | (refine Ac rfl (.cons .tmp .nil) ?_ rfl) | (refine⟨qq,?_⟩;((conv=>whnf);repeat((refine aT ?_);(refine rg ?_);(conv=>whnf)))) | (refine⟨by (omega),by (omega),?_⟩;((conv=>whnf))) | (refine⟨by (unfold I64;omega),?_⟩;((conv=>whnf))) | (refine Aq (hpe x) F97 rfl rfl rfl qq rfl ?_;((refine rd qq ?_);(conv=>whnf))) | (refine Aq (Hp (p.peers.take k) (p.peers[(k:Int).toNat]'qn) (by unfold An;simp;omega)) F36 rfl rfl rfl qq rfl ?_;((refine rd qq ?_);(conv=>whnf))) | refine Av [] hI2 qn ?_ ⟨⟨rfl,rfl,rfl,rfl,rfl,rfl,rfl,rfl,trivial⟩,trivial,rfl,rfl⟩ | ((refine Bn (Qc Γ.toTy (lo:=0) (hi:=k) (p.peers.take k) rfl rfl rfl rfl (.inl ⟨rfl,rfl⟩) (.inr ⟨_,_,rfl,rfl⟩) qn qn rfl) qq rfl ?_;((refine rd qq ?_);(conv=>whnf))))))
   all_goals first
    | exact Ax hI2 hkl (by clear hF;grind)
    | (refine congrArg Ad ?_
       have h0:Mg n j p=false:=A8 hkl (by clear hF;grind)
       rw[hb,A8 (p:=Mg n) hjl (by rw[hp];exact h0)];rfl)
  ·have h0:Mg n j p=true:=B6 hI2 (by simpa using h2)
   refine rg ?_;conv=>whnf
   (repeat' (first | (refine⟨by (unfold I64;omega),?_⟩;((conv=>whnf))) | refine Av [] hI qn ?_ ⟨⟨rfl,rfl,rfl,rfl,trivial⟩,trivial,rfl,rfl⟩))
   exact Ax hI hjl (by rw[hp];exact h0)
 ·refine rg ?_;conv=>whnf
  refine Ac E (.cons .tmp .nil) (congrArg Ad ?_) E
  rw[hb,B6 hI (by simpa using h)]
  rfl
end Go.Sy.YteinjapglfkamaaGreat
