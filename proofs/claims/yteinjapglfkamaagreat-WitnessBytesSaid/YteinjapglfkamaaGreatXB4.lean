/-
  E9 E20 E10 E11 E12 E13 E14 E15 R1 R2 A5 A7 Sy29 E21 E22 E23 E24 E25 E26 E27 E28 E30 B0 D1 N8 N9: parts of a proof, joined by program.
-/
import Derived.Test.YteinjapglfkamaaGreatXB3
import Derived.Laws.Bits64b
namespace Go.Sy.YteinjapglfkamaaGreat
open Go.Proofs
attribute [local irreducible] Go.Sy.G Go.Sy.DR
set_option maxRecDepth 20000
set_option maxHeartbeats 4000000
theorem Iq (l:List Int) (p:Int→Bool) (f:FuncId) (first cap:List SV) (hc:(SV.clo (.func f) first cap).inn []=true) (hf:∀ x∈l,E9 Tryz.prog f (first++[Aa x]++cap) (Ad (p x))) (hl:An l) :
  Sy.Spec Tryz.prog 362 [.sl 1 Aa l,.clo (.func f) first cap] [] (Aa (Cb p l)) []:=Ab Γ hm 100 F362 Tryz.ntmps362 rfl fun F hF=>by
 unfold An at hl
 have hin:∀ x:Int,B8 [] (first++[Aa x]++cap)=true:=fun x=>Cn hc rfl
 conv=>whnf
 refine A2 l.length (fun j=>C7 (fun _ x=>!(p x)) l j) (fun j=>[(0,.sl 1 Aa l),(1,.clo (.func f) first cap),(7,Aa l.length),(8,Aa j)]) (fun _=>[]) [] (Ax _ _) ⟨⟨E,E,Bb _,hc,E,E,E,E,Y⟩,Y,E,E⟩ ?_
 intro j hj hI
 refine rg ?_;conv=>whnf
 refine⟨fun h=>?_,fun h=>?_⟩
 ·have h:=of_decide_eq_true h
  have hj2:j<l.length:=by omega
  refine rg ?_;conv=>whnf
  refine⟨E,by omega,by omega,?_⟩
  conv=>whnf
  refine Ds (hf l[j] (List.getElem_mem hj2)) E E E (by simp only[hin];rfl) E E ?_
  refine rg ?_;conv=>whnf
  refine⟨fun h2=>?_,fun h2=>?_⟩
  ·refine rg ?_;conv=>whnf
   refine Ac E (.cons .tmp .nil) (congrArg Aa ?_) E
   exact C9 hj2 (fun i hi hij=>by simpa using hI i hi hij) h2
  ·refine rg ?_;conv=>whnf
   refine⟨by unfold I64;omega,?_⟩
   conv=>whnf
   exact A0 [] hI hj2 (As hI hj2 (by simp[h2])) ⟨⟨E,E,Bb _,hc,E,E,E,E,Y⟩,Y,E,E⟩
 ·have h:=of_decide_eq_false h
  refine rg ?_;conv=>whnf
  refine Ac E (.cons .tmp .nil) (congrArg Aa ?_) E
  exact Dv (fun i hi=>by simpa using hI i hi qn)
theorem Sx (l:List Int) (p:Int→Bool) (f:FuncId) (first cap:List SV) (hc:(SV.clo (.func f) first cap).inn []=true) (hf:∀ x∈l,E9 Tryz.prog f (first++[Aa x]++cap) (Ad (p x))) (hl:An l) :
  Sy.Spec Tryz.prog 384 [.sl 1 Aa l,.clo (.func f) first cap] [] (Ad (decide (0≤Cb p l))) []:=Ab Γ hm 100 F384 Tryz.ntmps384 rfl fun F hF=>by
 have h0:B8 [] [.sl 1 Aa l,.clo (.func f) first cap]=true:=by simp only[B8,hc];rfl
 conv=>whnf
 refine Ag (Iq l p f first cap hc hf hl) F362 E E (by simp only[h0];rfl) E E ?_
 refine rg ?_;conv=>whnf
 exact Ac E (.cons .tmp .nil) E E
theorem Wl (l:List Irb) (p:Irb→Bool) (f:FuncId) (first cap:List SV) (hc:(SV.clo (.func f) first cap).inn []=true) (hf:∀ x∈l,E9 Tryz.prog f (first++[Cd x]++cap) (Ad (p x))) (hl:An l) :
  Sy.Spec Tryz.prog 272 [.sl 5 Cd l,.clo (.func f) first cap] [] (Aa (Cb p l)) []:=Ab Γ hm 100 F272 Tryz.ntmps272 rfl fun F hF=>by
 unfold An at hl
 have hin:∀ x:Irb,B8 [] (first++[Cd x]++cap)=true:=fun x=>Cn hc rfl
 ((conv=>whnf);repeat((first|refine aF ?_|refine aT ?_);(first|refine rG Γ hm ?_|refine rD Γ hm qq ?_);conv=>whnf))
 refine A2 l.length (fun j=>C7 (fun _ x=>!(p x)) l j) (fun j=>[(0,.sl 5 Cd l),(1,.clo (.func f) first cap),(7,Aa l.length),(8,Aa j)]) (fun _=>[]) [] (Ax _ _) ⟨⟨E,E,Bb _,hc,E,E,E,E,Y⟩,Y,E,E⟩ ?_
 intro j hj hI
 ((first|refine rG Γ hm ?_|refine rD Γ hm qq ?_);(conv=>whnf);repeat((first|refine aF ?_|refine aT ?_);(first|refine rG Γ hm ?_|refine rD Γ hm qq ?_);conv=>whnf))
 refine⟨fun h=>?_,fun h=>?_⟩
 ·have h:=of_decide_eq_true h
  have hj2:j<l.length:=by omega
  ((first|refine rG Γ hm ?_|refine rD Γ hm qq ?_);(conv=>whnf);repeat((first|refine aF ?_|refine aT ?_);(first|refine rG Γ hm ?_|refine rD Γ hm qq ?_);conv=>whnf))
  refine⟨E,by omega,by omega,?_⟩
  ((conv=>whnf);repeat((first|refine aF ?_|refine aT ?_);(first|refine rG Γ hm ?_|refine rD Γ hm qq ?_);conv=>whnf))
  refine Ds (hf l[j] (List.getElem_mem hj2)) E E E (by simp only[hin];rfl) E E ?_
  ((first|refine rG Γ hm ?_|refine rD Γ hm qq ?_);(conv=>whnf);repeat((first|refine aF ?_|refine aT ?_);(first|refine rG Γ hm ?_|refine rD Γ hm qq ?_);conv=>whnf))
  refine⟨fun h2=>?_,fun h2=>?_⟩
  ·((first|refine rG Γ hm ?_|refine rD Γ hm qq ?_);(conv=>whnf);repeat((first|refine aF ?_|refine aT ?_);(first|refine rG Γ hm ?_|refine rD Γ hm qq ?_);conv=>whnf))
   refine Ac E (.cons .tmp .nil) (congrArg Aa ?_) E
   exact C9 hj2 (fun i hi hij=>by simpa using hI i hi hij) h2
  ·((first|refine rG Γ hm ?_|refine rD Γ hm qq ?_);(conv=>whnf);repeat((first|refine aF ?_|refine aT ?_);(first|refine rG Γ hm ?_|refine rD Γ hm qq ?_);conv=>whnf))
   refine⟨by unfold I64;omega,?_⟩
   ((conv=>whnf);repeat((first|refine aF ?_|refine aT ?_);(first|refine rG Γ hm ?_|refine rD Γ hm qq ?_);conv=>whnf))
   exact A0 [] hI hj2 (As hI hj2 (by simp[h2])) ⟨⟨E,E,Bb _,hc,E,E,E,E,Y⟩,Y,E,E⟩
 ·have h:=of_decide_eq_false h
  ((first|refine rG Γ hm ?_|refine rD Γ hm qq ?_);(conv=>whnf);repeat((first|refine aF ?_|refine aT ?_);(first|refine rG Γ hm ?_|refine rD Γ hm qq ?_);conv=>whnf))
  refine Ac E (.cons .tmp .nil) (congrArg Aa ?_) E
  exact Dv (fun i hi=>by simpa using hI i hi qn)
theorem I7 (l:List Irb) (p:Irb→Bool) (f:FuncId) (first cap:List SV) (hc:(SV.clo (.func f) first cap).inn []=true) (hf:∀ x∈l,E9 Tryz.prog f (first++[Cd x]++cap) (Ad (p x))) (hl:An l) :
  Sy.Spec Tryz.prog 208 [.sl 5 Cd l,.clo (.func f) first cap] [] (Ad (decide (0≤Cb p l))) []:=Ab Γ hm 100 F208 Tryz.ntmps208 rfl fun F hF=>by
 have h0:B8 [] [.sl 5 Cd l,.clo (.func f) first cap]=true:=by simp only[B8,hc];rfl
 ((conv=>whnf);repeat((first|refine aF ?_|refine aT ?_);(first|refine rG Γ hm ?_|refine rD Γ hm qq ?_);conv=>whnf))
 refine Ag (Wl l p f first cap hc hf hl) F272 E E (by simp only[h0];rfl) E E ?_
 ((first|refine rG Γ hm ?_|refine rD Γ hm qq ?_);(conv=>whnf);repeat((first|refine aF ?_|refine aT ?_);(first|refine rG Γ hm ?_|refine rD Γ hm qq ?_);conv=>whnf))
 exact Ac E (.cons .tmp .nil) E E
theorem Amv (v:Vrf) (hv:An v.imports) (t:Int):Sy.Spec Tryz.prog 383 [Aa t,.ref 5 (Cq v) 0] [] (Ad (inB v.imports t)) []:=Ab Γ hm 100 F383 Tryz.ntmps383 rfl fun F hF=>by
 have q:=Ct v.imports t hv
 conv=>whnf
 refine Ag q F25 E E E E E ?_
 refine rg ?_;conv=>whnf
 exact Ac E (.cons .tmp .nil) E E
def Ae8 (n:Net) (i k:Int):Bool:=i == k || (nth n.vrfs i).dev == (nth n.vrfs k).dev && decide (0≤Cb (inB (nth n.vrfs k).imports) (nth n.vrfs i).exports)
theorem Ad4 (n:Net) (hn:n.Fin) (hb:Af n=true) (i k:Int) (hi:0≤i∧i.toNat<n.vrfs.length) (hk:0≤k∧k.toNat<n.vrfs.length) :
  Sy.Spec Tryz.prog 372 [Ap n,Aa i,Aa k] [] (Ad (Ae8 n i k)) []:=Ab Γ hm 100 F372 Tryz.ntmps372 rfl fun F hF=>by
 have hr:=Bd n hn
 rw[hb]at hr
 have him:=hn.imports _ (List.getElem_mem hk.2)
 have hex:=hn.exports _ (List.getElem_mem hi.2)
 rw[Ae8,Am hi.2,Am hk.2]
 obtain ⟨a,ha⟩:∃ a,n.vrfs[i.toNat]'hi.2=a:=⟨_,rfl⟩
 obtain ⟨b,hbb⟩:∃ b,n.vrfs[k.toNat]'hk.2=b:=⟨_,rfl⟩
 rw[ha]at hex ⊢
 rw[hbb]at him ⊢
 have q:=Sx a.exports (inB b.imports) 383 [] [.ref 5 (Cq b) 0] rfl (fun t _=>⟨⟨_,_,F383⟩,Amv b him t⟩) hex
 conv=>whnf
 refine⟨fun h=>absurd (of_decide_eq_true h) qn,fun _=>?_⟩
 refine rg ?_;conv=>whnf
 refine⟨fun h=>absurd (of_decide_eq_true h) qn,fun _=>?_⟩
 refine rg ?_;conv=>whnf
 refine⟨fun h=>absurd (of_decide_eq_true h) qn,fun _=>?_⟩
 refine rg ?_;conv=>whnf
 refine⟨fun h=>absurd (of_decide_eq_true h) qn,fun _=>?_⟩
 refine rg ?_;conv=>whnf
 refine Ag hr F23 E E E E E ?_
 (refine rg ?_;(conv=>whnf);refine aF ?_;refine rg ?_;conv=>whnf)
 refine⟨E,hi.1,hi.2,?_⟩
 rw[ha]
 conv=>whnf
 refine⟨E,hk.1,hk.2,?_⟩
 rw[hbb]
 conv=>whnf
 refine⟨qq,?_⟩
 conv=>whnf
 refine⟨fun h=>?_,fun h=>?_⟩
 ·rw[h,Bool.true_or]
  refine rg ?_;conv=>whnf
  exact Ac E (.cons .tmp .nil) E E
 rw[h,Bool.false_or]
 refine rg ?_;conv=>whnf
 refine⟨fun h=>?_,fun h=>?_⟩
 ·rw[h,Bool.true_and]
  refine Be 8 5 (Cq b) E E E ?_
  refine rg ?_;conv=>whnf
  refine Ag q F384 E E E E E ?_
  refine rg ?_;conv=>whnf
  exact Ac E (.cons .tmp .nil) E E
 ·rw[h,Bool.false_and]
  refine rg ?_;conv=>whnf
  exact Ac E (.cons .tmp .nil) E E
def Ji (n:Net) (i:Int):Int:=(nth n.domains (nth n.irbs i).domain).dev
theorem e_irb {n:Net} (h:Af n=true) {i:Nat} (hi:i<n.irbs.length):Uv n i n.irbs[i]=true:=by
 simp only[Af,Bool.and_eq_true]at h
 exact allB_iff.1 h.2 i hi
theorem C6 {n:Net} (h:Af n=true) {i:Nat} (hi:i<n.irbs.length) :
  (0≤n.irbs[i].domain∧n.irbs[i].domain.toNat<n.domains.length)∧(0≤n.irbs[i].vrf∧n.irbs[i].vrf.toNat<n.vrfs.length)∧(0≤n.irbs[i].bits∧n.irbs[i].bits≤32):=by
 have:=e_irb h hi
 simp only[Uv,Ak,Bool.and_eq_true,decide_eq_true_eq]at this
 omega
theorem H2 (n:Net) (hb:Af n=true) (i:Int) (hi:0≤i∧i.toNat<n.irbs.length):Sy.Spec Tryz.prog 326 [Ap n,Aa i] [] (Aa (Ji n i)) []:=Ab Γ hm 100 F326 Tryz.ntmps326 rfl fun F hF=>by
 have hf:=(C6 hb hi.2).1
 rw[Ji,Am hi.2]
 obtain ⟨x,hx⟩:∃ x,n.irbs[i.toNat]'hi.2=x:=⟨_,rfl⟩
 rw[hx]at hf ⊢
 rw[Am hf.2]
 obtain ⟨d,hd⟩:∃ d,n.domains[x.domain.toNat]'hf.2=d:=⟨_,rfl⟩
 rw[hd]
 conv=>whnf
 refine⟨E,hi.1,hi.2,?_⟩
 rw[hx]
 conv=>whnf
 refine⟨E,hf.1,hf.2,?_⟩
 rw[hd]
 conv=>whnf
 refine⟨qq,?_⟩
 conv=>whnf
 exact Ac E (.cons .tmp .nil) E E
def Agg (n:Net) (i k:Int):Bool:=Ji n i == Ji n k && Ae8 n (nth n.irbs k).vrf (nth n.irbs i).vrf
theorem Aef (n:Net) (hn:n.Fin) (hb:Af n=true) (i k:Int) (hi:0≤i∧i.toNat<n.irbs.length) (hk:0≤k∧k.toNat<n.irbs.length) :
  Sy.Spec Tryz.prog 328 [Ap n,Aa i,Aa k] [] (Ad (Agg n i k)) []:=Ab Γ hm 100 F328 Tryz.ntmps328 rfl fun F hF=>by
 have q1:=H2 n hb i hi
 have q2:=H2 n hb k hk
 have f1:=(C6 hb hi.2).2.1
 have f2:=(C6 hb hk.2).2.1
 have q3:=Ad4 n hn hb _ _ f2 f1
 rw[Agg,Am hi.2,Am hk.2]
 obtain ⟨x,hx⟩:∃ x,n.irbs[i.toNat]'hi.2=x:=⟨_,rfl⟩
 obtain ⟨y,hy⟩:∃ y,n.irbs[k.toNat]'hk.2=y:=⟨_,rfl⟩
 rw[hx,hy]at q3
 rw[hx,hy]
 generalize Ji n i=di at *
 generalize Ji n k=dk at *
 conv=>whnf
 refine Au q1 F326 E E E qq E ?_
 refine rd qq ?_;conv=>whnf
 refine Au q2 F326 E E E qq E ?_
 refine rd qq ?_;conv=>whnf
 refine⟨fun h=>?_,fun h=>?_⟩
 ·rw[h,Bool.true_and]
  refine rd qq ?_;conv=>whnf
  refine⟨E,hk.1,hk.2,?_⟩
  rw[hy]
  conv=>whnf
  refine⟨E,hi.1,hi.2,?_⟩
  rw[hx]
  conv=>whnf
  refine Au q3 F372 E E E qq E ?_
  refine rd qq ?_;conv=>whnf
  refine⟨qq,?_⟩
  conv=>whnf
  exact Ac E (.cons .tmp .nil) E E
 ·rw[h,Bool.false_and]
  refine rd qq ?_;conv=>whnf
  refine⟨qq,?_⟩
  conv=>whnf
  exact Ac E (.cons .tmp .nil) E E
structure Hop where
 (kind port domain addr:Int)
abbrev Bp (h:Hop):SV:=.agg [Aa h.kind,Aa h.port,Aa h.domain,Bm h.addr]
instance:Inhabited Hop:=⟨⟨0,0,0,0⟩⟩
def W7 (n:Net) (d:Int):Prop:=(0≤d∧d<n.domains.length)∧Af n=true
instance (n:Net) (d:Int):Decidable (W7 n d):=inferInstanceAs (Decidable (_∧_))
theorem Abu (n:Net) (hn:n.Fin) (d:Int):Sy.Spec Tryz.prog 148 [Ap n,Aa d] [] (Ad (decide (W7 n d))) []:=Ab Γ hm 100 F148 Tryz.ntmps148 rfl fun F hF=>by
 have hr:=Bd n hn
 conv=>whnf
 refine⟨fun h=>?_,fun h=>?_⟩
 ·have h1:0≤d:=of_decide_eq_true h
  refine Be 2 8 (Ap n) E E E ?_
  refine rg ?_;conv=>whnf
  refine⟨fun h=>?_,fun h=>?_⟩
  ·have h2:d<n.domains.length:=of_decide_eq_true h
   refine rg ?_;conv=>whnf
   refine Ag hr F23 E E E E E ?_
   refine rg ?_;conv=>whnf
   refine Ac E (.cons .tmp .nil) (congrArg Ad ?_) E
   cases hb:Af n<;>simp[W7,h1,h2,hb]
  ·have h2:¬ d<n.domains.length:=of_decide_eq_false h
   refine rg ?_;conv=>whnf
   refine Ac E (.cons .tmp .nil) (congrArg Ad ?_) E
   simp[W7,h2]
 ·have h1:¬ 0≤d:=of_decide_eq_false h
  (refine rg ?_;(conv=>whnf);refine aF ?_;refine rg ?_;conv=>whnf)
  refine Ac E (.cons .tmp .nil) (congrArg Ad ?_) E
  simp[W7,h1]
def linkHop (n:Net) (d p:Int):Option Hop:=if (linkDomT n p (nth n.domains d).vlan).2=true then some ⟨1,p,(linkDomT n p (nth n.domains d).vlan).1,0⟩ else none
def I2 (p:Int):Hop:=⟨2,0,p,0⟩
def hopsL (n:Net) (d:Int):List Hop:=(B7 n d).filterMap (linkHop n d)++(nth n.domains d).peers.map I2
def Ho (n:Net) (d:Int):List Hop:=if W7 n d then hopsL n d else []
theorem Z4 {n:Net} {d:Int} {l:List Int} {j:Nat} {p:Int} (h:j<l.length) (hp:l[j]=p):(l.take (j+1)).filterMap (linkHop n d) =
  (l.take j).filterMap (linkHop n d)++(match linkHop n d p with | some h=>[h] | none=>[]):=by
 subst hp
 rw[List.take_add_one,List.getElem?_eq_getElem h,List.filterMap_append]
 cases hh:linkHop n d l[j]<;>simp[hh]
theorem Aem (n:Net) (hn:n.Fin) (d:Int):Sy.Spec Tryz.prog 95 [Ap n,Aa d] [] (.sl 4 Bp (Ho n d)) []:=Ab Γ hm 100 F95 Tryz.ntmps95 rfl fun F hF=>by
 have hp:=Abu n hn d
 have hm2:=Jf n hn d
 have hms:=E3 n hn d
 unfold An at hms
 conv=>whnf
 refine Be 2 8 (Ap n) E E E ?_
 refine rg ?_;conv=>whnf
 refine Ag hp F148 E E E E E ?_
 by_cases hd:W7 n d
 rotate_left
 ·rw[Ho,if_neg hd,decide_eq_false hd]
  (refine rg ?_;(conv=>whnf);refine aT ?_;refine rg ?_;conv=>whnf)
  refine Ao 4 4 Bp E ?_
  refine rg ?_;conv=>whnf
  exact Ac E (.cons .tmp .nil) E E
 rw[Ho,if_pos hd,decide_eq_true hd]
 have hk:d.toNat<n.domains.length:=by have:=hd.1;omega
 have h0:0≤d:=hd.1.1
 have hpe:=hn.peers _ (List.getElem_mem hk)
 unfold An at hpe
 have hh:=hopsL.eq_1 n d
 have hlh:=linkHop.eq_1 n d
 have hsn:=fun j p h hp=>Z4 (n:=n) (d:=d) (l:=B7 n d) (j:=j) (p:=p) h hp
 have hfl:∀ j,((B7 n d).take j |>.filterMap (linkHop n d)).length≤(B7 n d).length:=fun j=>by
  refine Nat.le_trans (List.length_filterMap_le _ _) ?_
  rw[List.length_take];omega
 have hall:(B7 n d).take (B7 n d).length=B7 n d:=List.take_length
 rw[Am hk]at hh hlh
 obtain ⟨x,hx⟩:∃ x,n.domains[d.toNat]'hk=x:=⟨_,rfl⟩
 rw[hx]at hh hlh hpe
 generalize hopsL n d=res at *
 generalize B7 n d=mem at *
 (refine rg ?_;(conv=>whnf);refine aF ?_;refine rg ?_;conv=>whnf)
 refine Ag hm2 F26 E E E E E ?_
 refine rg ?_;conv=>whnf
 refine Cf 5 1000 4 Bp E E ?_
 refine A3 mem.length (fun j=>[(1,Aa d),(2,.ref 8 (Ap n) 0),(5,.osl 1000),(18,.sl 1 Aa mem),(19,Aa mem.length),(20,Aa j)]) (fun j=>[(1000,.row 4 Bp ((mem.take j).filterMap (linkHop n d)))]) []
  ⟨⟨rfl,rfl,rfl,rfl,rfl,rfl,rfl,rfl,rfl,rfl,rfl,rfl,trivial⟩,⟨.inl rfl,rfl,trivial⟩,rfl,rfl⟩ ?_
 intro j hj
 have hflj:=hfl j
 refine rg ?_;conv=>whnf
 refine⟨fun h=>?_,fun h=>?_⟩
 ·have hlt:j<mem.length:=by simpa using h
  have hj0:((j:Nat):Int).toNat<mem.length:=by simpa using hlt
  obtain ⟨p,hp'⟩:∃ p,mem[((j:Nat):Int).toNat]'hj0=p:=⟨_,rfl⟩
  have hs:=hsn j p hlt hp'
  have q:=Z3 n hn p x.vlan
  rw[hlh p]at hs
  generalize linkDomT n p x.vlan=ld at *
  obtain ⟨to,ok⟩:=ld
  refine rg ?_;conv=>whnf
  refine⟨E,by omega,hj0,?_⟩
  rw[hp']
  conv=>whnf
  refine⟨E,h0,hk,?_⟩
  rw[hx]
  conv=>whnf
  refine Au q F149 E E E qq E ?_
  refine rd qq ?_;conv=>whnf
  refine⟨qq,?_⟩
  conv=>whnf
  dsimp only at hs
  refine⟨fun h=>?_,fun h=>?_⟩<;>(have h:ok=_:=h;subst h)
  ·refine rg ?_;conv=>whnf
   refine Ah (Al Γ.toTy 42 E E E E E (.row E) (.lit (e:=Bp) (l:=[⟨1,p,to,0⟩]) E E) qy (by simp;omega) (by simp;omega)) E E ?_
   refine rg ?_;conv=>whnf
   refine⟨by unfold I64;omega,?_⟩
   conv=>whnf
   exact Av [(1000,42)] hlt ⟨⟨E,E,E,E,E,E,E,E,E,E,E,E,Y⟩,⟨.inl (congrArg (Ob.row 4 Bp) hs),E,Y⟩,E,E⟩
  ·refine rg ?_;conv=>whnf
   refine⟨by unfold I64;omega,?_⟩
   conv=>whnf
   exact Av [] hlt ⟨⟨E,E,E,E,E,E,E,E,E,E,E,E,Y⟩,⟨.inl (congrArg (Ob.row 4 Bp) (hs.trans (List.append_nil _))),E,Y⟩,E,E⟩
 ·have:j=mem.length:=by have:=of_decide_eq_false h;omega
  subst this
  rw[hall]at hflj ⊢
  generalize mem.filterMap (linkHop n d)=first at *
  refine rg ?_;conv=>whnf
  refine⟨E,h0,hk,?_⟩
  rw[hx]
  conv=>whnf
  refine A3 x.peers.length (fun j=>[(5,.osl 1000),(49,.sl 1 Aa x.peers),(50,Aa x.peers.length),(51,Aa j)]) (fun j=>[(1000,.row 4 Bp (first++(x.peers.take j).map I2))]) []
   ⟨⟨rfl,rfl,rfl,rfl,rfl,rfl,rfl,rfl,trivial⟩,⟨.inl (congrArg (Ob.row 4 Bp) (List.append_nil _)),rfl,trivial⟩,rfl,rfl⟩ ?_
  intro j hj
  refine rg ?_;conv=>whnf
  refine⟨fun h=>?_,fun h=>?_⟩
  ·have hlt:j<x.peers.length:=by simpa using h
   have hj0:((j:Nat):Int).toNat<x.peers.length:=by simpa using hlt
   obtain ⟨p,hp'⟩:∃ p,x.peers[((j:Nat):Int).toNat]'hj0=p:=⟨_,rfl⟩
   have hs:(first++(x.peers.take j).map I2)++[⟨2,0,p,0⟩]=first++(x.peers.take (j+1)).map I2:=by
    rw[List.take_add_one,List.getElem?_eq_getElem hlt,List.map_append,List.append_assoc]
    congr 2
    simp only[Option.toList,List.map_cons,List.map_nil,I2]
    congr 2
    exact hp'.symm
   refine rg ?_;conv=>whnf
   refine⟨E,by omega,hj0,?_⟩
   rw[hp']
   conv=>whnf
   refine Ah (Al Γ.toTy 59 E E E E E (.row E) (.lit (e:=Bp) (l:=[⟨2,0,p,0⟩]) E E) qy (by simp;omega) (by simp;omega)) E E ?_
   refine rg ?_;conv=>whnf
   refine⟨by unfold I64;omega,?_⟩
   conv=>whnf
   exact Av [(1000,59)] hlt ⟨⟨E,E,E,E,E,E,E,E,Y⟩,⟨.inl (congrArg (Ob.row 4 Bp) hs.symm),E,Y⟩,E,E⟩
  ·have:j=x.peers.length:=by have:=of_decide_eq_false h;omega
   subst this
   refine rg ?_;conv=>whnf
   refine At 1000 E ?_
   refine rg ?_;conv=>whnf
   refine Ac E (.cons .tmp .nil) ?_ E
   rw[hh,List.take_length]
   rfl
abbrev Akx (a b:Int):SV:=.agg [Bm a,Aa b]
theorem Aia (a b:Int) (h:0≤b∧b≤32):Sy.Spec Tryz.prog 269 [Akx a b] [] (Ad true) []:=Ab Γ hm 100 F269 Tryz.ntmps269 rfl fun F hF=>by
 conv=>whnf
 refine⟨fun _=>?_,fun h2=>absurd (of_decide_eq_false h2) qn⟩
 refine rg ?_;conv=>whnf
 refine Ac E (.cons .tmp .nil) (congrArg Ad ?_) E
 simp;omega
def Abp (b:Int):Int:=IntKind.u32.wrap (IntKind.u32.wrap (1 * 2 ^ (min (32-b).toNat IntKind.u32.bits))-1)
theorem Aky (a b:Int) (h:0≤b∧b≤32):Sy.Spec Tryz.prog 270 [Akx a b] [] (Bm (Abp b)) []:=Ab Γ hm 100 F270 Tryz.ntmps270 rfl fun F hF=>by
 conv=>whnf
 refine⟨by unfold I64;omega,?_⟩
 conv=>whnf
 refine⟨by omega,?_⟩
 conv=>whnf
 exact Ac E (.cons .tmp .nil) E E
def Ait (a b x:Int):Bool:=bits .andNot .u32 (bits .xor .u32 a x) (Abp b) == 0
theorem Amo (a b x:Int) (h:0≤b∧b≤32):Sy.Spec Tryz.prog 327 [Akx a b,Bm x] [] (Ad (Ait a b x)) []:=Ab Γ hm 100 F327 Tryz.ntmps327 rfl fun F hF=>by
 have q1:=Aia a b h
 have q2:=Aky a b h
 rw[Ait]
 generalize Abp b=r at *
 conv=>whnf
 refine Au q1 F269 E E E qq E ?_
 (refine rd qq ?_;(conv=>whnf);refine aT ?_;refine rd qq ?_;conv=>whnf)
 refine Au q2 F270 E E E qq E ?_
 refine rd qq ?_;conv=>whnf
 refine⟨qq,?_⟩
 conv=>whnf
 exact Ac E (.cons .tmp .nil) E E
def Wd (c:Int→Int→Int) (l:List Int) (j:Nat):Int:=((l.drop 1).take j).foldl (fun m x=>if 0<c x m then x else m) (nth l 0)
theorem Ym (c:Int→Int→Int) (l:List Int) (j:Nat) (h:j+1<l.length):Wd c l (j+1)=if 0<c l[j+1] (Wd c l j) then l[j+1] else Wd c l j:=by
 have hl:j<(l.drop 1).length:=by rw[List.length_drop];omega
 rw[Wd,List.take_succ_eq_append_getElem hl,List.foldl_append]
 have e:(l.drop 1)[j]=l[j+1]:=by rw[List.getElem_drop];congr 1;omega
 simp only[List.foldl_cons,List.foldl_nil,e]
 rfl
theorem Q6 (c:Int→Int→Int) (l:List Int) (h:0<l.length):∀ j,j+1≤l.length→Wd c l j∈l
 | 0,_=>by
  rw[Wd,List.take_zero,List.foldl_nil,Am (l:=l) (i:=0) (by simpa using h)]
  exact List.getElem_mem _
 | j+1,hj=>by
  rw[Ym c l j qn]
  split
  ·exact List.getElem_mem _
  ·exact Q6 c l h j qn
theorem Ald (l:List Int) (c:Int→Int→Int) (f:FuncId) (first cap:List SV) (hc:(SV.clo (.func f) first cap).inn []=true) (h0:0<l.length) (hl:An l)
  (hf:∀ x∈l,∀ y∈l,E9 Tryz.prog f (first++[Aa x,Aa y]++cap) (Aa (c x y))) :
  Sy.Spec Tryz.prog 330 [.sl 1 Aa l,.clo (.func f) first cap] [] (Aa (Wd c l (l.length-1))) []:=Ab Γ hm 100 F330 Tryz.ntmps330 rfl fun F hF=>by
 unfold An at hl
 have hin:∀ x y:Int,B8 [] (first++[Aa x,Aa y]++cap)=true:=fun x y=>Cn hc rfl
 have hmem:=Q6 c l h0
 have hsucc:=Ym c l
 have hz:Wd c l 0=l[0]:=by rw[Wd,List.take_zero,List.foldl_nil,Am (l:=l) (i:=0) (by simpa using h0)];rfl
 generalize Wd c l=m at *
 conv=>whnf
 refine⟨fun h=>absurd (of_decide_eq_true h) qn,fun _=>?_⟩
 refine rg ?_;conv=>whnf
 refine⟨E,by omega,by simpa using h0,?_⟩
 conv=>whnf
 refine A3 (l.length-1) (fun j=>[(0,.sl 1 Aa l),(1,.clo (.func f) first cap),(5,Aa (m j)),(6,Aa ((j:Int)+1))]) (fun _=>[]) []
  ⟨⟨rfl,rfl,Bb _,hc,congrArg Aa hz,rfl,rfl,rfl,trivial⟩,trivial,rfl,rfl⟩ ?_
 intro j hj
 have hmj:=hmem j qn
 have hsj:=hsucc j
 refine rg ?_;conv=>whnf
 refine⟨fun h=>?_,fun h=>?_⟩
 ·have hlt:j+1<l.length:=by have:=of_decide_eq_true h;omega
  have hsj:=hsj hlt
  have hk:((j:Int)+1).toNat<l.length:=by omega
  have e1:l[((j:Int)+1).toNat]'hk=l[j+1]:=by congr 1
  obtain ⟨x,hx⟩:∃ x,l[j+1]=x:=⟨_,rfl⟩
  have hxm:x∈l:=hx ▸ List.getElem_mem hlt
  rw[hx]at e1 hsj
  refine rg ?_;conv=>whnf
  refine⟨E,by omega,hk,?_⟩
  rw[e1]
  conv=>whnf
  refine Ds (hf x hxm (m j) hmj) E E E (by simp only[hin];rfl) E E ?_
  refine rg ?_;conv=>whnf
  refine⟨fun h2=>?_,fun h2=>?_⟩
  ·rw[if_pos (of_decide_eq_true h2)]at hsj
   refine rg ?_;conv=>whnf
   refine⟨E,by omega,hk,?_⟩
   rw[e1]
   conv=>whnf
   refine⟨by unfold I64;omega,?_⟩
   conv=>whnf
   exact Av [] qn ⟨⟨E,E,Bb _,hc,congrArg Aa hsj,E,congrArg Aa qn,E,Y⟩,Y,E,E⟩
  ·rw[if_neg (of_decide_eq_false h2)]at hsj
   refine rg ?_;conv=>whnf
   refine⟨by unfold I64;omega,?_⟩
   conv=>whnf
   exact Av [] qn ⟨⟨E,E,Bb _,hc,congrArg Aa hsj,E,congrArg Aa qn,E,Y⟩,Y,E,E⟩
 ·have:j=l.length-1:=by have:=of_decide_eq_false h;omega
  subst this
  refine rg ?_;conv=>whnf
  exact Ac E (.cons .tmp .nil) E E
def Zw (n:Net) (irb i:Int):Int:=if (nth n.irbs i).vrf=(nth n.irbs irb).vrf then 1 else 0
abbrev InIrbs (n:Net) (i:Int):Prop:=0≤i∧i.toNat<n.irbs.length
theorem Acf (n:Net) (irb i:Int) (hi:InIrbs n i) (hk:InIrbs n irb):Sy.Spec Tryz.prog 329 [Aa i,.ref 8 (Ap n) 0,.ref 1 (Aa irb) 0] [] (Aa (Zw n irb i)) []:=Ab Γ hm 100 F329 Tryz.ntmps329 rfl fun F hF=>by
 rw[Zw,Am hi.2,Am hk.2]
 obtain ⟨x,hx⟩:∃ x,n.irbs[i.toNat]'hi.2=x:=⟨_,rfl⟩
 obtain ⟨y,hy⟩:∃ y,n.irbs[irb.toNat]'hk.2=y:=⟨_,rfl⟩
 rw[hx,hy]
 conv=>whnf
 refine⟨E,hi.1,hi.2,?_⟩
 rw[hx]
 conv=>whnf
 refine⟨E,hk.1,hk.2,?_⟩
 rw[hy]
 conv=>whnf
 refine⟨qq,?_⟩
 conv=>whnf
 refine⟨fun h=>?_,fun h=>?_⟩
 ·rw[if_pos (by simpa using h)]
  refine rg ?_;conv=>whnf
  exact Ac E (.cons .tmp .nil) E E
 ·rw[if_neg (by simpa using h)]
  refine rg ?_;conv=>whnf
  exact Ac E (.cons .tmp .nil) E E
def Ai9 (n:Net) (irb a b:Int):Int:=if (nth n.irbs a).bits≠(nth n.irbs b).bits then (nth n.irbs a).bits-(nth n.irbs b).bits else Zw n irb a-Zw n irb b
theorem Agm (n:Net) (irb i:Int):0≤Zw n irb i∧Zw n irb i≤1:=by
 unfold Zw;split<;>omega
theorem Ale (n:Net) (hb:Af n=true) (irb a b:Int) (hk:InIrbs n irb) (ha:InIrbs n a) (hb2:InIrbs n b) :
  Sy.Spec Tryz.prog 331 [Aa a,Aa b,.ref 8 (Ap n) 0,.ref 1 (.clo (.func 329) [] [.ref 8 (Ap n) 0,.ref 1 (Aa irb) 0]) 0] [] (Aa (Ai9 n irb a b)) []:=Ab Γ hm 100 F331 Tryz.ntmps331 rfl fun F hF=>by
 have fa:=(C6 hb ha.2).2.2
 have fb:=(C6 hb hb2.2).2.2
 have q1:=Acf n irb a ha hk
 have q2:=Acf n irb b hb2 hk
 have l1:=Agm n irb a
 have l2:=Agm n irb b
 rw[Ai9,Am ha.2,Am hb2.2]
 obtain ⟨x,hx⟩:∃ x,n.irbs[a.toNat]'ha.2=x:=⟨_,rfl⟩
 obtain ⟨y,hy⟩:∃ y,n.irbs[b.toNat]'hb2.2=y:=⟨_,rfl⟩
 rw[hx]at fa ⊢
 rw[hy]at fb ⊢
 generalize Zw n irb a=oa at *
 generalize Zw n irb b=ob at *
 conv=>whnf
 refine⟨E,ha.1,ha.2,?_⟩
 rw[hx]
 conv=>whnf
 refine⟨E,hb2.1,hb2.2,?_⟩
 rw[hy]
 conv=>whnf
 refine⟨qq,?_⟩
 conv=>whnf
 refine⟨fun h=>?_,fun h=>?_⟩
 ·rw[if_pos (by simpa using h)]
  refine rg ?_;conv=>whnf
  refine⟨by unfold I64;omega,?_⟩
  conv=>whnf
  exact Ac E (.cons .tmp .nil) E E
 ·rw[if_neg (by simpa using h)]
  refine rg ?_;conv=>whnf
  refine Afy ⟨⟨_,_,F329⟩,q1⟩ E E E E qq E ?_
  refine rd qq ?_;conv=>whnf
  refine Afy ⟨⟨_,_,F329⟩,q2⟩ E E E E qq E ?_
  refine rd qq ?_;conv=>whnf
  refine⟨by unfold I64;omega,?_⟩
  conv=>whnf
  refine⟨qq,?_⟩
  conv=>whnf
  exact Ac E (.cons .tmp .nil) E E
def Tc (n:Net) (irb dst:Int) (i:Nat):Bool:=Ji n i == Ji n irb && (nth n.irbs i).addr == dst
def Ta (n:Net) (irb dst:Int) (i:Nat):Bool:=Ait (nth n.irbs i).addr (nth n.irbs i).bits dst && Agg n irb i
def K5 (n:Net) (irb dst:Int):List Int:=Is (Ta n irb dst) n.irbs.length
def lookT (n:Net) (irb dst:Int):Int × Bool :=
 if (List.range n.irbs.length).any (Tc n irb dst)=true then (0,false)
 else if K5 n irb dst=[] then (0,false) else (Wd (Ai9 n irb) (K5 n irb dst) ((K5 n irb dst).length-1),true)
theorem Agp (n:Net) (hn:n.Fin) (hb:Af n=true) (irb dst:Int) (hk:InIrbs n irb):Sy.Spec Tryz.prog 271 [Ap n,Aa irb,Bm dst] [] (.tup [Aa (lookT n irb dst).1,Ad (lookT n irb dst).2]) []:=Ab Γ hm 100 F271 Tryz.ntmps271 rfl fun F hF=>by
 have hlk:=lookT.eq_1 n irb dst
 generalize lookT n irb dst=r at *
 have hsi:=hn.irbs
 unfold An at hsi
 have qk:=H2 n hb irb hk
 conv=>whnf
 refine Be 3 8 (Ap n) E E E ?_
 refine Be 4 1 (Aa irb) E E E ?_
 refine Cf 8 1000 1 Aa E E ?_
 refine A2 n.irbs.length (fun j=>∀ i,i<j→Tc n irb dst i=false) (fun j=>[(2,Bm dst),(3,.ref 8 (Ap n) 0),(4,.ref 1 (Aa irb) 0),(8,.osl 1000),(13,.sl 5 Cd n.irbs),(14,Aa n.irbs.length),(15,Aa j)]) (fun j=>[(1000,.row 1 Aa (Is (Ta n irb dst) j))]) [] (fun i hi=>absurd hi qn)
  ⟨⟨rfl,rfl,rfl,rfl,rfl,rfl,rfl,rfl,rfl,rfl,rfl,rfl,rfl,rfl,trivial⟩,⟨.inl rfl,rfl,trivial⟩,rfl,rfl⟩ ?_
 intro j hj hI
 refine rg ?_;conv=>whnf
 refine⟨fun h=>?_,fun h=>?_⟩
 ·have hlt:j<n.irbs.length:=by simpa using h
  have hij:InIrbs n (j:Int):=⟨by omega,by simpa using hlt⟩
  have qj:=H2 n hb j hij
  have hsucc:=Wx (Ta n irb dst) j
  have hfl:=D7 (Ta n irb dst) j
  have hta:Tc n irb dst j=(Ji n j == Ji n irb && (nth n.irbs j).addr == dst):=rfl
  have hwa:Ta n irb dst j=(Ait (nth n.irbs j).addr (nth n.irbs j).bits dst && Agg n irb j):=rfl
  have enj:nth n.irbs (j:Int)=n.irbs[j]:=Am (l:=n.irbs) (i:=(j:Int)) (by simpa using hlt)
  have hf:=(C6 hb hlt).2.2
  have e1:n.irbs[(j:Int).toNat]'qn=n.irbs[j]:=rfl
  rw[enj]at hta hwa
  obtain ⟨x,hx⟩:∃ x,n.irbs[j]=x:=⟨_,rfl⟩
  rw[hx]at e1 hta hwa hf
  have q1:=Amo x.addr x.bits dst hf
  have q2:=Aef n hn hb irb j hk hij
  rw[hwa]at hsucc
  obtain ⟨u,hu⟩:∃ u,Is (Ta n irb dst) j=u:=⟨_,rfl⟩
  rw[hu]at hsucc hfl ⊢
  refine rg ?_;conv=>whnf
  refine⟨E,by omega,by omega,?_⟩
  rw[e1]
  conv=>whnf
  refine Au qj F326 E E E qq E ?_
  refine rd qq ?_;conv=>whnf
  refine Au qk F326 E E E qq E ?_
  refine rd qq ?_;conv=>whnf
  refine⟨fun h2=>?_,fun h2=>?_⟩
  ·rw[h2,Bool.true_and]at hta
   refine rd qq ?_;conv=>whnf
   refine⟨qq,?_⟩
   conv=>whnf
   refine⟨fun h3=>?_,fun h3=>?_⟩
   ·have:(List.range n.irbs.length).any (Tc n irb dst)=true:=List.any_eq_true.2 ⟨j,by simpa using hlt,hta.trans h3⟩
    rw[if_pos this]at hlk
    subst hlk
    refine rg ?_;conv=>whnf
    exact Ac E (.cons .tmp (.cons .tmp .nil)) E E
   ·have hnt:=hta.trans h3
    refine rg ?_;conv=>whnf
    refine Ag q1 F327 E E E E E ?_
    refine rg ?_;conv=>whnf
    refine⟨fun h4=>?_,fun h4=>?_⟩
    ·rw[h4,Bool.true_and]at hsucc
     refine rg ?_;conv=>whnf
     refine Ag q2 F328 E E E E E ?_
     refine rg ?_;conv=>whnf
     refine⟨fun h5=>?_,fun h5=>?_⟩
     ·rw[if_pos h5]at hsucc
      refine rg ?_;conv=>whnf
      refine Ah (Al Γ.toTy 47 E E E E E (.row E) (.lit (e:=Aa) (l:=[(j:Int)]) E E) qy (by simp;omega) (by simp;omega)) E E ?_
      refine rg ?_;conv=>whnf
      refine⟨by unfold I64;omega,?_⟩
      conv=>whnf
      exact A0 [(1000,47)] hI hlt (fun i hi=>if e:i=j then (by rw[e];exact hnt) else hI i qn) ⟨⟨E,E,E,E,E,E,E,E,E,E,E,E,E,E,Y⟩,⟨.inl (congrArg (Ob.row 1 Aa) hsucc),E,Y⟩,E,E⟩
     ·rw[if_neg (by simp[h5])]at hsucc
      refine rg ?_;conv=>whnf
      refine⟨by unfold I64;omega,?_⟩
      conv=>whnf
      exact A0 [] hI hlt (fun i hi=>if e:i=j then (by rw[e];exact hnt) else hI i qn) ⟨⟨E,E,E,E,E,E,E,E,E,E,E,E,E,E,Y⟩,⟨.inl (congrArg (Ob.row 1 Aa) hsucc),E,Y⟩,E,E⟩
    ·rw[if_neg (by simp[h4])]at hsucc
     (refine rg ?_;(conv=>whnf);refine aF ?_;refine rg ?_;conv=>whnf)
     refine⟨by unfold I64;omega,?_⟩
     conv=>whnf
     exact A0 [] hI hlt (fun i hi=>if e:i=j then (by rw[e];exact hnt) else hI i qn) ⟨⟨E,E,E,E,E,E,E,E,E,E,E,E,E,E,Y⟩,⟨.inl (congrArg (Ob.row 1 Aa) hsucc),E,Y⟩,E,E⟩
  ·have hnt:Tc n irb dst j=false:=by rw[hta,h2,Bool.false_and]
   refine rd qq ?_;conv=>whnf
   refine⟨qq,?_⟩
   ((conv=>whnf);refine aF ?_;refine rg ?_;conv=>whnf)
   refine Ag q1 F327 E E E E E ?_
   refine rg ?_;conv=>whnf
   refine⟨fun h4=>?_,fun h4=>?_⟩
   ·rw[h4,Bool.true_and]at hsucc
    refine rg ?_;conv=>whnf
    refine Ag q2 F328 E E E E E ?_
    refine rg ?_;conv=>whnf
    refine⟨fun h5=>?_,fun h5=>?_⟩
    ·rw[if_pos h5]at hsucc
     refine rg ?_;conv=>whnf
     refine Ah (Al Γ.toTy 47 E E E E E (.row E) (.lit (e:=Aa) (l:=[(j:Int)]) E E) qy (by simp;omega) (by simp;omega)) E E ?_
     refine rg ?_;conv=>whnf
     refine⟨by unfold I64;omega,?_⟩
     conv=>whnf
     exact A0 [(1000,47)] hI hlt (fun i hi=>if e:i=j then (by rw[e];exact hnt) else hI i qn) ⟨⟨E,E,E,E,E,E,E,E,E,E,E,E,E,E,Y⟩,⟨.inl (congrArg (Ob.row 1 Aa) hsucc),E,Y⟩,E,E⟩
    ·rw[if_neg (by simp[h5])]at hsucc
     refine rg ?_;conv=>whnf
     refine⟨by unfold I64;omega,?_⟩
     conv=>whnf
     exact A0 [] hI hlt (fun i hi=>if e:i=j then (by rw[e];exact hnt) else hI i qn) ⟨⟨E,E,E,E,E,E,E,E,E,E,E,E,E,E,Y⟩,⟨.inl (congrArg (Ob.row 1 Aa) hsucc),E,Y⟩,E,E⟩
   ·rw[if_neg (by simp[h4])]at hsucc
    (refine rg ?_;(conv=>whnf);refine aF ?_;refine rg ?_;conv=>whnf)
    refine⟨by unfold I64;omega,?_⟩
    conv=>whnf
    exact A0 [] hI hlt (fun i hi=>if e:i=j then (by rw[e];exact hnt) else hI i qn) ⟨⟨E,E,E,E,E,E,E,E,E,E,E,E,E,E,Y⟩,⟨.inl (congrArg (Ob.row 1 Aa) hsucc),E,Y⟩,E,E⟩
 ·have:j=n.irbs.length:=by have:=of_decide_eq_false h;omega
  subst this
  have hno:¬ (List.range n.irbs.length).any (Tc n irb dst)=true:=fun h=>by
   obtain ⟨i,h1,h2⟩:=List.any_eq_true.1 h
   rw[hI i (by simpa using h1)]at h2
   cases h2
  rw[if_neg hno]at hlk
  have hin:∀ y∈K5 n irb dst,InIrbs n y:=fun y hy=>by
   have:=(Mu (p:=Ta n irb dst) (j:=n.irbs.length)).1 hy
   exact⟨this.1,by omega⟩
  have hwl:=D7 (Ta n irb dst) n.irbs.length
  have hwe:Is (Ta n irb dst) n.irbs.length=K5 n irb dst:=rfl
  rw[hwe]at hwl ⊢
  have q:∀ h0:0<(K5 n irb dst).length,_:=fun h0=>Ald (K5 n irb dst) (Ai9 n irb) 331 [] [.ref 8 (Ap n) 0,.ref 1 (.clo (.func 329) [] [.ref 8 (Ap n) 0,.ref 1 (Aa irb) 0]) 0] rfl h0 (by unfold An;omega) (fun y hy z hz=>⟨⟨_,_,F331⟩,Ale n hb irb y z hk (hin y hy) (hin z hz)⟩)
  generalize K5 n irb dst=l at *
  refine At 1000 E ?_
  refine rg ?_;conv=>whnf
  refine⟨fun h3=>?_,fun h3=>?_⟩
  ·have h4:l=[]:=by simpa using h3
   rw[if_pos h4]at hlk
   subst hlk
   refine rg ?_;conv=>whnf
   exact Ac E (.cons .tmp (.cons .tmp .nil)) E E
  ·have h4:¬ l=[]:=by simpa using h3
   rw[if_neg h4]at hlk
   have q:=q (List.length_pos_iff.2 h4)
   subst hlk
   refine rg ?_;conv=>whnf
   refine Be 11 1 (.clo (.func 329) [] [.ref 8 (Ap n) 0,.ref 1 (Aa irb) 0]) E E E ?_
   refine rg ?_;conv=>whnf
   refine Ag q F330 E E E E E ?_
   refine rg ?_;conv=>whnf
   exact Ac E (.cons .tmp (.cons .tmp .nil)) E E
theorem Zm (n:Net) (hn:n.Fin) (hb:Af n=true) (irb dst:Int) (hk:InIrbs n irb):Sy.Spec Tryz.prog 207 [Ap n,Aa irb,Bm dst] [] (.tup [Aa (lookT n irb dst).1,Ad (lookT n irb dst).2]) []:=Ab Γ hm 100 F207 Tryz.ntmps207 rfl fun F hF=>by
 have hr:=Bd n hn
 rw[hb]at hr
 have q:=Agp n hn hb irb dst hk
 generalize lookT n irb dst=r at *
 ((conv=>whnf);repeat((first|refine aF ?_|refine aT ?_);(first|refine rG Γ hm ?_|refine rD Γ hm qq ?_);conv=>whnf))
 refine⟨fun h=>absurd (of_decide_eq_true h) qn,fun _=>?_⟩
 ((first|refine rG Γ hm ?_|refine rD Γ hm qq ?_);(conv=>whnf);repeat((first|refine aF ?_|refine aT ?_);(first|refine rG Γ hm ?_|refine rD Γ hm qq ?_);conv=>whnf))
 refine⟨fun h=>absurd (of_decide_eq_true h) qn,fun _=>?_⟩
 ((first|refine rG Γ hm ?_|refine rD Γ hm qq ?_);(conv=>whnf);repeat((first|refine aF ?_|refine aT ?_);(first|refine rG Γ hm ?_|refine rD Γ hm qq ?_);conv=>whnf))
 refine Ag hr F23 E E E E E ?_
 ((first|refine rG Γ hm ?_|refine rD Γ hm qq ?_);(conv=>whnf);repeat((first|refine aF ?_|refine aT ?_);(first|refine rG Γ hm ?_|refine rD Γ hm qq ?_);conv=>whnf))
 refine Ag q F271 E E E E E ?_
 ((first|refine rG Γ hm ?_|refine rD Γ hm qq ?_);(conv=>whnf);repeat((first|refine aF ?_|refine aT ?_);(first|refine rG Γ hm ?_|refine rD Γ hm qq ?_);conv=>whnf))
 exact Ac E (.cons .tmp (.cons .tmp .nil)) E E
theorem Lw {n:Net} {irb dst:Int} (h:(lookT n irb dst).2=true):InIrbs n (lookT n irb dst).1:=by
 unfold lookT at h ⊢
 split at h
 ·cases h
 rename_i h1
 rw[if_neg h1]
 split at h
 ·cases h
 rename_i h2
 rw[if_neg h2]
 have hm:=Q6 (Ai9 n irb) (K5 n irb dst) (List.length_pos_iff.2 h2) ((K5 n irb dst).length-1) (by have:=List.length_pos_iff.2 h2;omega)
 have:=(Mu (p:=Ta n irb dst) (j:=n.irbs.length)).1 hm
 exact⟨this.1,by omega⟩
end Go.Sy.YteinjapglfkamaaGreat
namespace Go.Sy.YteinjapglfkamaaGreat
open Go.Proofs
attribute [local irreducible] Go.Sy.G Go.Sy.DR
set_option maxRecDepth 100000
set_option maxHeartbeats 4000000
theorem Akj (i:Int) (h0:0≤i) (h5:i≤5):Sy.Spec Tryz.prog 157 [Aa i] [] (A9 (8 * (5-i))) []:=Ab Γ hm 100 F157 Tryz.ntmps157 rfl fun F hF=>by
 conv=>whnf
 refine⟨by unfold I64;omega,?_⟩
 conv=>whnf
 refine⟨by unfold I64;omega,?_⟩
 conv=>whnf
 refine Ac E (.cons .tmp .nil) (congrArg (fun z=>SV.val (.int .u64 z)) ?_) E
 rw[IntKind.wrap_u64]
 omega
def be:Nat→Nat→List UInt8
 | 0,_=>[]
 | k+1,m=>UInt8.ofNat (m / 256 ^ k)::be k m
theorem Aw (m:Nat):∀ k,(be k m).length=k
 | 0=>rfl
 | k+1=>by simp[be,Aw m k]
theorem Vc (m:Nat):∀ (k j:Nat) (h:j<k),(be k m).take (j+1)=(be k m).take j++[UInt8.ofNat (m / 256 ^ (k-1-j))]
 | 0,j,h=>by omega
 | k+1,0,h=>by simp[be]
 | k+1,j+1,h=>by
  have:=Vc m k j qn
  simp only[be,List.take_succ_cons,List.cons_append,this]
  rw[show k+1-1-(j+1)=k-1-j by omega]
theorem Abg (m k:Nat) (hk:k≤7):IntKind.u8.wrap ((m:Int).fdiv (2 ^ (min (8 * (k:Int)).toNat IntKind.u64.bits)))=((UInt8.ofNat (m / 256 ^ k)).toNat:Int):=by
 have h1:min (8 * (k:Int)).toNat IntKind.u64.bits=8 * k:=by simp[IntKind.bits];omega
 rw[h1,Int.fdiv_eq_ediv_of_nonneg _ (by exact Int.pow_nonneg qx),IntKind.wrap_u8]
 have h2:(2:Int) ^ (8 * k)=((256 ^ k:Nat):Int):=by rw[Int.pow_mul];simp
 rw[h2]
 simp
theorem put2 (l:List UInt8) (hl:l.length<1000000) (m:Nat):Sy.Spec Tryz.prog 106 [.osl 0,A9 m] [(0,.row 1 Ai l)] (.osl 1) [(0,.non),(1,.row 1 Ai (l++be 6 m))]:=Ab Γ hm 100 F106 Tryz.ntmps106 rfl fun F hF=>by
 conv=>whnf
 refine Af7 0 1 [0] E E qx (by simp;rfl) ?_
 refine A3 6 (fun j=>[(0,.osl 1),(1,A9 m),(6,Aa j)]) (fun j=>[(0,.non),(1,.row 1 Ai (l++(be 6 m).take j))]) [(0,0),(1,1)] ⟨⟨E,E,E,E,E,E,Y⟩,⟨.inl E,E,.inl (congrArg (Ob.row 1 Ai) (List.append_nil l)),E,Y⟩,E,E⟩ ?_
 intro j hj
 refine rg ?_;conv=>whnf
 refine⟨fun h=>?_,fun h=>?_⟩
 ·have hlt:j<6:=by have:=of_decide_eq_true h;omega
  refine rg ?_;conv=>whnf
  refine Ag (Akj j qn qn) F157 E E E E E ?_
  refine rg ?_;conv=>whnf
  refine⟨by omega,?_⟩
  conv=>whnf
  refine Ah (Al Γ.toTy 16 E E E E E (.row E) (.lit (l:=[UInt8.ofNat (m / 256 ^ (5-j))]) E ?_) qy ?_ ?_) E E ?_
  ·have:=Abg m (5-j) qn
   rw[show ((5-j:Nat):Int)=5-(j:Int) by omega]at this
   simp only[List.map_cons,List.map_nil,Ai,← this]
  ·simp[Aw];omega
  ·simp[Aw];omega
  refine rg ?_;conv=>whnf
  refine⟨by unfold I64;omega,?_⟩
  conv=>whnf
  exact Av [(0,0),(1,16)] hlt ⟨⟨E,E,E,E,E,E,Y⟩,⟨.inl E,E,.inl (congrArg (Ob.row 1 Ai) (by rw[Vc _ _ _ hlt,List.append_assoc])),E,Y⟩,E,E⟩
 ·have:j=6:=by have:=of_decide_eq_false h;omega
  subst this
  refine rg ?_;conv=>whnf
  exact done E (.cons .tmp .nil) [(0,0),(1,1)] _ (fun _ h=>h) E E ⟨Y,⟨.inl E,E,.inl E,E,Y⟩,E,E⟩
theorem put2n (m:Nat):Sy.Spec Tryz.prog 106 [.val (.slice none 0 0),A9 m] [] (.osl 0) [(0,.row 1 Ai (be 6 m))]:=Ab Γ hm 100 F106 Tryz.ntmps106 rfl fun F hF=>by
 conv=>whnf
 refine Cf 0 1000 1 Ai E E ?_
 refine A3 6 (fun j=>[(0,.osl 1000),(1,A9 m),(6,Aa j)]) (fun j=>[(1000,.row 1 Ai ((be 6 m).take j))]) [] ⟨⟨E,E,E,E,E,E,Y⟩,⟨.inl E,E,Y⟩,E,E⟩ ?_
 intro j hj
 refine rg ?_;conv=>whnf
 refine⟨fun h=>?_,fun h=>?_⟩
 ·have hlt:j<6:=by have:=of_decide_eq_true h;omega
  refine rg ?_;conv=>whnf
  refine Ag (Akj j qn qn) F157 E E E E E ?_
  refine rg ?_;conv=>whnf
  refine⟨by omega,?_⟩
  conv=>whnf
  refine Ah (Al Γ.toTy 16 E E E E E (.row E) (.lit (l:=[UInt8.ofNat (m / 256 ^ (5-j))]) E ?_) qy ?_ ?_) E E ?_
  ·have:=Abg m (5-j) qn
   rw[show ((5-j:Nat):Int)=5-(j:Int) by omega]at this
   simp only[List.map_cons,List.map_nil,Ai,← this]
  ·simp[Aw];omega
  ·simp[Aw];omega
  refine rg ?_;conv=>whnf
  refine⟨by unfold I64;omega,?_⟩
  conv=>whnf
  exact Av [(1000,16)] hlt ⟨⟨E,E,E,E,E,E,Y⟩,⟨.inl (congrArg (Ob.row 1 Ai) (Vc _ _ _ hlt)),E,Y⟩,E,E⟩
 ·have:j=6:=by have:=of_decide_eq_false h;omega
  subst this
  refine rg ?_;conv=>whnf
  exact done E (.cons .tmp .nil) [(0,1000)] _ (fun _ h=>h) E E ⟨Y,⟨.inl E,E,Y⟩,E,E⟩
theorem Agz (m k:Nat):m / 256 ^ k / 256=m / 256 ^ (k+1):=by rw[Nat.div_div_eq_div_mul,Nat.pow_succ]
theorem Amb (m:Nat) (hm64:m<18446744073709551616):Sy.Spec Tryz.prog 110 [A9 m] [] (.osl 0) [(0,.row 1 Ai (be 6 m))]:=Ab Γ hm 100 F110 Tryz.ntmps110 rfl fun F hF=>by
 conv=>whnf
 refine Cf 3 1000 1 Ai E E ?_
 refine A3 6 (fun j=>[(0,A9 m),(3,.osl 1000),(4,Aa (5-(j:Int)))]) (fun j=>[(1000,.row 1 Ai ((be 6 m).take j))]) [] ⟨⟨E,E,E,E,E,E,Y⟩,⟨.inl E,E,Y⟩,E,E⟩ ?_
 intro j hj
 refine rg ?_;conv=>whnf
 refine⟨fun h=>?_,fun h=>?_⟩
 ·have hlt:j<6:=by have:=of_decide_eq_true h;omega
  refine rg ?_;conv=>whnf
  refine A3 (5-j) (fun k=>[(0,A9 m),(3,.osl 1000),(4,Aa (5-(j:Int))),(5,A9 (m / 256 ^ k:Nat)),(6,Aa k)]) (fun _=>[(1000,.row 1 Ai ((be 6 m).take j))]) [] ⟨⟨E,E,E,E,E,E,by simp;rfl,E,E,E,Y⟩,⟨.inl E,E,Y⟩,E,E⟩ ?_
  intro k hk
  refine rg ?_;conv=>whnf
  refine⟨fun h2=>?_,fun h2=>?_⟩
  ·have hlt2:k<5-j:=by have:=of_decide_eq_true h2;omega
   refine rg ?_;conv=>whnf
   refine⟨by decide,?_⟩
   conv=>whnf
   refine⟨by unfold I64;omega,?_⟩
   conv=>whnf
   refine Av [] qn ⟨⟨E,E,E,E,E,E,congrArg (fun z=>SV.val (.int .u64 z)) ?_,E,E,E,Y⟩,⟨.inl E,E,Y⟩,E,E⟩
   have h5:m / 256 ^ k≤m:=Nat.div_le_self _ _
   rw[Int.tdiv_eq_ediv_of_nonneg (Int.natCast_nonneg _),IntKind.wrap_u64,← Agz]
   generalize m / 256 ^ k=q at *
   omega
  ·have:k=5-j:=by have:=of_decide_eq_false h2;omega
   subst this
   refine rg ?_;conv=>whnf
   refine⟨by decide,?_⟩
   conv=>whnf
   refine Ah (Al Γ.toTy 24 E E E E E (.row E) (.lit (l:=[UInt8.ofNat (m / 256 ^ (5-j))]) E ?_) qy ?_ ?_) E E ?_
   ·simp only[List.map_cons,List.map_nil,Ai]
    congr 3
    rw[Int.tmod_eq_emod_of_nonneg (Int.natCast_nonneg _),IntKind.wrap_u8]
    simp
   ·simp[Aw];omega
   ·simp[Aw];omega
   refine rg ?_;conv=>whnf
   refine⟨by unfold I64;omega,?_⟩
   conv=>whnf
   exact Av [(1000,24)] hlt ⟨⟨E,E,E,E,congrArg (fun z=>SV.val (.int .i64 z)) qn,E,Y⟩,⟨.inl (congrArg (Ob.row 1 Ai) (Vc _ _ _ hlt)),E,Y⟩,E,E⟩
 ·have:j=6:=by have:=of_decide_eq_false h;omega
  subst this
  refine rg ?_;conv=>whnf
  exact done E (.cons .tmp .nil) [(0,1000)] _ (fun _ h=>h) E E ⟨Y,⟨.inl E,E,Y⟩,E,E⟩
def Ai0 (d s:Nat) (t:Int) (body:List UInt8):SV:=.agg [A9 d,A9 s,Aa t,.sl 1 Ai body]
def frame (d s t:Nat) (body:List UInt8):List UInt8:=be 6 d++be 6 s++[UInt8.ofNat (t / 256),UInt8.ofNat t]++body
theorem D4 (t:Nat):[UInt8.ofNat (t / 256),UInt8.ofNat t].map Ai=[SV.val (.int .u8 (IntKind.u8.wrap ((t:Int).fdiv (2 ^ (min (Int.toNat 8) IntKind.i64.bits))))),SV.val (.int .u8 (IntKind.u8.wrap (t:Int)))]:=by
 have h1:IntKind.u8.wrap ((t:Int).fdiv (2 ^ (min (Int.toNat 8) IntKind.i64.bits)))=((UInt8.ofNat (t / 256)).toNat:Int):=by
  show IntKind.u8.wrap ((t:Int).fdiv 256)=_
  rw[Int.fdiv_eq_ediv_of_nonneg _ qx,IntKind.wrap_u8]
  simp
 have h2:IntKind.u8.wrap (t:Int)=((UInt8.ofNat t).toNat:Int):=by
  rw[IntKind.wrap_u8]
  simp
 rw[h1,h2]
 rfl
theorem Ad6 (t:Nat) (ht:t≤65535):[UInt8.ofNat (t / 256),UInt8.ofNat t].map Ai=[SV.val (.int .u8 (IntKind.u8.wrap (IntKind.i64.wrap ((t:Int).tdiv 256)))),SV.val (.int .u8 (IntKind.u8.wrap ((t:Int).tmod 256)))]:=by
 have h1:IntKind.u8.wrap (IntKind.i64.wrap ((t:Int).tdiv 256))=((UInt8.ofNat (t / 256)).toNat:Int):=by
  rw[Int.tdiv_eq_ediv_of_nonneg qn,IntKind.wrap_u8,IntKind.wrap_i64]
  simp
  omega
 have h2:IntKind.u8.wrap ((t:Int).tmod 256)=((UInt8.ofNat t).toNat:Int):=by
  rw[Int.tmod_eq_emod_of_nonneg qn,IntKind.wrap_u8]
  simp
 rw[h1,h2]
 rfl
theorem Ac6 (d s t:Nat) (body:List UInt8) (hd:d<281474976710656) (hs:s<281474976710656) (ht:t≤65535) (hb:body.length≤1504):Sy.Spec Tryz.prog 45 [Ai0 d s t body] [] (.tup [.osl 0,Aa 0]) [(0,.row 1 Ai (frame d s t body))]:=Ab Γ hm 100 F45 Tryz.ntmps45 rfl fun F hF=>by
 conv=>whnf
 refine⟨fun h=>absurd (of_decide_eq_true h) qn,fun _=>?_⟩
 refine rg ?_;conv=>whnf
 refine⟨fun h=>absurd (of_decide_eq_true h) qn,fun _=>?_⟩
 (refine rg ?_;(conv=>whnf);refine aF ?_;refine rg ?_;conv=>whnf)
 refine⟨fun h=>absurd (of_decide_eq_true h) qn,fun _=>?_⟩
 refine rg ?_;conv=>whnf
 refine⟨fun h=>absurd (of_decide_eq_true h) qn,fun _=>?_⟩
 refine rg ?_;conv=>whnf
 refine Bo (Aj [(0,31)] E F106 (put2n d) E Y E ⟨.inr E,Y⟩) qq E ?_
 refine rd qq ?_;conv=>whnf
 refine Bo (Aj [(0,31),(1,34)] E F106 (put2 (be 6 d) (by simp[Aw]) s) E ⟨E,Y⟩ E ⟨.inl E,.inr E,Y⟩) qq E ?_
 refine rd qq ?_;conv=>whnf
 refine⟨by kernel_rfl,?_⟩
 conv=>whnf
 refine⟨by decide,?_⟩
 conv=>whnf
 refine Bo (Al Γ.toTy 44 E E E E E (.row E) (.lit (l:=[UInt8.ofNat (t / 256),UInt8.ofNat t]) E (D4 t)) qx ?_ ?_) qq E ?_
 ·simp[Aw]
 ·simp[Aw]
 refine rd qq ?_;conv=>whnf
 refine Bo (Al Γ.toTy 47 E E E E E (.row E) .sl qx ?_ ?_) qq E ?_
 ·simp[Aw];omega
 ·simp[Aw];omega
 refine rd qq ?_;conv=>whnf
 refine⟨by kernel_rfl,?_⟩
 conv=>whnf
 exact done E (.cons .tmp (.cons .tmp .nil)) [(0,47)] _ (fun _ h=>h) E E ⟨Y,⟨.inl E,E,Y⟩,E,E⟩
theorem Ah3 (d s t:Nat) (body:List UInt8) (hd:d<281474976710656) (hs:s<281474976710656) (ht:t≤65535) (hb:body.length≤1504):Sy.Spec Tryz.prog 49 [Ai0 d s t body] [] (.tup [.osl 0,Aa 0]) [(0,.row 1 Ai (frame d s t body))]:=Ab Γ hm 100 F49 Tryz.ntmps49 rfl fun F hF=>by
 conv=>whnf
 refine⟨fun h=>absurd (of_decide_eq_true h) qn,fun _=>?_⟩
 refine rg ?_;conv=>whnf
 refine⟨fun h=>absurd (of_decide_eq_true h) qn,fun _=>?_⟩
 (refine rg ?_;(conv=>whnf);refine aF ?_;refine rg ?_;conv=>whnf)
 refine⟨fun h=>absurd (of_decide_eq_true h) qn,fun _=>?_⟩
 refine rg ?_;conv=>whnf
 refine⟨fun h=>absurd (of_decide_eq_true h) qn,fun _=>?_⟩
 refine rg ?_;conv=>whnf
 refine Bo (Aj [(0,29)] E F110 (Amb d qn) E Y E ⟨.inr E,Y⟩) qq E ?_
 refine rd qq ?_;conv=>whnf
 refine Bo (Aj [(0,32)] E F110 (Amb s qn) E Y E ⟨.inr E,Y⟩) qq E ?_
 refine rd qq ?_;conv=>whnf
 refine Bo (Al Γ.toTy 33 E E E E E (.row E) (.row E) qx ?_ ?_) qq E ?_
 ·simp[Aw]
 ·simp[Aw]
 refine rd qq ?_;conv=>whnf
 refine⟨by kernel_rfl,?_⟩
 conv=>whnf
 refine⟨by decide,?_⟩
 conv=>whnf
 refine⟨by decide,?_⟩
 conv=>whnf
 refine Ah (Al Γ.toTy 44 E E E E E (.row E) (.lit (l:=[UInt8.ofNat (t / 256),UInt8.ofNat t]) E (Ad6 t ht)) qx ?_ ?_) E E ?_
 ·simp[Aw]
 ·simp[Aw]
 refine rg ?_;conv=>whnf
 refine Ah (Al Γ.toTy 48 E E E E E (.row E) .sl qx ?_ ?_) E E ?_
 ·simp[Aw];omega
 ·simp[Aw];omega
 refine rg ?_;conv=>whnf
 exact done E (.cons .tmp (.cons .tmp .nil)) [(0,48)] _ (fun _ h=>h) E E ⟨Y,⟨.inl E,E,Y⟩,E,E⟩
end Go.Sy.YteinjapglfkamaaGreat
namespace Go.Sy.YteinjapglfkamaaGreat
structure FrameM where
 dst:Nat
 src:Nat
 typ:Nat
 body:List UInt8
def B6 (f:FrameM):SV:=Ai0 f.dst f.src f.typ f.body
structure StepM where
 kind:Int
 port:Int
 domain:Int
 at_:Int
 bytes:List UInt8
 up:List Bool
def Dx (x:StepM):SV:=.agg [Aa x.kind,Aa x.port,Aa x.domain,Aa x.at_,.sl 1 Ai x.bytes,.sl 1 Ad x.up]
structure SeenM where
 port:Int
 origin:Int
 bytes:List UInt8
def Dl (x:SeenM):SV:=.agg [Aa x.port,Aa x.origin,.sl 1 Ai x.bytes]
def E5 (ip:Int):Nat:=2199023255552+ip.toNat
def Hv (a bits:Int):Int:=if 0≤bits∧bits≤32 then a-a % 2 ^ (32-bits).toNat else 0
def C5 (n:Nat):Nat:=if n=0 then 0 else (n-1) % 65535+1
end Go.Sy.YteinjapglfkamaaGreat
namespace Go.Sy.YteinjapglfkamaaGreat
open Go.Proofs
attribute [local irreducible] Go.Sy.G Go.Sy.DR
set_option maxRecDepth 100000
set_option maxHeartbeats 4000000
def Qy (a bits:Int):SV:=.agg [Bm a,Aa bits]
theorem Xl (a bits:Int):Sy.Spec Tryz.prog 269 [Qy a bits] [] (Ad (decide (0≤bits∧bits≤32))) []:=Ab Γ hm 100 F269 Tryz.ntmps269 rfl fun F hF=>by
 conv=>whnf
 (repeat' (first | (refine⟨fun h=>?_,fun h=>?_⟩<;>(repeat (first | simp only[decide_eq_true_eq]at h | simp only[decide_eq_false_iff_not]at h))<;>((refine rg ?_);(conv=>whnf))) | (refine Ac rfl (.cons .tmp .nil) ?_ rfl)))
 all_goals (refine congrArg Ad ?_;clear hF;grind)
theorem Za (a bits:Int) (h:0≤bits∧bits≤32):Sy.Spec Tryz.prog 270 [Qy a bits] [] (Bm (2 ^ (32-bits).toNat-1)) []:=Ab Γ hm 100 F270 Tryz.ntmps270 rfl fun F hF=>by
 conv=>whnf
 refine⟨by unfold I64;omega,?_⟩
 conv=>whnf
 refine⟨by omega,?_⟩
 conv=>whnf
 refine Ac E (.cons .tmp .nil) ?_ E
 refine congrArg (fun z=>SV.val (.int .u32 z)) ?_
 obtain ⟨k,hk,hk2⟩:∃ k:Nat,(32-bits).toNat=k∧k≤32:=⟨_,rfl,by omega⟩
 have h1:min (32-bits).toNat IntKind.u32.bits=k:=by show min (32-bits).toNat 32=k;omega
 rw[h1,hk,IntKind.wrap_u32,IntKind.wrap_u32]
 have h2:(2:Int) ^ k≤4294967296:=by
  have:=Nat.pow_le_pow_right (n:=2) qx hk2
  rw[show (2:Int) ^ k=((2 ^ k:Nat):Int) by rw[Int.natCast_pow];rfl]
  have e:(2:Nat) ^ 32=4294967296:=rfl
  rw[e]at this
  omega
 have h0:(1:Int)≤2 ^ k:=by
  have:=Nat.one_le_two_pow (n:=k)
  rw[show (2:Int) ^ k=((2 ^ k:Nat):Int) by rw[Int.natCast_pow];rfl]
  omega
 generalize (2:Int) ^ k=q at *
 omega
theorem Xh (a k:Nat) (ha:a<4294967296) (hk:k≤32):bits .andNot .u32 (a:Int) ((2 ^ k-1:Nat):Int)=((a-a % 2 ^ k:Nat):Int):=by
 have hp:=Nat.pow_le_pow_right (n:=2) qx hk
 have e32:(2:Nat) ^ 32=4294967296:=rfl
 rw[e32]at hp
 have h1:=Nat.one_le_two_pow (n:=k)
 have x1:(BitVec.ofInt 32 (a:Int)).toNat=a:=by rw[BitVec.ofInt_natCast,BitVec.toNat_ofNat];exact Nat.mod_eq_of_lt qn
 have x2:(BitVec.ofInt 32 ((2 ^ k-1:Nat):Int)).toNat=2 ^ k-1:=by rw[BitVec.ofInt_natCast,BitVec.toNat_ofNat];exact Nat.mod_eq_of_lt qn
 have key:(BitVec.ofInt 32 (a:Int) &&& ~~~ BitVec.ofInt 32 ((2 ^ k-1:Nat):Int)).toNat=a-a % 2 ^ k:=by
  have hd:a-a % 2 ^ k=2 ^ k * (a / 2 ^ k):=by have:=Nat.div_add_mod a (2 ^ k);omega
  rw[hd]
  refine Nat.eq_of_testBit_eq fun i=>?_
  rw[BitVec.testBit_toNat,BitVec.getLsbD_and,BitVec.getLsbD_not,← BitVec.testBit_toNat,← BitVec.testBit_toNat,x1,x2,Nat.testBit_two_pow_sub_one,Nat.testBit_two_pow_mul,Nat.testBit_div_two_pow]
  by_cases hi:i<k
  ·have:¬ i≥k:=by omega
   simp[hi,this]
  ·have h2:i≥k:=by omega
   have h3:i-k+k=i:=by omega
   by_cases h4:i<32
   ·simp[hi,h2,h4,h3]
   ·have h5:a.testBit i=false:=Nat.testBit_lt_two_pow (Nat.lt_of_lt_of_le (by rw[← e32]at ha;exact ha) (Nat.pow_le_pow_right qx qn))
    rw[h3,h5]
    simp
 show IntKind.u32.wrap (((BitVec.ofInt 32 (a:Int) &&& ~~~ BitVec.ofInt 32 ((2 ^ k-1:Nat):Int)).toNat:Nat):Int)=_
 rw[key,IntKind.wrap_u32]
 omega
theorem Ky (a k:Nat) (bits:Int) (h:0≤bits∧bits≤32) (hk:(32-bits).toNat=k):Hv a bits=((a-a % 2 ^ k:Nat):Int):=by
 rw[Hv,if_pos h,hk]
 have h1:=Nat.mod_le a (2 ^ k)
 rw[show (2:Int) ^ k=((2 ^ k:Nat):Int) by rw[Int.natCast_pow];rfl]
 omega
theorem Af5 (a:Nat) (bits:Int) (ha:a<4294967296):Sy.Spec Tryz.prog 205 [Qy a bits] [] (Bm (Hv a bits)) []:=Ab Γ hm 100 F205 Tryz.ntmps205 rfl fun F hF=>by
 have hr:=Xl a bits
 by_cases hb:0≤bits∧bits≤32
 ·have hrest:=Za a bits hb
  rw[decide_eq_true hb]at hr
  obtain ⟨k,hk,hk2⟩:∃ k:Nat,(32-bits).toNat=k∧k≤32:=⟨_,rfl,by omega⟩
  have hn:=Xh a k ha hk2
  have hf:=Ky a k bits hb hk
  have h1:=Nat.one_le_two_pow (n:=k)
  have e2:(2:Int) ^ k-1=((2 ^ k-1:Nat):Int):=by
   rw[show (2:Int) ^ k=((2 ^ k:Nat):Int) by rw[Int.natCast_pow];rfl]
   omega
  rw[hk,e2]at hrest
  rw[hf,← hn]
  ((conv=>whnf);repeat((first|refine aF ?_|refine aT ?_);(first|refine rG Γ hm ?_|refine rD Γ hm qq ?_);conv=>whnf))
  refine Ag hr F269 E E E E E ?_
  ((first|refine rG Γ hm ?_|refine rD Γ hm qq ?_);(conv=>whnf);repeat((first|refine aF ?_|refine aT ?_);(first|refine rG Γ hm ?_|refine rD Γ hm qq ?_);conv=>whnf))
  first | refine Au hrest F270 rfl rfl rfl qq rfl ?_ | refine Ag hrest F270 rfl rfl rfl rfl rfl ?_
  ((first|refine rG Γ hm ?_|refine rD Γ hm qq ?_);(conv=>whnf);repeat((first|refine aF ?_|refine aT ?_);(first|refine rG Γ hm ?_|refine rD Γ hm qq ?_);conv=>whnf))
  first | (refine⟨qq,?_⟩;((conv=>whnf);repeat((first|refine aF ?_|refine aT ?_);(first|refine rG Γ hm ?_|refine rD Γ hm qq ?_);conv=>whnf))) | skip
  exact Ac E (.cons .tmp .nil) E E
 ·rw[decide_eq_false hb]at hr
  have hf:Hv a bits=0:=by rw[Hv,if_neg hb]
  rw[hf]
  ((conv=>whnf);repeat((first|refine aF ?_|refine aT ?_);(first|refine rG Γ hm ?_|refine rD Γ hm qq ?_);conv=>whnf))
  refine Ag hr F269 E E E E E ?_
  ((first|refine rG Γ hm ?_|refine rD Γ hm qq ?_);(conv=>whnf);repeat((first|refine aF ?_|refine aT ?_);(first|refine rG Γ hm ?_|refine rD Γ hm qq ?_);conv=>whnf))
  exact Ac E (.cons .tmp .nil) E E
def J2 (a bits:Int):Int:=if 0≤bits∧bits≤32 then Hv a bits+2 ^ (32-bits).toNat-1 else 0
theorem or_low (a k:Nat) (ha:a<4294967296) (hk:k≤32):bits .or .u32 (a:Int) ((2 ^ k-1:Nat):Int)=((a-a % 2 ^ k+(2 ^ k-1):Nat):Int):=by
 have hp:=Nat.pow_le_pow_right (n:=2) qx hk
 have e32:(2:Nat) ^ 32=4294967296:=rfl
 rw[e32]at hp
 have h1:=Nat.one_le_two_pow (n:=k)
 have x1:(BitVec.ofInt 32 (a:Int)).toNat=a:=by rw[BitVec.ofInt_natCast,BitVec.toNat_ofNat];exact Nat.mod_eq_of_lt qn
 have x2:(BitVec.ofInt 32 ((2 ^ k-1:Nat):Int)).toNat=2 ^ k-1:=by rw[BitVec.ofInt_natCast,BitVec.toNat_ofNat];exact Nat.mod_eq_of_lt qn
 have hd:a-a % 2 ^ k=2 ^ k * (a / 2 ^ k):=by have:=Nat.div_add_mod a (2 ^ k);omega
 have hsum:=Nat.two_pow_add_eq_or_of_lt (i:=k) (b:=2 ^ k-1) qn (a / 2 ^ k)
 have key:(BitVec.ofInt 32 (a:Int) ||| BitVec.ofInt 32 ((2 ^ k-1:Nat):Int)).toNat=a-a % 2 ^ k+(2 ^ k-1):=by
  rw[hd,hsum]
  refine Nat.eq_of_testBit_eq fun i=>?_
  rw[BitVec.testBit_toNat,BitVec.getLsbD_or,← BitVec.testBit_toNat,← BitVec.testBit_toNat,x1,x2,Nat.testBit_or,Nat.testBit_two_pow_sub_one,Nat.testBit_two_pow_mul,Nat.testBit_div_two_pow]
  by_cases hi:i<k
  ·simp[hi]
  ·have h2:i≥k:=by omega
   have h3:i-k+k=i:=by omega
   simp[hi,h2,h3]
 show IntKind.u32.wrap (((BitVec.ofInt 32 (a:Int) ||| BitVec.ofInt 32 ((2 ^ k-1:Nat):Int)).toNat:Nat):Int)=_
 have hlt:(BitVec.ofInt 32 (a:Int) ||| BitVec.ofInt 32 ((2 ^ k-1:Nat):Int)).toNat<4294967296:=BitVec.isLt _
 rw[key]at hlt
 rw[key,IntKind.wrap_u32]
 omega
theorem To (a k:Nat) (bits:Int) (h:0≤bits∧bits≤32) (hk:(32-bits).toNat=k):J2 a bits=((a-a % 2 ^ k+(2 ^ k-1):Nat):Int):=by
 rw[J2,if_pos h,hk,Ky a k bits h hk]
 have h1:=Nat.one_le_two_pow (n:=k)
 rw[show (2:Int) ^ k=((2 ^ k:Nat):Int) by rw[Int.natCast_pow];rfl]
 omega
theorem Zb (a:Nat) (bits:Int) (ha:a<4294967296):Sy.Spec Tryz.prog 206 [Qy a bits] [] (Bm (J2 a bits)) []:=Ab Γ hm 100 F206 Tryz.ntmps206 rfl fun F hF=>by
 have hr:=Xl a bits
 by_cases hb:0≤bits∧bits≤32
 ·have hrest:=Za a bits hb
  rw[decide_eq_true hb]at hr
  obtain ⟨k,hk,hk2⟩:∃ k:Nat,(32-bits).toNat=k∧k≤32:=⟨_,rfl,by omega⟩
  have hn:=or_low a k ha hk2
  have hf:=To a k bits hb hk
  have h1:=Nat.one_le_two_pow (n:=k)
  have e2:(2:Int) ^ k-1=((2 ^ k-1:Nat):Int):=by
   rw[show (2:Int) ^ k=((2 ^ k:Nat):Int) by rw[Int.natCast_pow];rfl]
   omega
  rw[hk,e2]at hrest
  rw[hf,← hn]
  ((conv=>whnf);repeat((first|refine aF ?_|refine aT ?_);(first|refine rG Γ hm ?_|refine rD Γ hm qq ?_);conv=>whnf))
  refine Ag hr F269 E E E E E ?_
  ((first|refine rG Γ hm ?_|refine rD Γ hm qq ?_);(conv=>whnf);repeat((first|refine aF ?_|refine aT ?_);(first|refine rG Γ hm ?_|refine rD Γ hm qq ?_);conv=>whnf))
  first | refine Au hrest F270 rfl rfl rfl qq rfl ?_ | refine Ag hrest F270 rfl rfl rfl rfl rfl ?_
  ((first|refine rG Γ hm ?_|refine rD Γ hm qq ?_);(conv=>whnf);repeat((first|refine aF ?_|refine aT ?_);(first|refine rG Γ hm ?_|refine rD Γ hm qq ?_);conv=>whnf))
  first | (refine⟨qq,?_⟩;((conv=>whnf);repeat((first|refine aF ?_|refine aT ?_);(first|refine rG Γ hm ?_|refine rD Γ hm qq ?_);conv=>whnf))) | skip
  exact Ac E (.cons .tmp .nil) E E
 ·rw[decide_eq_false hb]at hr
  have hf:J2 a bits=0:=by rw[J2,if_neg hb]
  rw[hf]
  ((conv=>whnf);repeat((first|refine aF ?_|refine aT ?_);(first|refine rG Γ hm ?_|refine rD Γ hm qq ?_);conv=>whnf))
  refine Ag hr F269 E E E E E ?_
  ((first|refine rG Γ hm ?_|refine rD Γ hm qq ?_);(conv=>whnf);repeat((first|refine aF ?_|refine aT ?_);(first|refine rG Γ hm ?_|refine rD Γ hm qq ?_);conv=>whnf))
  exact Ac E (.cons .tmp .nil) E E
theorem Amt (a b:Nat) (ha:a<4294967296) (hb:b<4294967296):bits .xor .u32 (a:Int) (b:Int)=((a ^^^ b:Nat):Int):=by
 have x1:(BitVec.ofInt 32 (a:Int)).toNat=a:=by rw[BitVec.ofInt_natCast,BitVec.toNat_ofNat];exact Nat.mod_eq_of_lt qn
 have x2:(BitVec.ofInt 32 (b:Int)).toNat=b:=by rw[BitVec.ofInt_natCast,BitVec.toNat_ofNat];exact Nat.mod_eq_of_lt qn
 show IntKind.u32.wrap (((BitVec.ofInt 32 (a:Int) ^^^ BitVec.ofInt 32 (b:Int)).toNat:Nat):Int)=_
 have hlt:(BitVec.ofInt 32 (a:Int) ^^^ BitVec.ofInt 32 (b:Int)).toNat<4294967296:=BitVec.isLt _
 rw[BitVec.toNat_xor,x1,x2]at hlt ⊢
 rw[IntKind.wrap_u32]
 omega
theorem masked (a x k:Nat) (ha:a<4294967296) (hx:x<4294967296) (hk:k≤32):(bits .andNot .u32 (bits .xor .u32 (a:Int) (x:Int)) ((2 ^ k-1:Nat):Int) == 0)=decide (a / 2 ^ k=x / 2 ^ k):=by
 have hxl:a ^^^ x<4294967296:=Nat.xor_lt_two_pow (n:=32) ha hx
 rw[Amt a x ha hx,Xh _ k hxl hk]
 have hd:(a ^^^ x)-(a ^^^ x) % 2 ^ k=2 ^ k * ((a ^^^ x) / 2 ^ k):=by have:=Nat.div_add_mod (a ^^^ x) (2 ^ k);omega
 rw[hd,Nat.xor_div_two_pow]
 have h1:=Nat.one_le_two_pow (n:=k)
 by_cases h:a / 2 ^ k=x / 2 ^ k
 ·rw[h,Nat.xor_self]
  simp
 ·rw[decide_eq_false h]
  have:a / 2 ^ k ^^^ x / 2 ^ k≠0:=fun e=>h (by
   have:=congrArg (fun z=>z ^^^ x / 2 ^ k) e
   simpa [Nat.xor_assoc] using this)
  rw[beq_eq_false_iff_ne]
  intro e
  have e:=Int.natCast_eq_zero.1 e
  rcases Nat.mul_eq_zero.1 e with e | e
  ·omega
  ·exact this e
theorem Ahs (a x q:Nat) (hq:0<q):(a / q=x / q)↔(a-a % q≤x∧x≤a-a % q+(q-1)):=by
 have h1:=Nat.div_add_mod a q
 have hd:a-a % q=q * (a / q):=by omega
 rw[hd]
 constructor
 ·intro e
  have h2:=Nat.div_add_mod x q
  have h3:=Nat.mod_lt x hq
  rw[← e]at h2
  omega
 ·rintro ⟨h2,h3⟩
  symm
  rw[Nat.div_eq_iff hq]
  generalize a / q=m at *
  have:q * m=m * q:=Nat.mul_comm ..
  constructor<;>omega
def Ei (n:Net):Prop:=∀ x∈n.irbs,0≤x.addr∧x.addr<4294967296
end Go.Sy.YteinjapglfkamaaGreat
namespace Go.Sy.YteinjapglfkamaaGreat
open Go.Proofs
set_option maxRecDepth 20000
set_option maxHeartbeats 4000000
theorem Mq {x:Int} (h0:0≤x) (h1:x<4294967297):IntKind.i64.wrap x=x:=by
 rw[IntKind.wrap_i64];omega
theorem Ahb {x:Int} (h0:0≤x) (h1:x<4294967296):IntKind.u32.wrap x=x:=by
 rw[IntKind.wrap_u32];omega
theorem Ah0 (b:Int) (h:0≤b∧b≤32):Abp b=((2 ^ (32-b).toNat-1:Nat):Int):=by
 obtain ⟨k,hk,hk2⟩:∃ k:Nat,(32-b).toNat=k∧k≤32:=⟨_,rfl,by omega⟩
 have h1:min (32-b).toNat IntKind.u32.bits=k:=by show min (32-b).toNat 32=k;omega
 have hp:=Nat.pow_le_pow_right (n:=2) qx hk2
 have e32:(2:Nat) ^ 32=4294967296:=rfl
 rw[e32]at hp
 have h0:=Nat.one_le_two_pow (n:=k)
 rw[Abp,h1,hk,IntKind.wrap_u32,IntKind.wrap_u32,show (2:Int) ^ k=((2 ^ k:Nat):Int) by rw[Int.natCast_pow];rfl]
 generalize 2 ^ k=q at *
 omega
theorem Alr (a b x:Int) (hb:0≤b∧b≤32) (ha:0≤a∧a<4294967296) (hx:0≤x∧x<4294967296):Ait a b x=true↔Hv a b≤x∧x≤J2 a b:=by
 obtain ⟨a,rfl⟩:=Int.eq_ofNat_of_zero_le ha.1
 obtain ⟨x,rfl⟩:=Int.eq_ofNat_of_zero_le hx.1
 obtain ⟨k,hk,hk2⟩:∃ k:Nat,(32-b).toNat=k∧k≤32:=⟨_,rfl,by omega⟩
 have h0:=Nat.one_le_two_pow (n:=k)
 rw[Ait,Ah0 b hb,hk,masked a x k qn qn hk2,decide_eq_true_iff,Ahs a x (2 ^ k) qn,Ky a k b hb hk,To a k b hb hk]
 omega
theorem Q9 (a b:Int) (ha:0≤a∧a<4294967296):0≤J2 a b∧J2 a b<4294967296:=by
 by_cases hb:0≤b∧b≤32
 ·obtain ⟨a,rfl⟩:=Int.eq_ofNat_of_zero_le ha.1
  obtain ⟨k,hk,hk2⟩:∃ k:Nat,(32-b).toNat=k∧k≤32:=⟨_,rfl,by omega⟩
  have h0:=Nat.one_le_two_pow (n:=k)
  rw[To a k b hb hk]
  have hd:a-a % 2 ^ k=2 ^ k * (a / 2 ^ k):=by have:=Nat.div_add_mod a (2 ^ k);omega
  have h32:2 ^ k * 2 ^ (32-k)=4294967296:=by
   rw[← Nat.pow_add,show k+(32-k)=32 by omega]
  have:a / 2 ^ k<2 ^ (32-k):=by rw[Nat.div_lt_iff_lt_mul qn,Nat.mul_comm,h32];omega
  have:2 ^ k * (a / 2 ^ k)+2 ^ k≤2 ^ k * 2 ^ (32-k):=by
   rw[← Nat.mul_succ];exact Nat.mul_le_mul_left _ this
  omega
 ·rw[J2,if_neg hb];omega
theorem Y2 (a b:Int) (ha:0≤a∧a<4294967296):0≤Hv a b∧Hv a b<4294967296:=by
 by_cases hb:0≤b∧b≤32
 ·obtain ⟨a,rfl⟩:=Int.eq_ofNat_of_zero_le ha.1
  rw[Ky a _ b hb rfl]
  omega
 ·rw[Hv,if_neg hb];omega
end Go.Sy.YteinjapglfkamaaGreat
namespace Go.Sy
def Ady (C:Cx) {β:Type} (I:β→Prop) (L:β→List (Nat × SV)) (O:β→Obs) (μ:β→Nat) (x:β) (a:Act) (w:World):Prop :=
 ∃ x':{y:β // I y},∃ κ,μ x'.1<μ x∧St C.F C.n (mkS (L x'.1) (O x'.1)) κ a w
theorem Vd {C:Cx} {k:List KI} {s:SS} {body:Code} {β:Type} (I:β→Prop) (L:β→List (Nat × SV)) (O:β→Obs) (μ:β→Nat) (x₀:β) (ρ:List (Nat × Nat)) (h0:I x₀) (hsub:Sub C s ρ (L x₀) (O x₀))
  (h:∀ x,I x→G C (.code body::.inv (Ady C I L O μ x)::k) (mkS (L x) (O x))):G C (.code (.loop body)::k) s :=
 Mg (α:={y:β // I y}) (fun x=>L x.1) (fun x=>O x.1) (fun x=>μ x.1) ⟨x₀,h0⟩ ρ hsub (fun x=>h x.1 x.2)
theorem Iy {C:Cx} {k:List KI} {s:SS} {β:Type} {I:β→Prop} {L:β→List (Nat × SV)} {O:β→Obs} {μ:β→Nat} {x:β} (x':β) (ρ:List (Nat × Nat)) (h':I x') (hμ:μ x'<μ x) (hsub:Sub C s ρ (L x') (O x')) :
  G C (.inv (Ady C I L O μ x)::k) s:=fun _ _ _ hs=>⟨⟨x',h'⟩,_,hμ,hsub.st hs⟩
theorem S7 {C:Cx} {kk:List KI} {s:SS} (k d:Nat) {sz:Nat} {α:Type} {e:α→SV} {l:List α} (h:s.h k=.row sz e l) (hd:s.h d=.fresh) (hkd:k≠d)
  (hg:G C kk ⟨fun i=>frz k (.osl d) (s.σ i),upd (fun j=>bif Nat.beq j k then .non else Aiz k (.osl d) (s.h j)) d (.row sz e l)⟩):G C kk s:=fun κ a w hs=>by
 have hob:=hs.obj k
 rw[h]at hob
 have hnew:κ d=.new:=by have:=hs.obj d;rwa [hd]at this
 have fin:∀ κ':Ka,(∀ j,j≠k→j≠d→κ' j=κ j)→Step (fun j=>j=k∨j=d) κ w κ' w→Inv κ' w→(∀ v,Rd κ w (.osl k) v→Rd κ' w (.osl d) v)→ObOK κ' w d (.row sz e l)→den C.P C.B kk .normal a w:=by
  intro κ' hne st inv hv ho
  refine hg κ' a w ⟨hs.defers,hs.size,inv,hs.ctx.step inv st,fun j=>Aaa st hv _ _ (hs.slot j),fun j=>?_⟩
  show ObOK κ' w j (upd (fun j=>bif Nat.beq j k then .non else Aiz k (.osl d) (s.h j)) d (.row sz e l) j)
  by_cases hj:j=d
  ·subst hj;rw[Bg];exact ho
  ·rw[Bz _ _ hj]
   by_cases hj2:j=k
   ·subst hj2;rw[show Nat.beq j j=true from Nat.beq_refl j];trivial
   ·rw[show Nat.beq j k=false from by cases hb:Nat.beq j k with | false=>rfl | true=>exact absurd (Nat.eq_of_beq_eq_true hb) hj2]
    have hb:=ObOK.step st (fun e=>e.elim hj2 hj) _ (hs.obj j)
    have h0:=hs.obj j
    show ObOK κ' w j (Aiz k (.osl d) (s.h j))
    cases hh:s.h j with
    | box m =>
     rw[hh]at h0 hb
     obtain ⟨b,cs,T,fr,e1,e2,e3,e4,e5⟩:=h0
     exact⟨b,cs,T,fr,(hne j hj2 hj).trans e1,e2,e3,e4,Kx st hv m cs e5⟩
    | fresh=>rw[hh]at hb;exact hb
    | non=>rw[hh]at hb;exact hb
    | row sz' e' l'=>rw[hh]at hb;exact hb
    | lit sz' svs=>rw[hh]at hb;exact hb
    | glob sz' x' g'=>rw[hh]at hb;exact hb
    | pin b' n' cap' sz' e' l'=>rw[hh]at hb;exact hb
    | dat v' sz' e' l'=>rw[hh]at hb;exact hb
 rcases hob with ⟨h1,rfl⟩ | ⟨b,cap,cs,T,fr,e1,e2,e3,e4,e5,e6⟩
 ·have st:=E1 (Hn hs.inv (some k)) (by show Cu κ k .dead d=.new;rw[Bq _ _ (Ne.symm hkd)];exact hnew) (e:=.nil) (Grew.refl w) (fun b hb=>by cases hb)
  refine fin _ (fun j h1 h2=>by rw[Bq _ _ h2];exact Bq _ _ h1) (((Eu (some k)).weaken (fun j hj=>.inl (Option.some.inj hj).symm)).trans (st.1.weaken (fun j hj=>.inr hj))) st.2 (fun v hv=>?_) (.inl ⟨Aq _ _ _,E⟩)
  simp only[Rd,h1]at hv
  simp[Rd,Aq,hv]
 ·obtain ⟨st,inv⟩:=Jp (n':=l.length) (w':=w) hs.inv e1 hnew rfl rfl rfl rfl (fun _ _=>rfl)
  refine fin _ (fun j h1 h2=>by rw[Bq _ _ h2];exact Bq _ _ h1) st inv (fun v hv=>?_) (.inr ⟨b,cap,cs,T,fr,Aq _ _ _,e2,e3,e4,e5,fun i x hx=>?_⟩)
  ·simp only[Rd,e1]at hv
   simp[Rd,Aq,hv]
  ·obtain ⟨q1,u,q2,q3⟩:=e6 i x hx
   exact⟨q1,u,RdD.keep st.keeps _ _ q2,q3⟩
theorem Iz {C:Cx} {k:List KI} {s:SS} (d:Nat) {sz:Nat} {α:Type} (e:α→SV) (l:List α) {svs:List SV} (h:s.h d=.lit sz svs) (hl:l.map e=svs) (hg:G C k ⟨s.σ,upd s.h d (.row sz e l)⟩):G C k s:=fun κ a w hs=>by
 refine hg κ a w ⟨hs.defers,hs.size,hs.inv,hs.ctx,hs.slot,fun j=>?_⟩
 show ObOK κ w j (upd s.h d (.row sz e l) j)
 by_cases hj:j=d
 ·subst hj
  rw[Bg]
  have hob:=hs.obj j
  rw[h]at hob
  have hlen:l.length=svs.length:=by rw[← hl,List.length_map]
  obtain ⟨b,cap,cs,T,fr,e1,e2,e3,e4,e5,e6⟩:=hob
  exact .inr ⟨b,cap,cs,T,fr,by rw[hlen];exact e1,e2,e3,e4,by omega,fun i x hx=>by rw[hlen];exact e6 i x (Jr hl i x hx)⟩
 ·rw[Bz _ _ hj];exact hs.obj j
end Go.Sy
namespace Go.Sy.YteinjapglfkamaaGreat
open Go.Proofs
attribute [local irreducible] Go.Sy.G Go.Sy.DR
set_option maxRecDepth 20000
set_option maxHeartbeats 4000000
theorem Aii {n:Net} {irb dst:Int} (h:(lookT n irb dst).2=true):Ta n irb dst (lookT n irb dst).1.toNat=true:=by
 unfold lookT at h ⊢
 split at h
 ·cases h
 rename_i h1
 rw[if_neg h1]
 split at h
 ·cases h
 rename_i h2
 rw[if_neg h2]
 have hm:=Q6 (Ai9 n irb) (K5 n irb dst) (List.length_pos_iff.2 h2) ((K5 n irb dst).length-1) (by have:=List.length_pos_iff.2 h2;omega)
 exact((Mu (p:=Ta n irb dst) (j:=n.irbs.length)).1 hm).2.2
theorem Aht (x:Int) (i:Irb):Sy.Spec Tryz.prog 273 [Cd i,.ref 1 (Bm x) 0] [] (Ad (i.addr == x)) []:=Ab Γ hm 100 F273 Tryz.ntmps273 rfl fun F hF=>by
 conv=>whnf
 exact Ac E (.cons .tmp .nil) E E
theorem Ahu (x:Int) (i:Irb):Sy.Spec Tryz.prog 209 [Cd i,.ref 1 (Bm x) 0] [] (Ad (i.addr == x)) []:=Ab Γ hm 100 F209 Tryz.ntmps209 rfl fun F hF=>by
 conv=>whnf
 exact Ac E (.cons .tmp .nil) E E
def Kh (n:Net) (a:Int):Bool:=decide (0≤Cb (fun i:Irb=>i.addr == a) n.irbs)
def pastI (n:Net) (a led:Int):Int:=if Kh n a=true then a+1 else J2 (nth n.irbs led).addr (nth n.irbs led).bits+1
theorem Adj (n:Net) (hn:n.Fin) (hu:Ei n) (a led:Int) (ha:0≤a∧a<4294967296) (hl:Kh n a=false→InIrbs n led) :
  Sy.Spec Tryz.prog 210 [Ap n,Bm a,Aa led] [] (Aa (pastI n a led)) []:=Ab Γ hm 100 F210 Tryz.ntmps210 rfl fun F hF=>by
 have hlk:=pastI.eq_1 n a led
 generalize pastI n a led=res at *
 have q7:=I7 n.irbs (fun i:Irb=>i.addr == a) 273 [] [.ref 1 (Bm a) 0] rfl (fun i _=>⟨⟨_,_,F273⟩,Aht a i⟩) hn.irbs
 have ht:decide (0≤Cb (fun i:Irb=>i.addr == a) n.irbs)=Kh n a:=rfl
 rw[ht]at q7
 generalize Kh n a=tk at *
 conv=>whnf
 refine Be 3 8 (Ap n) E E E ?_
 refine Be 4 1 (Bm a) E E E ?_
 refine rg ?_;conv=>whnf
 refine Ag q7 F208 E E E E E ?_
 cases tk
 rotate_left
 ·rw[if_pos rfl]at hlk
  subst hlk
  (refine rg ?_;(conv=>whnf);refine aT ?_;refine rg ?_;conv=>whnf)
  rw[Mq qn qn]
  refine⟨by unfold I64;omega,?_⟩
  conv=>whnf
  exact Ac E (.cons .tmp .nil) E E
 rw[if_neg qy]at hlk
 have hli:=hl rfl
 rw[Am hli.2]at hlk
 have hui:=hu _ (List.getElem_mem hli.2)
 obtain ⟨x,hx⟩:∃ x,n.irbs[led.toNat]'hli.2=x:=⟨_,rfl⟩
 rw[hx]at hlk hui
 obtain ⟨y,hy⟩:=Int.eq_ofNat_of_zero_le hui.1
 have q:=Zb y x.bits qn
 have hle:=Q9 x.addr x.bits hui
 rw[← hy]at q
 generalize J2 x.addr x.bits=z at *
 subst hlk
 (refine rg ?_;(conv=>whnf);refine aF ?_;refine rg ?_;conv=>whnf)
 refine⟨E,hli.1,hli.2,?_⟩
 rw[hx]
 conv=>whnf
 first | refine Au q F206 rfl rfl rfl qq rfl ?_ | refine Ag q F206 rfl rfl rfl rfl rfl ?_
 refine rg ?_;conv=>whnf
 rw[Mq qn qn]
 refine⟨by unfold I64;omega,?_⟩
 conv=>whnf
 exact Ac E (.cons .tmp .nil) E E
theorem Akz {n:Net} (hu:Ei n) (hb:Af n=true) {irb a:Int} (ha:0≤a∧a<4294967296) (h:Kh n a=false→(lookT n irb a).2=true) :
  a<pastI n a (lookT n irb a).1∧pastI n a (lookT n irb a).1≤4294967296:=by
 rw[pastI]
 split
 ·omega
 rename_i ht
 have h2:=h (by simpa using ht)
 have hw:=Aii h2
 have hi:=Lw h2
 have e:((lookT n irb a).1.toNat:Int)=(lookT n irb a).1:=by have:=hi.1;omega
 rw[Ta,Bool.and_eq_true,e]at hw
 rw[Am hi.2]at hw ⊢
 have hui:=hu _ (List.getElem_mem hi.2)
 have hbi:=(C6 hb hi.2).2.2
 have h3:=(Alr _ _ _ hbi hui ha).1 hw.1
 have h4:=Q9 _ (n.irbs[(lookT n irb a).1.toNat]'hi.2).bits hui
 omega
def addrGo (n:Net) (irb to e:Int) (x:Int):Int × Bool :=
 if x≤e then
  if (lookT n irb x).2=true∧(lookT n irb x).1=to∧Kh n x=false then (x,true)
  else if (lookT n irb x).2=false∧Kh n x=false then (0,false)
  else if x<pastI n x (lookT n irb x).1 then addrGo n irb to e (pastI n x (lookT n irb x).1) else (0,false)
 else (0,false)
 termination_by (e+1-x).toNat
 decreasing_by omega
def addrT (n:Net) (irb to:Int):Int × Bool :=
 if (0≤irb∧irb<n.irbs.length)∧(0≤to∧to<n.irbs.length)∧Af n=true then
  addrGo n irb to (J2 (nth n.irbs to).addr (nth n.irbs to).bits) (Hv (nth n.irbs to).addr (nth n.irbs to).bits) else (0,false)
theorem Xc (n:Net) (hn:n.Fin) (hu:Ei n) (irb to:Int):Sy.Spec Tryz.prog 150 [Ap n,Aa irb,Aa to] [] (.tup [Bm (addrT n irb to).1,Ad (addrT n irb to).2]) []:=Ab Γ hm 100 F150 Tryz.ntmps150 rfl fun F hF=>by
 have hlk:=addrT.eq_1 n irb to
 generalize addrT n irb to=res at *
 have hr:=Bd n hn
 have hsi:=hn.irbs
 unfold An at hsi
 conv=>whnf
 refine⟨fun h=>?_,fun h=>?_⟩
 ·rw[if_neg (by have:=of_decide_eq_true h;omega)]at hlk
  subst hlk
  (refine rg ?_;(conv=>whnf);refine aT ?_;refine rg ?_;(conv=>whnf);refine aT ?_;refine rg ?_;(conv=>whnf);refine aT ?_;refine rg ?_;(conv=>whnf);refine aT ?_;refine rg ?_;conv=>whnf)
  exact Ac E (.cons .tmp (.cons .tmp .nil)) E E
 have h1:¬ irb<0:=of_decide_eq_false h
 refine rg ?_;conv=>whnf
 refine⟨fun h=>?_,fun h=>?_⟩
 ·rw[if_neg (by have:=of_decide_eq_true h;omega)]at hlk
  subst hlk
  (refine rg ?_;(conv=>whnf);refine aT ?_;refine rg ?_;(conv=>whnf);refine aT ?_;refine rg ?_;(conv=>whnf);refine aT ?_;refine rg ?_;conv=>whnf)
  exact Ac E (.cons .tmp (.cons .tmp .nil)) E E
 have h2:¬ to<0:=of_decide_eq_false h
 refine Be 3 8 (Ap n) E E E ?_
 refine rg ?_;conv=>whnf
 refine⟨fun h=>?_,fun h=>?_⟩
 ·rw[if_neg (by have:=of_decide_eq_true h;omega)]at hlk
  subst hlk
  (refine rg ?_;(conv=>whnf);refine aT ?_;refine rg ?_;(conv=>whnf);refine aT ?_;refine rg ?_;conv=>whnf)
  exact Ac E (.cons .tmp (.cons .tmp .nil)) E E
 have h3:irb<n.irbs.length:=by have:=of_decide_eq_false h;omega
 refine rg ?_;conv=>whnf
 refine⟨fun h=>?_,fun h=>?_⟩
 ·rw[if_neg (by have:=of_decide_eq_true h;omega)]at hlk
  subst hlk
  (refine rg ?_;(conv=>whnf);refine aT ?_;refine rg ?_;conv=>whnf)
  exact Ac E (.cons .tmp (.cons .tmp .nil)) E E
 have h4:to<n.irbs.length:=by have:=of_decide_eq_false h;omega
 refine rg ?_;conv=>whnf
 refine Ag hr F23 E E E E E ?_
 cases hb:Af n
 ·rw[if_neg (by simp[hb])]at hlk
  subst hlk
  (refine rg ?_;(conv=>whnf);refine aT ?_;refine rg ?_;conv=>whnf)
  exact Ac E (.cons .tmp (.cons .tmp .nil)) E E
 rw[if_pos ⟨⟨by omega,h3⟩,⟨by omega,h4⟩,hb⟩]at hlk
 have hti:InIrbs n to:=⟨by omega,by omega⟩
 have hii:InIrbs n irb:=⟨by omega,by omega⟩
 rw[Am hti.2]at hlk
 have hui:=hu _ (List.getElem_mem hti.2)
 obtain ⟨x,hx⟩:∃ x,n.irbs[to.toNat]'hti.2=x:=⟨_,rfl⟩
 rw[hx]at hlk hui
 obtain ⟨y,hy⟩:=Int.eq_ofNat_of_zero_le hui.1
 have q1:=Af5 y x.bits qn
 have q2:=Zb y x.bits qn
 have hf:=Y2 x.addr x.bits hui
 have hle:=Q9 x.addr x.bits hui
 rw[← hy]at q1 q2
 generalize J2 x.addr x.bits=e at *
 generalize Hv x.addr x.bits=s at *
 (refine rg ?_;(conv=>whnf);refine aF ?_;refine rg ?_;conv=>whnf)
 refine⟨E,hti.1,hti.2,?_⟩
 rw[hx]
 conv=>whnf
 refine Au q1 F205 E E E qq E ?_
 refine rd qq ?_;conv=>whnf
 refine Au q2 F206 E E E qq E ?_
 refine rd qq ?_;conv=>whnf
 refine⟨qq,?_⟩
 conv=>whnf
 refine Vd (fun z:Int=>0≤z∧z≤4294967296∧res=addrGo n irb to e z) (fun z=>[(1,Aa irb),(2,Aa to),(3,.ref 8 (Ap n) 0),(9,Aa z),(10,Aa e)]) (fun _=>[]) (fun z=>(e+1-z).toNat) s [] ⟨hf.1,by omega,hlk⟩
  ⟨⟨rfl,rfl,rfl,rfl,rfl,rfl,congrArg Aa (Mq (x:=s) qn qn).symm,rfl,congrArg Aa (Mq (x:=e) qn qn).symm,rfl,trivial⟩,trivial,rfl,rfl⟩ ?_
 clear hlk
 rintro z ⟨hz0,hz1,hlk⟩
 refine rg ?_;conv=>whnf
 refine⟨fun h=>?_,fun h=>?_⟩
 ·have h5:z≤e:=of_decide_eq_true h
  rw[addrGo,if_pos h5]at hlk
  have hz2:0≤z∧z<4294967296:=by omega
  have q6:=Zm n hn hb irb z hii
  have hgt:=Akz (irb:=irb) hu hb hz2
  have hth:=Lw (n:=n) (irb:=irb) (dst:=z)
  have q8:=fun led hl=>Adj n hn hu z led hz2 hl
  have q7:=I7 n.irbs (fun i:Irb=>i.addr == z) 209 [] [.ref 1 (Bm z) 0] rfl (fun i _=>⟨⟨_,_,F209⟩,Ahu z i⟩) hn.irbs
  have ht:decide (0≤Cb (fun i:Irb=>i.addr == z) n.irbs)=Kh n z:=rfl
  rw[ht]at q7
  clear ht
  generalize Kh n z=tk at *
  generalize lookT n irb z=ld at *
  obtain ⟨led,ok⟩:=ld
  dsimp only at *
  refine rg ?_;conv=>whnf
  rw[Ahb hz2.1 hz2.2]
  refine Ag q6 F207 E E E E E ?_
  refine Be 11 1 (Bm z) E E E ?_
  refine rg ?_;conv=>whnf
  refine Ag q7 F208 E E E E E ?_
  cases ok
  ·cases tk
   ·rw[if_neg qy,if_pos ⟨rfl,rfl⟩]at hlk
    subst hlk
    (refine rg ?_;(conv=>whnf);refine aF ?_;refine rg ?_;(conv=>whnf);refine aF ?_;refine rg ?_;(conv=>whnf);refine aF ?_;refine rg ?_;(conv=>whnf);refine aT ?_;refine rg ?_;(conv=>whnf);refine aT ?_;refine rg ?_;conv=>whnf)
    exact Ac E (.cons .tmp (.cons .tmp .nil)) E E
   ·rw[if_neg qy,if_neg qy,if_pos (hgt (fun h=>by cases h)).1]at hlk
    have hg:=hgt (fun h=>by cases h)
    have q:=q8 led (fun h=>by cases h)
    generalize pastI n z led=nx at *
    (refine rg ?_;(conv=>whnf);refine aF ?_;refine rg ?_;(conv=>whnf);refine aF ?_;refine rg ?_;(conv=>whnf);refine aF ?_;refine rg ?_;(conv=>whnf);refine aT ?_;refine rg ?_;(conv=>whnf);refine aF ?_;refine rg ?_;conv=>whnf)
    refine Ag q F210 E E E E E ?_
    refine rg ?_;conv=>whnf
    exact Iy nx [] ⟨by omega,hg.2,hlk⟩ qn ⟨⟨E,E,E,E,E,E,E,E,E,E,Y⟩,Y,E,E⟩
  ·have q:=q8 led (fun _=>hth rfl)
   have hg:=hgt (fun _=>rfl)
   cases tk
   ·by_cases hto:led=to
    ·subst hto
     rw[if_pos ⟨rfl,rfl,rfl⟩]at hlk
     subst hlk
     (refine rg ?_;(conv=>whnf);refine aT ?_;refine rg ?_;conv=>whnf)
     refine⟨fun h=>?_,fun h=>?_⟩
     ·(refine rg ?_;(conv=>whnf);refine aT ?_;refine rg ?_;conv=>whnf)
      exact Ac E (.cons .tmp (.cons .tmp .nil)) E E
     ·simp at h
    ·rw[if_neg (by simp[hto]),if_neg qy,if_pos hg.1]at hlk
     generalize pastI n z led=nx at *
     (refine rg ?_;(conv=>whnf);refine aT ?_;refine rg ?_;conv=>whnf)
     refine⟨fun h=>absurd (by simpa using h) hto,fun h=>?_⟩
     (refine rg ?_;(conv=>whnf);refine aF ?_;refine rg ?_;(conv=>whnf);refine aF ?_;refine rg ?_;(conv=>whnf);refine aF ?_;refine rg ?_;conv=>whnf)
     refine Ag q F210 E E E E E ?_
     refine rg ?_;conv=>whnf
     exact Iy nx [] ⟨by omega,hg.2,hlk⟩ qn ⟨⟨E,E,E,E,E,E,E,E,E,E,Y⟩,Y,E,E⟩
   ·rw[if_neg qy,if_neg qy,if_pos hg.1]at hlk
    generalize pastI n z led=nx at *
    (refine rg ?_;(conv=>whnf);refine aT ?_;refine rg ?_;conv=>whnf)
    refine⟨fun h=>?_,fun h=>?_⟩
    ·(refine rg ?_;(conv=>whnf);refine aF ?_;refine rg ?_;(conv=>whnf);refine aF ?_;refine rg ?_;(conv=>whnf);refine aF ?_;refine rg ?_;conv=>whnf)
     refine Ag q F210 E E E E E ?_
     refine rg ?_;conv=>whnf
     exact Iy nx [] ⟨by omega,hg.2,hlk⟩ qn ⟨⟨E,E,E,E,E,E,E,E,E,E,Y⟩,Y,E,E⟩
    ·(refine rg ?_;(conv=>whnf);refine aF ?_;refine rg ?_;(conv=>whnf);refine aF ?_;refine rg ?_;(conv=>whnf);refine aF ?_;refine rg ?_;conv=>whnf)
     refine Ag q F210 E E E E E ?_
     refine rg ?_;conv=>whnf
     exact Iy nx [] ⟨by omega,hg.2,hlk⟩ qn ⟨⟨E,E,E,E,E,E,E,E,E,E,Y⟩,Y,E,E⟩
 ·have h5:¬ z≤e:=of_decide_eq_false h
  rw[addrGo,if_neg h5]at hlk
  subst hlk
  refine rg ?_;conv=>whnf
  exact Ac E (.cons .tmp (.cons .tmp .nil)) E E
structure Lead where
 (to domain addr:Int)
abbrev Ip (l:Lead):SV:=.agg [Aa l.to,Aa l.domain,Bm l.addr]
instance:Inhabited Lead:=⟨⟨0,0,0⟩⟩
def leadF (n:Net) (irb:Int) (i:Nat):Option Lead:=if (addrT n irb i).2=true then some ⟨i,(nth n.irbs i).domain,(addrT n irb i).1⟩ else none
def Lx (n:Net) (irb:Int) (j:Nat):List Lead:=(List.range j).filterMap (leadF n irb)
def routesT (n:Net) (d:Int):List Lead:=if (0≤d∧d<n.domains.length)∧0≤(nth n.domains d).irb∧Af n=true then Lx n (nth n.domains d).irb n.irbs.length else []
theorem Acm (n:Net) (irb:Int) (j:Nat):Lx n irb (j+1)=Lx n irb j++(match leadF n irb j with | some h=>[h] | none=>[]):=by
 rw[Lx,List.range_succ,List.filterMap_append]
 cases h:leadF n irb j<;>simp[h,Lx]
theorem Og (n:Net) (irb:Int) (j:Nat):(Lx n irb j).length≤j:=by
 have:=List.length_filterMap_le (leadF n irb) (List.range j)
 simpa [Lx] using this
theorem X9 (n:Net) (hn:n.Fin) (hu:Ei n) (d:Int):Sy.Spec Tryz.prog 96 [Ap n,Aa d] [] (.sl 3 Ip (routesT n d)) []:=Ab Γ hm 100 F96 Tryz.ntmps96 rfl fun F hF=>by
 have hlk:=routesT.eq_1 n d
 generalize routesT n d=res at *
 have hr:=Bd n hn
 have hsi:=hn.irbs
 unfold An at hsi
 conv=>whnf
 refine⟨fun h=>?_,fun h=>?_⟩
 ·rw[if_neg (by have:=of_decide_eq_true h;omega)]at hlk
  subst hlk
  (refine rg ?_;(conv=>whnf);refine aT ?_;refine rg ?_;(conv=>whnf);refine aT ?_;refine rg ?_;(conv=>whnf);refine aT ?_;refine rg ?_;conv=>whnf)
  refine Ao 4 3 Ip E ?_
  refine rg ?_;conv=>whnf
  exact Ac E (.cons .tmp .nil) E E
 have h1:¬ d<0:=of_decide_eq_false h
 refine Be 2 8 (Ap n) E E E ?_
 refine rg ?_;conv=>whnf
 refine⟨fun h=>?_,fun h=>?_⟩
 ·rw[if_neg (by have:=of_decide_eq_true h;omega)]at hlk
  subst hlk
  (refine rg ?_;(conv=>whnf);refine aT ?_;refine rg ?_;(conv=>whnf);refine aT ?_;refine rg ?_;conv=>whnf)
  refine Ao 4 3 Ip E ?_
  refine rg ?_;conv=>whnf
  exact Ac E (.cons .tmp .nil) E E
 have h2:d<n.domains.length:=by have:=of_decide_eq_false h;omega
 have hk:d.toNat<n.domains.length:=by omega
 rw[Am hk]at hlk
 obtain ⟨x,hx⟩:∃ x,n.domains[d.toNat]'hk=x:=⟨_,rfl⟩
 rw[hx]at hlk
 refine rg ?_;conv=>whnf
 refine⟨E,by omega,hk,?_⟩
 rw[hx]
 conv=>whnf
 refine⟨fun h=>?_,fun h=>?_⟩
 ·rw[if_neg (by have:=of_decide_eq_true h;omega)]at hlk
  subst hlk
  (refine rg ?_;(conv=>whnf);refine aT ?_;refine rg ?_;conv=>whnf)
  refine Ao 4 3 Ip E ?_
  refine rg ?_;conv=>whnf
  exact Ac E (.cons .tmp .nil) E E
 have h3:0≤x.irb:=by have:=of_decide_eq_false h;omega
 refine rg ?_;conv=>whnf
 refine Ag hr F23 E E E E E ?_
 cases hb:Af n
 ·rw[if_neg (by simp[hb])]at hlk
  subst hlk
  (refine rg ?_;(conv=>whnf);refine aT ?_;refine rg ?_;conv=>whnf)
  refine Ao 4 3 Ip E ?_
  refine rg ?_;conv=>whnf
  exact Ac E (.cons .tmp .nil) E E
 rw[if_pos ⟨⟨by omega,h2⟩,h3,hb⟩]at hlk
 subst hlk
 (refine rg ?_;(conv=>whnf);refine aF ?_;refine rg ?_;conv=>whnf)
 refine Cf 5 1000 3 Ip E E ?_
 refine A3 n.irbs.length (fun j=>[(1,Aa d),(2,.ref 8 (Ap n) 0),(5,.osl 1000),(34,.sl 5 Cd n.irbs),(35,Aa n.irbs.length),(36,Aa j)]) (fun j=>[(1000,.row 3 Ip (Lx n x.irb j))]) []
  ⟨⟨rfl,rfl,rfl,rfl,rfl,rfl,rfl,rfl,rfl,rfl,rfl,rfl,trivial⟩,⟨.inl rfl,rfl,trivial⟩,rfl,rfl⟩ ?_
 intro j hj
 have hll:=Og n x.irb j
 refine rg ?_;conv=>whnf
 refine⟨fun h=>?_,fun h=>?_⟩
 ·have hlt:j<n.irbs.length:=by simpa using h
  have hj0:((j:Nat):Int).toNat<n.irbs.length:=by simpa using hlt
  have q:=Xc n hn hu x.irb j
  have hs:=Acm n x.irb j
  have hle:=leadF.eq_1 n x.irb j
  rw[Am hj0]at hle
  rw[hle]at hs
  obtain ⟨y,hy⟩:∃ y,n.irbs[((j:Nat):Int).toNat]'hj0=y:=⟨_,rfl⟩
  rw[hy]at hs
  generalize addrT n x.irb j=ad at *
  obtain ⟨a,ok⟩:=ad
  dsimp only at hs q
  refine rg ?_;conv=>whnf
  refine⟨E,by omega,hj0,?_⟩
  rw[hy]
  conv=>whnf
  refine⟨E,by omega,hk,?_⟩
  rw[hx]
  conv=>whnf
  refine Au q F150 E E E qq E ?_
  refine rd qq ?_;conv=>whnf
  refine⟨qq,?_⟩
  conv=>whnf
  refine⟨fun h=>?_,fun h=>?_⟩<;>(have h:ok=_:=h;subst h)
  ·refine rg ?_;conv=>whnf
   refine Ah (Al Γ.toTy 61 E E E E E (.row E) (.lit (e:=Ip) (l:=[⟨j,y.domain,a⟩]) E E) qy (by simp;omega) (by simp;omega)) E E ?_
   refine rg ?_;conv=>whnf
   refine⟨by unfold I64;omega,?_⟩
   conv=>whnf
   exact Av [(1000,61)] hlt ⟨⟨E,E,E,E,E,E,E,E,E,E,E,E,Y⟩,⟨.inl (congrArg (Ob.row 3 Ip) hs),E,Y⟩,E,E⟩
  ·refine rg ?_;conv=>whnf
   refine⟨by unfold I64;omega,?_⟩
   conv=>whnf
   exact Av [] hlt ⟨⟨E,E,E,E,E,E,E,E,E,E,E,E,Y⟩,⟨.inl (congrArg (Ob.row 3 Ip) (hs.trans (List.append_nil _))),E,Y⟩,E,E⟩
 ·have:j=n.irbs.length:=by have:=of_decide_eq_false h;omega
  subst this
  refine rg ?_;conv=>whnf
  refine At 1000 E ?_
  refine rg ?_;conv=>whnf
  exact Ac E (.cons .tmp .nil) E E
def I5 (n:Net) (i:Int):Bool:=decide (0≤i) && decide (i<n.ports.length) && decide ((nth n.ports i).link<0)
theorem Qf (n:Net) (i:Int):Sy.Spec Tryz.prog 22 [Ap n,Aa i] [] (Ad (I5 n i)) []:=Ab Γ hm 100 F22 Tryz.ntmps22 rfl fun F hF=>by
 conv=>whnf
 refine⟨fun h=>?_,fun h=>?_⟩
 ·have h1:0≤i:=of_decide_eq_true h
  refine Be 2 8 (Ap n) E E E ?_
  refine rg ?_;conv=>whnf
  refine⟨fun h=>?_,fun h=>?_⟩
  ·have h2:i<n.ports.length:=of_decide_eq_true h
   have hk:i.toNat<n.ports.length:=by omega
   rw[I5,Am hk,decide_eq_true h1,decide_eq_true h2,Bool.true_and,Bool.true_and]
   obtain ⟨p,hp⟩:∃ p,n.ports[i.toNat]'hk=p:=⟨_,rfl⟩
   rw[hp]
   refine rg ?_;conv=>whnf
   refine⟨E,h1,hk,?_⟩
   rw[hp]
   conv=>whnf
   exact Ac E (.cons .tmp .nil) E E
  ·have h2:¬ i<n.ports.length:=of_decide_eq_false h
   rw[I5,decide_eq_false h2,Bool.and_false,Bool.false_and]
   refine rg ?_;conv=>whnf
   exact Ac E (.cons .tmp .nil) E E
 ·have h1:¬ 0≤i:=of_decide_eq_false h
  rw[I5,decide_eq_false h1,Bool.false_and,Bool.false_and]
  (refine rg ?_;(conv=>whnf);refine aF ?_;refine rg ?_;conv=>whnf)
  exact Ac E (.cons .tmp .nil) E E
structure Fnd where
 (domain kind:Int) (hop:Hop) (ahead:Int)
abbrev Ol (f:Fnd):SV:=.agg [Aa f.domain,Aa f.kind,Aa f.hop.kind,Aa f.hop.port,Aa f.hop.domain,Bm f.hop.addr,Aa f.ahead]
instance:Inhabited Fnd:=⟨⟨0,0,default,0⟩⟩
structure Srch where
 (m0 m1:List Bool) (list:List Fnd)
abbrev stSV (d k:Int):SV:=.agg [Aa d,Aa k]
abbrev T5 (n:Net) (S:Srch):Obs:=[(0,.box [.sl 5 Bj n.devices,.sl 7 A6 n.ports,.sl 3 Ce n.links,.sl 6 Ar n.domains,.sl 4 Bh n.statics,.sl 4 Bv n.floods,.sl 5 Cq n.vrfs,.sl 5 Cd n.irbs,.osl 1,.osl 2,.osl 3]),
 (1,.row 1 Ad S.m0),(2,.row 1 Ad S.m1),(3,.row 7 Ol S.list)]
abbrev Qm (n:Net) (S:Srch):Obs:=[(0,.box [.sl 5 Bj n.devices,.sl 7 A6 n.ports,.sl 3 Ce n.links,.sl 6 Ar n.domains,.sl 4 Bh n.statics,.sl 4 Bv n.floods,.sl 5 Cq n.vrfs,.sl 5 Cd n.irbs,.osl 1,.osl 2,.osl 4]),
 (1,.row 1 Ad S.m0),(2,.row 1 Ad S.m1),(3,.non),(4,.row 7 Ol S.list)]
def M2 (S:Srch) (d k:Int):Bool:=if k=0 then nth S.m0 d else nth S.m1 d
def Im (S:Srch) (d k:Int) (h:Hop) (ahead:Int):Srch :=
 if k=0 then ⟨S.m0.set d.toNat true,S.m1,S.list++[⟨d,k,h,ahead⟩]⟩ else ⟨S.m0,S.m1.set d.toNat true,S.list++[⟨d,k,h,ahead⟩]⟩
def meetT (S:Srch) (d k:Int) (h:Hop) (ahead:Int):Srch:=if M2 S d k=true then S else Im S d k h ahead
theorem Alc (n:Net) (S:Srch) (d:Int) (h:Hop) (ahead:Int) (hd:0≤d∧d.toNat<S.m0.length) (hl:An S.list) :
  Sy.Spec Tryz.prog 90 [.ptr 0 0,stSV d 0,Bp h,Aa ahead] (T5 n S) (.tup []) (Qm n (meetT S d 0 h ahead)):=Ab Γ hm 100 F90 Tryz.ntmps90 rfl fun F hF=>by
 unfold An at hl
 have hlk:=meetT.eq_1 S d 0 h ahead
 rw[M2,if_pos rfl,Am hd.2,show Im S d 0 h ahead=⟨S.m0.set d.toNat true,S.m1,S.list++[⟨d,0,h,ahead⟩]⟩ from if_pos rfl]at hlk
 generalize meetT S d 0 h ahead=res at *
 conv=>whnf
 refine⟨by decide,by decide,?_⟩
 conv=>whnf
 refine⟨hd.1,hd.2,?_⟩
 conv=>whnf
 refine⟨E,hd.2,?_⟩
 conv=>whnf
 refine⟨qq,?_⟩
 conv=>whnf
 refine⟨fun h1=>?_,fun h1=>?_⟩
 rotate_left
 ·rw[if_pos (by simpa using h1)]at hlk
  subst hlk
  refine S7 3 1000 E E qx ?_
  refine rg ?_;conv=>whnf
  exact Ba E .nil [(4,1000)] (Qm n res) (fun _ h=>h) E E ⟨Y,⟨.inl E,E,.inl E,E,.inl E,E,.inl E,E,.inl E,E,Y⟩,E,E⟩
 rw[if_neg (by simpa using h1)]at hlk
 subst hlk
 refine rg ?_;conv=>whnf
 refine⟨by decide,by decide,?_⟩
 conv=>whnf
 refine⟨hd.1,hd.2,?_⟩
 conv=>whnf
 refine⟨E,hd.2,true,E,E,?_⟩
 conv=>whnf
 refine⟨qq,?_⟩
 conv=>whnf
 refine Bo (Al Γ.toTy 40 E E E E E (.row E) (.lit (e:=Ol) (l:=[⟨d,0,h,ahead⟩]) E E) qy (by simp;omega) (by simp;omega)) qq E ?_
 refine rd qq ?_;conv=>whnf
 refine⟨qq,?_⟩
 conv=>whnf
 exact Ba E .nil [(4,40)] (Qm n ⟨S.m0.set d.toNat true,S.m1,S.list++[⟨d,0,h,ahead⟩]⟩) (fun _ h=>h) E E ⟨Y,⟨.inl E,E,.inl E,E,.inl E,E,.inl E,E,.inl E,E,Y⟩,E,E⟩
theorem Alb (n:Net) (S:Srch) (d:Int) (h:Hop) (ahead:Int) (hd:0≤d∧d.toNat<S.m1.length) (hl:An S.list) :
  Sy.Spec Tryz.prog 90 [.ptr 0 0,stSV d 1,Bp h,Aa ahead] (T5 n S) (.tup []) (Qm n (meetT S d 1 h ahead)):=Ab Γ hm 100 F90 Tryz.ntmps90 rfl fun F hF=>by
 unfold An at hl
 have hlk:=meetT.eq_1 S d 1 h ahead
 rw[show M2 S d 1=nth S.m1 d from if_neg qx,Am hd.2,show Im S d 1 h ahead=⟨S.m0,S.m1.set d.toNat true,S.list++[⟨d,1,h,ahead⟩]⟩ from if_neg qx]at hlk
 generalize meetT S d 1 h ahead=res at *
 conv=>whnf
 refine⟨by decide,by decide,?_⟩
 conv=>whnf
 refine⟨hd.1,hd.2,?_⟩
 conv=>whnf
 refine⟨E,hd.2,?_⟩
 conv=>whnf
 refine⟨qq,?_⟩
 conv=>whnf
 refine⟨fun h1=>?_,fun h1=>?_⟩
 rotate_left
 ·rw[if_pos (by simpa using h1)]at hlk
  subst hlk
  refine S7 3 1000 E E qx ?_
  refine rg ?_;conv=>whnf
  exact Ba E .nil [(4,1000)] (Qm n res) (fun _ h=>h) E E ⟨Y,⟨.inl E,E,.inl E,E,.inl E,E,.inl E,E,.inl E,E,Y⟩,E,E⟩
 rw[if_neg (by simpa using h1)]at hlk
 subst hlk
 refine rg ?_;conv=>whnf
 refine⟨by decide,by decide,?_⟩
 conv=>whnf
 refine⟨hd.1,hd.2,?_⟩
 conv=>whnf
 refine⟨E,hd.2,true,E,E,?_⟩
 conv=>whnf
 refine⟨qq,?_⟩
 conv=>whnf
 refine Bo (Al Γ.toTy 40 E E E E E (.row E) (.lit (e:=Ol) (l:=[⟨d,1,h,ahead⟩]) E E) qy (by simp;omega) (by simp;omega)) qq E ?_
 refine rd qq ?_;conv=>whnf
 refine⟨qq,?_⟩
 conv=>whnf
 exact Ba E .nil [(4,40)] (Qm n ⟨S.m0,S.m1.set d.toNat true,S.list++[⟨d,1,h,ahead⟩]⟩) (fun _ h=>h) E E ⟨Y,⟨.inl E,E,.inl E,E,.inl E,E,.inl E,E,.inl E,E,Y⟩,E,E⟩
structure Srch.OK (n:Net) (S:Srch):Prop where
 l0:S.m0.length=n.domains.length
 l1:S.m1.length=n.domains.length
 at_:∀ f∈S.list,(0≤f.domain∧f.domain.toNat<n.domains.length)∧(f.kind=0∨f.kind=1)
 len:S.list.length≤S.m0.count true+S.m1.count true
theorem Srch.OK.le {n:Net} {S:Srch} (h:S.OK n):S.list.length≤2 * n.domains.length:=by
 have h1:S.m0.count true≤S.m0.length:=List.count_le_length
 have h2:S.m1.count true≤S.m1.length:=List.count_le_length
 have:=h.len
 rw[h.l0]at h1
 rw[h.l1]at h2
 omega
theorem count_set {l:List Bool} {i:Nat} (h:i<l.length) (hi:l[i]=false):(l.set i true).count true=l.count true+1:=by
 rw[List.count_set h,hi]
 simp
theorem Srch.OK.meet {n:Net} {S:Srch} (h:S.OK n) {d k:Int} (hd:0≤d∧d.toNat<n.domains.length) (hk:k=0∨k=1) (hp:Hop) (a:Int):(meetT S d k hp a).OK n:=by
 rw[meetT]
 split
 ·exact h
 rename_i hmt
 have h0:d.toNat<S.m0.length:=by rw[h.l0];exact hd.2
 have h1:d.toNat<S.m1.length:=by rw[h.l1];exact hd.2
 rcases hk with rfl | rfl
 ·rw[M2,if_pos rfl,Am h0]at hmt
  rw[Im,if_pos rfl]
  refine⟨by simp[h.l0],h.l1,fun f hf=>?_,?_⟩
  ·rcases List.mem_append.1 hf with hf | hf
   ·exact h.at_ f hf
   ·rw[List.mem_singleton]at hf
    subst hf
    exact⟨hd,.inl E⟩
  ·rw[count_set h0 (by simpa using hmt),List.length_append,List.length_singleton]
   have:=h.len
   show _≤_+S.m1.count true
   omega
 ·rw[M2,if_neg qx,Am h1]at hmt
  rw[Im,if_neg qx]
  refine⟨h.l0,by simp[h.l1],fun f hf=>?_,?_⟩
  ·rcases List.mem_append.1 hf with hf | hf
   ·exact h.at_ f hf
   ·rw[List.mem_singleton]at hf
    subst hf
    exact⟨hd,.inr E⟩
  ·rw[count_set h1 (by simpa using hmt),List.length_append,List.length_singleton]
   have:=h.len
   show _≤S.m0.count true+_
   omega
theorem Ada {n:Net} (h:Af n=true) {i:Nat} (hi:i<n.ports.length) {v:Int} (hv:Dm n.ports[i] v=true):0≤Tz n n.ports[i].dev v∧(Tz n n.ports[i].dev v).toNat<n.domains.length:=by
 have hp:=Al4 h hi
 simp only[Ef,Bool.and_eq_true,Bool.not_eq_true']at hp
 simp only[Dm,Bool.and_eq_true,bne_iff_ne,Bool.or_eq_true,beq_iff_eq]at hv
 have h0:0≤Tz n n.ports[i].dev v:=by
  rcases hv.2 with h1 | h1
  ·have h2:=hp.1.2
   have h3:=hp.1.1.1.1.1.1.1.2
   rw[h1]at hv ⊢
   have h4:decide (0<n.ports[i].native)=true:=by
    simp only[decide_eq_true_eq]at h3 ⊢
    omega
   rw[h4]at h2
   simpa [Bw] using h2
  ·have h2:=hp.1.1.2
   obtain ⟨x,hx,e⟩:=List.any_eq_true.1 h1
   obtain ⟨j,hj,rfl⟩:=List.mem_iff_getElem.1 hx
   have h3:=allB_iff.1 h2 j hj
   simp only[beq_iff_eq]at e
   rw[e]at h3
   simpa [Bw] using h3
 refine⟨h0,?_⟩
 have:=D6 (fun d:Domain=>d.dev == n.ports[i].dev && d.vlan == v) n.domains
 have e:Tz n n.ports[i].dev v=Cb (fun d:Domain=>d.dev == n.ports[i].dev && d.vlan == v) n.domains:=rfl
 omega
theorem Acj {n:Net} {i v:Int} (h:(linkDomT n i v).2=true):0≤(linkDomT n i v).1∧(linkDomT n i v).1.toNat<n.domains.length:=by
 unfold linkDomT at h ⊢
 split at h
 ·rename_i hc
  rw[if_pos hc]
  have hth:=Sw hc
  unfold crossT at hc hth ⊢
  split at hc
  ·rename_i h1
   rw[if_pos h1]at hth ⊢
   have hb:=(H6 h1.1).2.1
   have h2:=h1.2.2
   rw[Va]at h2 ⊢
   rw[Ck,if_pos hb]
   dsimp only at hth ⊢
   rw[Am hth.2]at h2 ⊢
   refine Ada hb hth.2 ?_
   simp only[Dm,Bool.and_eq_true,bne_iff_ne,Bool.or_eq_true,beq_iff_eq]
   refine⟨h2,?_⟩
   split
   ·exact .inl E
   ·rename_i h3
    rw[if_neg h3]at h2
    split
    ·rename_i h4
     exact .inr h4
    ·rename_i h4
     rw[if_neg h4]at h2
     exact absurd E h2
  ·cases hc
 ·cases h
theorem e_peer {n:Net} (h:Af n=true) {i:Nat} (hi:i<n.domains.length) {p:Int} (hp:p∈n.domains[i].peers):0≤p∧p.toNat<n.domains.length:=by
 simp only[Af,Bool.and_eq_true]at h
 have h1:=allB_iff.1 h.1.1.1.1.1.1.2 i hi
 obtain ⟨j,hj,rfl⟩:=List.mem_iff_getElem.1 hp
 have h2:=allB_iff.1 h1 j hj
 simp only[K8,Ak,Bool.and_eq_true,decide_eq_true_eq]at h2
 omega
theorem Sg {n:Net} {d:Int} {h:Hop} (hh:h∈Ho n d):0≤h.domain∧h.domain.toNat<n.domains.length:=by
 rw[Ho]at hh
 split at hh
 ·rename_i hd
  have hk:d.toNat<n.domains.length:=by have:=hd.1;omega
  rw[hopsL,Am hk]at hh
  rcases List.mem_append.1 hh with hh | hh
  ·obtain ⟨p,_,hp⟩:=List.mem_filterMap.1 hh
   rw[linkHop]at hp
   split at hp
   ·rename_i hl
    simp only[Option.some.injEq]at hp
    subst hp
    exact Acj hl
   ·cases hp
  ·obtain ⟨p,hp,rfl⟩:=List.mem_map.1 hh
   exact e_peer hd.2 hk hp
 ·cases hh
theorem O1 {n:Net} {d:Int} {q:Lead} (hq:q∈routesT n d):0≤q.domain∧q.domain.toNat<n.domains.length:=by
 rw[routesT]at hq
 split at hq
 ·rename_i hc
  obtain ⟨i,hi,hp⟩:=List.mem_filterMap.1 hq
  rw[leadF]at hp
  split at hp
  ·simp only[Option.some.injEq]at hp
   subst hp
   have hi':((i:Nat):Int).toNat<n.irbs.length:=by simpa using hi
   show 0≤(nth n.irbs i).domain∧_
   rw[Am hi']
   exact(C6 hc.2.2 hi').1
  ·cases hp
 ·cases hq
end Go.Sy.YteinjapglfkamaaGreat
namespace Go.Sy.YteinjapglfkamaaGreat
open Go.Proofs
attribute [local irreducible] Go.Sy.G Go.Sy.DR
set_option maxRecDepth 20000
set_option maxHeartbeats 8000000
def ext1 (S:Srch) (k i:Int) (l:List Hop):Srch:=l.foldl (fun S h=>meetT S h.domain k h i) S
def ext2 (S:Srch) (i:Int) (l:List Lead):Srch:=l.foldl (fun S q=>meetT S q.domain 1 ⟨3,0,q.domain,q.addr⟩ i) S
def extT (n:Net) (S:Srch) (i:Int):Srch :=
 if (nth S.list i).kind=0 then ext2 (ext1 S 0 i (Ho n (nth S.list i).domain)) i (routesT n (nth S.list i).domain) else ext1 S 1 i (Ho n (nth S.list i).domain)
theorem Ai4 (S:Srch) (k i:Int) {l:List Hop} {j:Nat} {h:Hop} (hj:j<l.length) (hh:l[j]=h):ext1 S k i (l.take (j+1))=meetT (ext1 S k i (l.take j)) h.domain k h i:=by
 subst hh
 rw[ext1,List.take_add_one,List.getElem?_eq_getElem hj,List.foldl_append]
 rfl
theorem Ai3 (S:Srch) (i:Int) {l:List Lead} {j:Nat} {q:Lead} (hj:j<l.length) (hh:l[j]=q):ext2 S i (l.take (j+1))=meetT (ext2 S i (l.take j)) q.domain 1 ⟨3,0,q.domain,q.addr⟩ i:=by
 subst hh
 rw[ext2,List.take_add_one,List.getElem?_eq_getElem hj,List.foldl_append]
 rfl
theorem Srch.OK.ext1 {n:Net} {k i:Int} (hk:k=0∨k=1):∀ {l:List Hop} {S:Srch},S.OK n→(∀ h∈l,0≤h.domain∧h.domain.toNat<n.domains.length)→(ext1 S k i l).OK n
 | [],S,h,_=>h
 | x::l,S,h,hl=>Srch.OK.ext1 hk (l:=l) (h.meet (hl x qy) hk x i) (fun y hy=>hl y (by simp[hy]))
theorem Srch.OK.ext2 {n:Net} {i:Int}:∀ {l:List Lead} {S:Srch},S.OK n→(∀ h∈l,0≤h.domain∧h.domain.toNat<n.domains.length)→(ext2 S i l).OK n
 | [],S,h,_=>h
 | x::l,S,h,hl=>Srch.OK.ext2 (l:=l) (h.meet (hl x qy) (.inr rfl) _ i) (fun y hy=>hl y (by simp[hy]))
theorem Srch.OK.ext {n:Net} {S:Srch} (h:S.OK n) (i:Int):(extT n S i).OK n:=by
 rw[extT]
 split
 ·exact(h.ext1 (.inl E) (fun x hx=>Sg hx)).ext2 (fun x hx=>O1 hx)
 ·exact h.ext1 (.inr E) (fun x hx=>Sg hx)
theorem Acv {n:Net} (hn:n.Fin) (d:Int):(Ho n d).length<4294967296:=by
 have h1:=E3 n hn d
 unfold An at h1
 rw[Ho]
 split
 ·rename_i hd
  have hk:d.toNat<n.domains.length:=by have:=hd.1;omega
  have h2:=hn.peers _ (List.getElem_mem hk)
  unfold An at h2
  have h3:=List.length_filterMap_le (linkHop n d) (B7 n d)
  rw[hopsL,Am hk,List.length_append,List.length_map]
  omega
 ·decide
theorem Xp {n:Net} (hn:n.Fin) (d:Int):(routesT n d).length<4294967296:=by
 have h1:=hn.irbs
 unfold An at h1
 rw[routesT]
 split
 ·have:=Og n (nth n.domains d).irb n.irbs.length
  omega
 ·decide
abbrev Akb (n:Net) (S:Srch) (d k:Int):Obs:=[(0,.box [.sl 5 Bj n.devices,.sl 7 A6 n.ports,.sl 3 Ce n.links,.sl 6 Ar n.domains,.sl 4 Bh n.statics,.sl 4 Bv n.floods,.sl 5 Cq n.vrfs,.sl 5 Cd n.irbs,.osl 1,.osl 2,.osl 1000]),
 (1,.row 1 Ad S.m0),(2,.row 1 Ad S.m1),(3,.non),(1000,.row 7 Ol S.list),(4,.box [Aa d,Aa k])]
theorem Anw (n:Net) (hn:n.Fin) (hu:Ei n) (hD:n.domains.length<1000000) (S:Srch) (hS:S.OK n) (i:Int) (hi:0≤i∧i.toNat<S.list.length) :
  Sy.Spec Tryz.prog 28 [.ptr 0 0,Aa i] (T5 n S) (.tup []) (Qm n (extT n S i)):=Ab Γ hm 100 F28 Tryz.ntmps28 rfl fun F hF=>by
 have hlk:=extT.eq_1 n S i
 rw[Am hi.2]at hlk
 generalize extT n S i=res at *
 have hfk:=(hS.at_ _ (List.getElem_mem hi.2)).2
 obtain ⟨f,hf⟩:∃ f,S.list[i.toNat]'hi.2=f:=⟨_,rfl⟩
 rw[hf]at hlk hfk
 obtain ⟨d,k,hp,ah⟩:=f
 dsimp only at hlk hfk
 have q1:=Aem n hn d
 have q2:=X9 n hn hu d
 have hin1:=fun h=>Sg (n:=n) (d:=d) (h:=h)
 have hin2:=fun h=>O1 (n:=n) (d:=d) (q:=h)
 have hs1:=Acv hn d
 have hs2:=Xp hn d
 generalize Ho n d=hops at *
 generalize routesT n d=leads at *
 have ok1:∀ k,k=0∨k=1→∀ j,(ext1 S k i (hops.take j)).OK n:=fun k hk j=>hS.ext1 hk (fun x hx=>hin1 x (List.mem_of_mem_take hx))
 have ok2:∀ j,(ext2 (ext1 S 0 i hops) i (leads.take j)).OK n:=fun j=>Srch.OK.ext2 (hS.ext1 (.inl rfl) (fun x hx=>hin1 x hx)) (fun x hx=>hin2 x (List.mem_of_mem_take hx))
 have hsucc:=fun k j h hj hh=>Ai4 S k i (l:=hops) (j:=j) (h:=h) hj hh
 have hsucc2:=fun j h hj hh=>Ai3 (ext1 S 0 i hops) i (l:=leads) (j:=j) (q:=h) hj hh
 conv=>whnf
 refine⟨hi.1,hi.2,?_⟩
 conv=>whnf
 refine⟨by intro e;rw[e]at hi;simp at hi,?_⟩
 conv=>whnf
 refine⟨E,hi.2,?_⟩
 rw[hf]
 conv=>whnf
 rcases hfk with rfl | rfl
 ·rw[if_pos rfl]at hlk
  have ok1:=ok1 0 qx
  have hsucc:=hsucc 0
  refine rd qq ?_;conv=>whnf
  refine Au q1 F95 E E E qq E ?_
  refine rd qq ?_;conv=>whnf
  refine⟨qq,?_⟩
  conv=>whnf
  refine S7 3 1000 E E qx ?_
  refine A3 hops.length (fun j=>[(0,.ptr 0 0),(1,Aa i),(4,.ptr 4 0),(23,.sl 4 Bp hops),(24,Aa hops.length),(25,Aa j)]) (fun j=>Akb n (ext1 S 0 i (hops.take j)) d 0) []
   ⟨⟨rfl,rfl,rfl,rfl,rfl,rfl,rfl,rfl,rfl,rfl,rfl,rfl,trivial⟩,⟨.inl rfl,rfl,.inl rfl,rfl,.inl rfl,rfl,.inl rfl,rfl,.inl rfl,rfl,.inl rfl,rfl,trivial⟩,rfl,rfl⟩ ?_
  intro j hj
  have okj:=ok1 j
  have lej:=okj.le
  have l0:=okj.l0
  have scj:=hsucc j
  generalize hSj:ext1 S 0 i (hops.take j)=Sj at *
  refine rg ?_;conv=>whnf
  refine⟨fun h=>?_,fun h=>?_⟩
  ·have hlt:j<hops.length:=by simpa using h
   have hj0:((j:Nat):Int).toNat<hops.length:=by simpa using hlt
   obtain ⟨hp,hhp⟩:∃ hp,hops[((j:Nat):Int).toNat]'hj0=hp:=⟨_,rfl⟩
   have hdi:=hin1 hp (by rw[← hhp];exact List.getElem_mem _)
   have sc:=scj hp hlt hhp
   have q3:=Alc n Sj hp.domain hp i (by rw[l0];exact hdi) (by unfold An;omega)
   rw[← sc]at q3
   refine rg ?_;conv=>whnf
   refine⟨E,by omega,hj0,?_⟩
   rw[hhp]
   conv=>whnf
   refine Ah (Aj [(0,0),(1,1),(2,2),(3,1000),(4,1001)] E F90 q3 E ⟨E,E,E,E,Y⟩ E ⟨.inl E,.inl E,.inl E,.inl E,.inr E,Y⟩) E E ?_
   refine rg ?_;conv=>whnf
   refine⟨by unfold I64;omega,?_⟩
   conv=>whnf
   exact Av [(1000,1001)] hlt ⟨⟨E,E,E,E,E,E,E,E,E,E,E,E,Y⟩,⟨.inl E,E,.inl E,E,.inl E,E,.inl E,E,.inl E,E,.inl E,E,Y⟩,E,E⟩
  ·have:j=hops.length:=by have:=of_decide_eq_false h;omega
   subst this
   rw[List.take_length]at hSj
   simp only[hSj]at hlk ok2 hsucc2
   (refine rg ?_;(conv=>whnf);refine aT ?_;refine rg ?_;conv=>whnf)
   refine Au q2 F96 E E E qq E ?_
   refine rd qq ?_;conv=>whnf
   refine⟨qq,?_⟩
   conv=>whnf
   refine A3 leads.length (fun j=>[(0,.ptr 0 0),(1,Aa i),(4,.ptr 4 0),(48,.sl 3 Ip leads),(49,Aa leads.length),(50,Aa j)]) (fun j=>Akb n (ext2 Sj i (leads.take j)) d 0) []
    ⟨⟨rfl,rfl,rfl,rfl,rfl,rfl,rfl,rfl,rfl,rfl,rfl,rfl,trivial⟩,⟨.inl rfl,rfl,.inl rfl,rfl,.inl rfl,rfl,.inl rfl,rfl,.inl rfl,rfl,.inl rfl,rfl,trivial⟩,rfl,rfl⟩ ?_
   intro j hj
   have okj:=ok2 j
   have lej:=okj.le
   have l0:=okj.l1
   have scj:=hsucc2 j
   generalize hSk:ext2 Sj i (leads.take j)=Sk at *
   refine rg ?_;conv=>whnf
   refine⟨fun h=>?_,fun h=>?_⟩
   ·have hlt:j<leads.length:=by simpa using h
    have hj0:((j:Nat):Int).toNat<leads.length:=by simpa using hlt
    obtain ⟨hp,hhp⟩:∃ hp,leads[((j:Nat):Int).toNat]'hj0=hp:=⟨_,rfl⟩
    have hdi:=hin2 hp (by rw[← hhp];exact List.getElem_mem _)
    have sc:=scj hp hlt hhp
    have q3:=Alb n Sk hp.domain ⟨3,0,hp.domain,hp.addr⟩ i (by rw[l0];exact hdi) (by unfold An;omega)
    rw[← sc]at q3
    refine rg ?_;conv=>whnf
    refine⟨E,by omega,hj0,?_⟩
    rw[hhp]
    conv=>whnf
    refine Ah (Aj [(0,0),(1,1),(2,2),(3,1000),(4,1001)] E F90 q3 E ⟨E,E,E,E,Y⟩ E ⟨.inl E,.inl E,.inl E,.inl E,.inr E,Y⟩) E E ?_
    refine rg ?_;conv=>whnf
    refine⟨by unfold I64;omega,?_⟩
    conv=>whnf
    exact Av [(1000,1001)] hlt ⟨⟨E,E,E,E,E,E,E,E,E,E,E,E,Y⟩,⟨.inl E,E,.inl E,E,.inl E,E,.inl E,E,.inl E,E,.inl E,E,Y⟩,E,E⟩
   ·have:j=leads.length:=by have:=of_decide_eq_false h;omega
    subst this
    rw[List.take_length]at hSk
    rw[hSk]at hlk
    subst hlk
    refine rg ?_;conv=>whnf
    exact Ba E .nil [(4,1000)] (Qm n _) (fun _ h=>h) E E ⟨Y,⟨.inl E,E,.inl E,E,.inl E,E,.inl E,E,.inl E,E,Y⟩,E,E⟩
 ·rw[if_neg qx]at hlk
  clear ok2 hsucc2 q2 hs2 hin2
  have ok1:=ok1 1 qx
  have hsucc:=hsucc 1
  refine rd qq ?_;conv=>whnf
  refine Au q1 F95 E E E qq E ?_
  refine rd qq ?_;conv=>whnf
  refine⟨qq,?_⟩
  conv=>whnf
  refine S7 3 1000 E E qx ?_
  refine A3 hops.length (fun j=>[(0,.ptr 0 0),(1,Aa i),(4,.ptr 4 0),(23,.sl 4 Bp hops),(24,Aa hops.length),(25,Aa j)]) (fun j=>Akb n (ext1 S 1 i (hops.take j)) d 1) []
   ⟨⟨rfl,rfl,rfl,rfl,rfl,rfl,rfl,rfl,rfl,rfl,rfl,rfl,trivial⟩,⟨.inl rfl,rfl,.inl rfl,rfl,.inl rfl,rfl,.inl rfl,rfl,.inl rfl,rfl,.inl rfl,rfl,trivial⟩,rfl,rfl⟩ ?_
  intro j hj
  have okj:=ok1 j
  have lej:=okj.le
  have l0:=okj.l1
  have scj:=hsucc j
  generalize hSj:ext1 S 1 i (hops.take j)=Sj at *
  refine rg ?_;conv=>whnf
  refine⟨fun h=>?_,fun h=>?_⟩
  ·have hlt:j<hops.length:=by simpa using h
   have hj0:((j:Nat):Int).toNat<hops.length:=by simpa using hlt
   obtain ⟨hp,hhp⟩:∃ hp,hops[((j:Nat):Int).toNat]'hj0=hp:=⟨_,rfl⟩
   have hdi:=hin1 hp (by rw[← hhp];exact List.getElem_mem _)
   have sc:=scj hp hlt hhp
   have q3:=Alb n Sj hp.domain hp i (by rw[l0];exact hdi) (by unfold An;omega)
   rw[← sc]at q3
   refine rg ?_;conv=>whnf
   refine⟨E,by omega,hj0,?_⟩
   rw[hhp]
   conv=>whnf
   refine Ah (Aj [(0,0),(1,1),(2,2),(3,1000),(4,1001)] E F90 q3 E ⟨E,E,E,E,Y⟩ E ⟨.inl E,.inl E,.inl E,.inl E,.inr E,Y⟩) E E ?_
   refine rg ?_;conv=>whnf
   refine⟨by unfold I64;omega,?_⟩
   conv=>whnf
   exact Av [(1000,1001)] hlt ⟨⟨E,E,E,E,E,E,E,E,E,E,E,E,Y⟩,⟨.inl E,E,.inl E,E,.inl E,E,.inl E,E,.inl E,E,.inl E,E,Y⟩,E,E⟩
  ·have:j=hops.length:=by have:=of_decide_eq_false h;omega
   subst this
   rw[List.take_length]at hSj
   rw[hSj]at hlk
   subst hlk
   (refine rg ?_;(conv=>whnf);refine aF ?_;refine rg ?_;conv=>whnf)
   exact Ba E .nil [(4,1000)] (Qm n _) (fun _ h=>h) E E ⟨Y,⟨.inl E,E,.inl E,E,.inl E,E,.inl E,E,.inl E,E,Y⟩,E,E⟩
def Iv (n:Net) (dev:Int) (S:Srch) (v:Int):Srch:=if v=0 then S else meetT S (Ck n dev v) 0 ⟨0,0,Ck n dev v,0⟩ (-1)
def Qn (n:Net):Srch:=⟨List.replicate n.domains.length false,List.replicate n.domains.length false,[]⟩
def Iu (n:Net) (dev:Int) (l:List Int):Srch:=l.foldl (Iv n dev) (Qn n)
def beginT (n:Net) (port:Int):Srch:=Iu n (nth n.ports port).dev ((nth n.ports port).native::(nth n.ports port).tagged)
theorem Adp (n:Net) (dev:Int) {l:List Int} {j:Nat} {v:Int} (hj:j<l.length) (hh:l[j]=v):Iu n dev (l.take (j+1))=Iv n dev (Iu n dev (l.take j)) v:=by
 subst hh
 rw[Iu,List.take_add_one,List.getElem?_eq_getElem hj,List.foldl_append]
 rfl
theorem Akc (n:Net):(Qn n).OK n:=⟨by simp[Qn],by simp[Qn],fun f hf=>by simp[Qn]at hf,by simp[Qn]⟩
theorem Mw {n:Net} {dev:Int} {l:List Int} (h:∀ v∈l,v≠0→0≤Ck n dev v∧(Ck n dev v).toNat<n.domains.length):(Iu n dev l).OK n:=by
 suffices hs:∀ (l:List Int) (S:Srch),S.OK n→(∀ v∈l,v≠0→0≤Ck n dev v∧(Ck n dev v).toNat<n.domains.length)→(l.foldl (Iv n dev) S).OK n from hs l _ (Akc n) h
 intro l
 induction l with
 | nil=>exact fun S h _=>h
 | cons x l ih =>
  intro S hS hl
  refine ih _ ?_ (fun v hv=>hl v (by simp[hv]))
  rw[Iv]
  split
  ·exact hS
  ·rename_i hx
   exact hS.meet (hl x qy hx) (.inl E) _ _
theorem Hq {n:Net} (hb:Af n=true) {i:Nat} (hi:i<n.ports.length) {v:Int} (hv:v∈n.ports[i].native::n.ports[i].tagged) (h0:v≠0) :
  0≤Ck n n.ports[i].dev v∧(Ck n n.ports[i].dev v).toNat<n.domains.length:=by
 rw[Ck,if_pos hb]
 refine Ada hb hi ?_
 simp only[Dm,Bool.and_eq_true,bne_iff_ne,Bool.or_eq_true,beq_iff_eq]
 refine⟨h0,?_⟩
 rcases List.mem_cons.1 hv with h | h
 ·exact .inl h
 ·exact .inr (List.any_eq_true.2 ⟨v,h,by simp⟩)
abbrev Vq (n:Net) (a b c:SV):Ob:=.box [.sl 5 Bj n.devices,.sl 7 A6 n.ports,.sl 3 Ce n.links,.sl 6 Ar n.domains,.sl 4 Bh n.statics,.sl 4 Bv n.floods,.sl 5 Cq n.vrfs,.sl 5 Cd n.irbs,a,b,c]
abbrev Q3:SV:=.val (.slice none 0 0)
def madeO (n:Net):Nat→Obs
 | 0=>[(0,Vq n Q3 Q3 Q3)]
 | 1=>[(0,Vq n (.osl 1001) Q3 Q3),(1001,.row 1 Ad (List.replicate n.domains.length false))]
 | _=>[(0,Vq n (.osl 1001) (.osl 1002) Q3),(1001,.row 1 Ad (List.replicate n.domains.length false)),(1002,.row 1 Ad (List.replicate n.domains.length false))]
abbrev srchB (n:Net) (S:Srch) (vs:List Int):Obs:=[(0,Vq n (.osl 1001) (.osl 1002) (.osl 1003)),(1001,.row 1 Ad S.m0),(1002,.row 1 Ad S.m1),(1003,.row 7 Ol S.list),(38,.row 1 Aa vs)]
theorem beginS (n:Net) (hn:n.Fin) (hb:Af n=true) (hD:n.domains.length<1000000) (port:Int) (hp:0≤port∧port.toNat<n.ports.length) :
  Sy.Spec Tryz.prog 24 [.ptr 0 0,Aa port] [(0,Vq n Q3 Q3 Q3)] (.tup []) (T5 n (beginT n port)):=Ab Γ hm 100 F24 Tryz.ntmps24 rfl fun F hF=>by
 have hlk:=beginT.eq_1 n port
 rw[Am hp.2]at hlk
 generalize beginT n port=res at *
 have hin:=fun v hv h0=>Hq hb hp.2 (v:=v) hv h0
 have hts:=hn.tagged _ (List.getElem_mem hp.2)
 unfold An at hts
 obtain ⟨p,hpp⟩:∃ p,n.ports[port.toNat]'hp.2=p:=⟨_,rfl⟩
 rw[hpp]at hlk hin hts
 have hok:∀ j,(Iu n p.dev ((p.native::p.tagged).take j)).OK n:=fun j=>Mw fun v hv h0=>hin v (List.mem_of_mem_take hv) h0
 have hsc:=fun j v hj hh=>Adp n p.dev (l:=p.native::p.tagged) (j:=j) (v:=v) hj hh
 have hd:=fun v=>H7 n hn p.dev v
 conv=>whnf
 refine⟨E,hp.1,hp.2,?_⟩
 rw[hpp]
 conv=>whnf
 refine Be 4 7 (A6 p) E E E ?_
 refine A2 2 (fun _=>True) (fun j=>[(0,.ptr 0 0),(4,.ref 7 (A6 p) 0),(17,Aa j)]) (fun j=>madeO n j) [] Y ⟨⟨E,E,E,E,E,E,Y⟩,⟨.inl E,E,Y⟩,E,E⟩ ?_
 intro j hj _
 refine rg ?_;conv=>whnf
 refine⟨fun h=>?_,fun h=>?_⟩
 ·have hlt:j<2:=by have:=of_decide_eq_true h;omega
  have hj01:j=0∨j=1:=by omega
  rcases hj01 with rfl | rfl
  ·refine rg ?_;conv=>whnf
   refine Bo (Bl Γ.toTy (d:=28) (n:=n.domains.length) Ad false E E E E E E E E qn qn E E E) qq E ?_
   refine rd qq ?_;conv=>whnf
   refine⟨by decide,by decide,?_⟩
   conv=>whnf
   refine⟨qq,?_⟩
   conv=>whnf
   refine⟨by unfold I64;decide,?_⟩
   conv=>whnf
   exact A0 [(1001,28)] Y qx Y ⟨⟨E,E,E,E,E,E,Y⟩,⟨.inl E,E,.inl E,E,Y⟩,E,E⟩
  ·refine rg ?_;conv=>whnf
   refine Bo (Bl Γ.toTy (d:=28) (n:=n.domains.length) Ad false E E E E E E E E qn qn E E E) qq E ?_
   refine rd qq ?_;conv=>whnf
   refine⟨by decide,by decide,?_⟩
   conv=>whnf
   refine⟨qq,?_⟩
   conv=>whnf
   refine⟨by unfold I64;decide,?_⟩
   conv=>whnf
   exact A0 [(1002,28)] Y qx Y ⟨⟨E,E,E,E,E,E,Y⟩,⟨.inl E,E,.inl E,E,.inl E,E,Y⟩,E,E⟩
 ·have:j=2:=by have:=of_decide_eq_false h;omega
  subst this
  refine rg ?_;conv=>whnf
  refine Ah (Al Γ.toTy 38 E E E E E (.lit (e:=Aa) (l:=[p.native]) E E) .sl qx (by simp;omega) (by simp;omega)) E E ?_
  refine Ad1 0 10 1003 7 Ol E E E E ?_
  refine rg ?_;conv=>whnf
  generalize hvs:p.native::p.tagged=vs at *
  have hvl:vs.length=p.tagged.length+1:=by rw[← hvs];rfl
  refine A3 vs.length (fun j=>[(0,.ptr 0 0),(4,.ref 7 (A6 p) 0),(38,.osl 38),(39,Aa vs.length),(40,Aa j)]) (fun j=>srchB n (Iu n p.dev (vs.take j)) vs) []
   ⟨⟨rfl,rfl,rfl,rfl,rfl,rfl,congrArg Aa (by rw[hvl];rfl),rfl,rfl,rfl,trivial⟩,⟨.inl rfl,rfl,.inl rfl,rfl,.inl rfl,rfl,.inl rfl,rfl,.inl (congrArg (Ob.row 1 Aa) hvs.symm),rfl,trivial⟩,rfl,rfl⟩ ?_
  intro j hj
  have okj:=hok j
  have lej:=okj.le
  have l0:=okj.l0
  have scj:=hsc j
  generalize hSj:Iu n p.dev (vs.take j)=Sj at *
  refine rg ?_;conv=>whnf
  refine⟨fun h=>?_,fun h=>?_⟩
  ·have hlt:j<vs.length:=by simpa using h
   have hj0:((j:Nat):Int).toNat<vs.length:=by simpa using hlt
   obtain ⟨v,hv⟩:∃ v,vs[((j:Nat):Int).toNat]'hj0=v:=⟨_,rfl⟩
   have hmem:v∈vs:=by rw[← hv];exact List.getElem_mem _
   have sc:=scj v hlt hv
   rw[Iv]at sc
   have hdv:=hd v
   have hiv:=hin v hmem
   generalize Ck n p.dev v=dm at *
   refine rg ?_;conv=>whnf
   refine⟨by omega,hj0,?_⟩
   conv=>whnf
   refine⟨E,hj0,?_⟩
   rw[hv]
   conv=>whnf
   refine⟨fun h=>?_,fun h=>?_⟩
   ·have h0:v≠0:=by simpa using h
    rw[if_neg h0]at sc
    have q3:=Alc n Sj dm ⟨0,0,dm,0⟩ (-1) (by rw[l0];exact hiv h0) (by unfold An;omega)
    rw[← sc]at q3
    refine rg ?_;conv=>whnf
    refine Au hdv F89 E E E qq E ?_
    refine rd qq ?_;conv=>whnf
    refine⟨qq,?_⟩
    conv=>whnf
    refine Ah (Aj [(0,0),(1,1001),(2,1002),(3,1003),(4,1004)] E F90 q3 E ⟨E,E,E,E,Y⟩ E ⟨.inl E,.inl E,.inl E,.inl E,.inr E,Y⟩) E E ?_
    refine rg ?_;conv=>whnf
    refine⟨by unfold I64;omega,?_⟩
    conv=>whnf
    exact Av [(1003,1004)] hlt ⟨⟨E,E,E,E,E,E,E,E,E,E,Y⟩,⟨.inl E,E,.inl E,E,.inl E,E,.inl E,E,.inl E,E,Y⟩,E,E⟩
   ·have h0:v=0:=by simpa using h
    rw[if_pos h0]at sc
    refine rg ?_;conv=>whnf
    refine⟨by unfold I64;omega,?_⟩
    conv=>whnf
    exact Av [] hlt ⟨⟨E,E,E,E,E,E,E,E,E,E,Y⟩,⟨.inl E,E,.inl (congrArg (fun S=>Ob.row 1 Ad (Srch.m0 S)) sc),E,.inl (congrArg (fun S=>Ob.row 1 Ad (Srch.m1 S)) sc),E,.inl (congrArg (fun S=>Ob.row 7 Ol (Srch.list S)) sc),E,.inl E,E,Y⟩,E,E⟩
  ·have:j=vs.length:=by have:=of_decide_eq_false h;omega
   subst this
   rw[List.take_length]at hSj
   rw[hSj]at hlk
   subst hlk
   refine rg ?_;conv=>whnf
   exact Ba E .nil [(1,1001),(2,1002),(3,1003)] (T5 n _) (fun _ h=>h) E E ⟨Y,⟨.inl E,E,.inl E,E,.inl E,E,.inl E,E,Y⟩,E,E⟩
theorem Abn (D:List Hop) (hl:D.length<4294967296):Sy.Spec Tryz.prog 94 [.osl 0] [(0,.row 4 Bp D)] (.tup []) [(0,.row 4 Bp D.reverse)]:=Ab Γ hm 100 F94 Tryz.ntmps94 rfl fun F hF=>by
 conv=>whnf
 refine⟨by unfold I64;omega,?_⟩
 conv=>whnf
 refine A3 (D.length / 2) (fun j=>[(0,.osl 0),(2,Aa j),(3,Aa ((D.length:Int)-1-j))]) (fun j=>[(0,.row 4 Bp (Qr D j))]) []
  ⟨⟨rfl,rfl,rfl,rfl,congrArg (fun z=>SV.val (.int .i64 z)) qn,rfl,trivial⟩,⟨.inl (congrArg (Ob.row 4 Bp) (Ahx D)),rfl,trivial⟩,rfl,rfl⟩ ?_
 intro i hi
 have hul:=C4 D i
 refine rg ?_;conv=>whnf
 refine⟨fun h2=>?_,fun h2=>?_⟩
 ·have hlt:2 * i+1<D.length:=by have:=of_decide_eq_true h2;omega
  obtain ⟨u,hu⟩:∃ u,Qr D i=u:=⟨_,rfl⟩
  obtain ⟨k,hk⟩:∃ k,D.length-1-i=k:=⟨_,rfl⟩
  have hk2:(D.length:Int)-1-i=(k:Nat):=by omega
  rw[hu]at hul
  have hs:=Ahz hu hlt hk qn qn
  rw[hu,hk2]
  refine rg ?_;conv=>whnf
  refine⟨by omega,by omega,?_⟩
  conv=>whnf
  refine⟨E,by omega,?_⟩
  conv=>whnf
  refine⟨by omega,by omega,?_⟩
  conv=>whnf
  refine⟨E,by omega,?_⟩
  conv=>whnf
  refine⟨by omega,by omega,?_⟩
  conv=>whnf
  refine⟨E,by omega,u[k],E,E,?_⟩
  conv=>whnf
  refine⟨by omega,by simp;omega,?_⟩
  conv=>whnf
  refine⟨E,by simp;omega,u[i],E,E,?_⟩
  conv=>whnf
  refine⟨qq,?_⟩
  conv=>whnf
  refine⟨by unfold I64;omega,?_⟩
  conv=>whnf
  refine⟨by unfold I64;omega,?_⟩
  conv=>whnf
  refine Av [] qn ⟨⟨E,E,E,E,congrArg (fun z=>SV.val (.int .i64 z)) qn,E,Y⟩,⟨.inl (congrArg (Ob.row 4 Bp) hs.symm),E,Y⟩,E,E⟩
 ·have h3:D.length≤2 * i+1:=by have:=of_decide_eq_false h2;omega
  rw[Akm D i h3]
  refine rg ?_;conv=>whnf
  exact Ba E .nil [] [(0,.row 4 Bp D.reverse)] (fun _ h=>h) E E ⟨Y,⟨.inl E,E,Y⟩,E,E⟩
def Mc (l:List Fnd) (i:Int):List Hop :=
 if h:0≤i∧(nth l i).ahead<i then (nth l i).hop::Mc l (nth l i).ahead else []
 termination_by (i+1).toNat
 decreasing_by omega
def backT (l:List Fnd) (i:Int):List Hop:=(Mc l i).reverse
def Backs (l:List Fnd):Prop:=∀ i (h:i<l.length),-1≤l[i].ahead∧l[i].ahead<i
theorem Backs.snoc {l:List Fnd} (h:Backs l) {f:Fnd} (hf:-1≤f.ahead∧f.ahead<l.length):Backs (l++[f]):=fun i hi=>by
 by_cases hl:i<l.length
 ·rw[List.getElem_append_left hl]
  exact h i hl
 ·have:i=l.length:=by simp at hi;omega
  subst this
  simpa using hf
theorem Backs.meet {S:Srch} (h:Backs S.list) (d k:Int) (hp:Hop) {a:Int} (ha:-1≤a∧a<S.list.length):Backs (meetT S d k hp a).list∧S.list.length≤(meetT S d k hp a).list.length:=by
 rw[meetT]
 split
 ·exact⟨h,Nat.le_refl _⟩
 ·rw[Im]
  split
  ·exact⟨h.snoc ha,by simp⟩
  ·exact⟨h.snoc ha,by simp⟩
theorem Backs.ext1 {k i:Int}:∀ {l:List Hop} {S:Srch},Backs S.list→(-1≤i∧i<S.list.length)→Backs (ext1 S k i l).list∧S.list.length≤(ext1 S k i l).list.length
 | [],S,h,_=>⟨h,Nat.le_refl _⟩
 | x::l,S,h,hi=>by
  obtain ⟨h1,h2⟩:=h.meet x.domain k x hi
  obtain ⟨h3,h4⟩:=Backs.ext1 (k:=k) (i:=i) (l:=l) h1 ⟨hi.1,by omega⟩
  exact⟨h3,Nat.le_trans h2 h4⟩
theorem Backs.ext2 {i:Int}:∀ {l:List Lead} {S:Srch},Backs S.list→(-1≤i∧i<S.list.length)→Backs (ext2 S i l).list∧S.list.length≤(ext2 S i l).list.length
 | [],S,h,_=>⟨h,Nat.le_refl _⟩
 | x::l,S,h,hi=>by
  obtain ⟨h1,h2⟩:=h.meet x.domain 1 ⟨3,0,x.domain,x.addr⟩ hi
  obtain ⟨h3,h4⟩:=Backs.ext2 (i:=i) (l:=l) h1 ⟨hi.1,by omega⟩
  exact⟨h3,Nat.le_trans h2 h4⟩
theorem Backs.ext {n:Net} {S:Srch} (h:Backs S.list) {i:Int} (hi:0≤i∧i<S.list.length):Backs (extT n S i).list∧S.list.length≤(extT n S i).list.length:=by
 rw[extT]
 split
 ·obtain ⟨h1,h2⟩:=h.ext1 (k:=0) (i:=i) (l:=Ho n (nth S.list i).domain) ⟨by omega,hi.2⟩
  obtain ⟨h3,h4⟩:=h1.ext2 (i:=i) (l:=routesT n (nth S.list i).domain) ⟨by omega,by omega⟩
  exact⟨h3,Nat.le_trans h2 h4⟩
 ·exact h.ext1 ⟨by omega,hi.2⟩
theorem K2 (n:Net) (dev:Int) (l:List Int):Backs (Iu n dev l).list:=by
 suffices hs:∀ (l:List Int) (S:Srch),Backs S.list→Backs (l.foldl (Iv n dev) S).list from hs l _ (fun i h=>by simp[Qn]at h)
 intro l
 induction l with
 | nil=>exact fun S h=>h
 | cons x l ih =>
  intro S hS
  refine ih _ ?_
  rw[Iv]
  split
  ·exact hS
  ·exact(hS.meet _ _ _ ⟨by omega,by omega⟩).1
abbrev srchA (n:Net) (S:Srch) (l:List Hop):Obs:=[(0,Vq n (.osl 1) (.osl 2) (.osl 3)),(1,.row 1 Ad S.m0),(2,.row 1 Ad S.m1),(3,.row 7 Ol S.list),(1000,.row 4 Bp l)]
theorem backS (n:Net) (S:Srch) (hB:Backs S.list) (hl:S.list.length<4000000) (i:Int) (hi:-1≤i∧i<S.list.length) :
  Sy.Spec Tryz.prog 27 [.ptr 0 0,Aa i] (T5 n S) (.sl 4 Bp (backT S.list i)) (T5 n S):=Ab Γ hm 100 F27 Tryz.ntmps27 rfl fun F hF=>by
 have hlk:=backT.eq_1 S.list i
 generalize backT S.list i=res at *
 conv=>whnf
 refine Cf 5 1000 4 Bp E E ?_
 refine Vd (fun x:Int × List Hop=>(-1≤x.1∧x.1<S.list.length)∧x.2.length+(x.1+1).toNat≤S.list.length∧x.2++Mc S.list x.1=Mc S.list i)
  (fun x=>[(0,.ptr 0 0),(1,Aa x.1),(5,.osl 1000)]) (fun x=>srchA n S x.2) (fun x=>(x.1+1).toNat) (i,[]) [] ⟨hi,by simp;omega,rfl⟩
  ⟨⟨rfl,rfl,rfl,rfl,rfl,rfl,trivial⟩,⟨.inl rfl,rfl,.inl rfl,rfl,.inl rfl,rfl,.inl rfl,rfl,.inl rfl,rfl,trivial⟩,rfl,rfl⟩ ?_
 rintro ⟨z,acc⟩ ⟨hz,hal,hacc⟩
 dsimp only at hz hal hacc
 refine rg ?_;conv=>whnf
 refine⟨fun h=>?_,fun h=>?_⟩
 ·have h0:0≤z:=of_decide_eq_true h
  have hk:z.toNat<S.list.length:=by omega
  have hb:=hB z.toNat hk
  rw[Mc,Am hk]at hacc
  obtain ⟨f,hf⟩:∃ f,S.list[z.toNat]'hk=f:=⟨_,rfl⟩
  rw[hf]at hacc hb
  rw[dif_pos ⟨h0,by omega⟩]at hacc
  refine rg ?_;conv=>whnf
  refine⟨h0,hk,?_⟩
  conv=>whnf
  refine⟨by intro e;rw[e]at hk;simp at hk,?_⟩
  conv=>whnf
  refine⟨E,hk,?_⟩
  rw[hf]
  conv=>whnf
  refine Ah (Al Γ.toTy 26 E E E E E (.row E) (.lit (e:=Bp) (l:=[f.hop]) E E) qy (by simp;omega) (by simp;omega)) E E ?_
  refine rg ?_;conv=>whnf
  refine⟨h0,hk,?_⟩
  conv=>whnf
  refine⟨by intro e;rw[e]at hk;simp at hk,?_⟩
  conv=>whnf
  refine⟨E,hk,?_⟩
  rw[hf]
  conv=>whnf
  exact Iy (f.ahead,acc++[f.hop]) [(1000,26)] ⟨⟨hb.1,by omega⟩,by simp;omega,by rw[List.append_assoc];exact hacc⟩ (by simp only;omega)
   ⟨⟨rfl,rfl,rfl,rfl,rfl,rfl,trivial⟩,⟨.inl rfl,rfl,.inl rfl,rfl,.inl rfl,rfl,.inl rfl,rfl,.inl rfl,rfl,trivial⟩,rfl,rfl⟩
 ·have h0:¬ 0≤z:=of_decide_eq_false h
  rw[Mc,dif_neg (fun e=>h0 e.1),List.append_nil]at hacc
  have q:=Abn acc qn
  rw[← hacc]at hlk
  refine rg ?_;conv=>whnf
  refine Ah (Aj [(0,1000)] E F94 q E ⟨E,Y⟩ E ⟨.inl E,Y⟩) E E ?_
  refine At 1000 E ?_
  rw[← hlk]
  refine rg ?_;conv=>whnf
  exact done E (.cons .tmp .nil) [] (T5 n S) (fun _ h=>h) E E ⟨Y,⟨.inl E,E,.inl E,E,.inl E,E,.inl E,E,Y⟩,E,E⟩
def Ek (n:Net) (to:Int):Nat→Srch→Nat→List Hop × Bool
 | 0,_,_=>([],false)
 | k+1,S,i=>if i<S.list.length then (if inB (B7 n (nth S.list i).domain) to=true then (backT S.list i,true) else Ek n to k (extT n S i) (i+1)) else ([],false)
def wayT (n:Net) (from_ to:Int):List Hop × Bool :=
 if I5 n from_=true∧I5 n to=true∧from_≠to∧Af n=true then Ek n to (2 * n.domains.length+1) (beginT n from_) 0 else ([],false)
abbrev srchW (n:Net) (S:Srch):Obs:=[(32,Vq n (.osl 1001) (.osl 1002) (.osl 1003)),(1001,.row 1 Ad S.m0),(1002,.row 1 Ad S.m1),(1003,.row 7 Ol S.list)]
theorem Sf {n:Net} {i:Int} (h:I5 n i=true):0≤i∧i.toNat<n.ports.length:=by
 simp only[I5,Bool.and_eq_true,decide_eq_true_eq]at h
 omega
theorem wayS (n:Net) (hn:n.Fin) (hu:Ei n) (from_ to:Int):Sy.Spec Tryz.prog 9 [Ap n,Aa from_,Aa to] [] (.tup [.sl 4 Bp (wayT n from_ to).1,Ad (wayT n from_ to).2]) []:=Ab Γ hm 100 F9 Tryz.ntmps9 rfl fun F hF=>by
 have hlk:=wayT.eq_1 n from_ to
 generalize wayT n from_ to=res at *
 have hr:=Bd n hn
 have h1:=Qf n from_
 have h2:=Qf n to
 conv=>whnf
 refine Be 3 8 (Ap n) E E E ?_
 refine rg ?_;conv=>whnf
 refine Ag h1 F22 E E E E E ?_
 cases hf:I5 n from_
 ·rw[if_neg (by simp[hf])]at hlk
  subst hlk
  (refine rg ?_;(conv=>whnf);refine aT ?_;refine rg ?_;(conv=>whnf);refine aT ?_;refine rg ?_;(conv=>whnf);refine aT ?_;refine rg ?_;(conv=>whnf);refine aT ?_;refine rg ?_;conv=>whnf)
  refine Ao 6 4 Bp E ?_
  refine rg ?_;conv=>whnf
  exact Ac E (.cons .tmp (.cons .tmp .nil)) E E
 (refine rg ?_;(conv=>whnf);refine aF ?_;refine rg ?_;conv=>whnf)
 refine Ag h2 F22 E E E E E ?_
 cases ht:I5 n to
 ·rw[if_neg (by simp[ht])]at hlk
  subst hlk
  (refine rg ?_;(conv=>whnf);refine aT ?_;refine rg ?_;(conv=>whnf);refine aT ?_;refine rg ?_;(conv=>whnf);refine aT ?_;refine rg ?_;conv=>whnf)
  refine Ao 6 4 Bp E ?_
  refine rg ?_;conv=>whnf
  exact Ac E (.cons .tmp (.cons .tmp .nil)) E E
 (refine rg ?_;(conv=>whnf);refine aF ?_;refine rg ?_;conv=>whnf)
 refine⟨fun h=>?_,fun h=>?_⟩
 ·rw[if_neg (by have:from_=to:=(by simpa using h);simp[this])]at hlk
  subst hlk
  (refine rg ?_;(conv=>whnf);refine aT ?_;refine rg ?_;conv=>whnf)
  refine Ao 6 4 Bp E ?_
  refine rg ?_;conv=>whnf
  exact Ac E (.cons .tmp (.cons .tmp .nil)) E E
 have hne:from_≠to:=by simpa using h
 refine rg ?_;conv=>whnf
 refine Ag hr F23 E E E E E ?_
 cases hb:Af n
 ·rw[if_neg (by simp[hb])]at hlk
  subst hlk
  (refine rg ?_;(conv=>whnf);refine aT ?_;refine rg ?_;conv=>whnf)
  refine Ao 6 4 Bp E ?_
  refine rg ?_;conv=>whnf
  exact Ac E (.cons .tmp (.cons .tmp .nil)) E E
 rw[if_pos ⟨hf,ht,hne,hb⟩]at hlk
 have hD:n.domains.length<1000000:=by have:=(Aok hb).2.2.2.1;omega
 have hp:=Sf hf
 have q0:=beginS n hn hb hD from_ hp
 have ok0:(beginT n from_).OK n:=by
  rw[beginT,Am hp.2]
  exact Mw fun v hv h0=>Hq hb hp.2 hv h0
 have bk0:Backs (beginT n from_).list:=by rw[beginT];exact K2 _ _ _
 generalize beginT n from_=S0 at *
 (refine rg ?_;(conv=>whnf);refine aF ?_;refine rg ?_;conv=>whnf)
 refine Ah (Aj [(0,32),(1,1001),(2,1002),(3,1003)] E F24 q0 E ⟨E,Y⟩ E ⟨.inl E,.inr E,.inr E,.inr E,Y⟩) E E ?_
 refine rg ?_;conv=>whnf
 refine Vd (fun x:Srch × Nat=>x.1.OK n∧Backs x.1.list∧x.2≤x.1.list.length∧res=Ek n to (2 * n.domains.length+1-x.2) x.1 x.2)
  (fun x=>[(2,Aa to),(3,.ref 8 (Ap n) 0),(8,.ptr 32 0),(9,Aa x.2)]) (fun x=>srchW n x.1) (fun x=>2 * n.domains.length+1-x.2) (S0,0) [] ⟨ok0,bk0,Nat.zero_le _,hlk⟩
  ⟨⟨rfl,rfl,rfl,rfl,rfl,rfl,rfl,rfl,trivial⟩,⟨.inl rfl,rfl,.inl rfl,rfl,.inl rfl,rfl,.inl rfl,rfl,trivial⟩,rfl,rfl⟩ ?_
 clear hlk ok0 bk0 q0
 rintro ⟨S,i⟩ ⟨ok,bk,hi,hlk⟩
 dsimp only at ok bk hi hlk ⊢
 have hle:=ok.le
 obtain ⟨fuel,hfu⟩:∃ k,2 * n.domains.length+1-i=k+1:=⟨2 * n.domains.length-i,by omega⟩
 rw[hfu,Ek]at hlk
 refine rg ?_;conv=>whnf
 refine⟨fun h=>?_,fun h=>?_⟩
 ·have hlt:i<S.list.length:=by have:=of_decide_eq_true h;omega
  have hi0:((i:Nat):Int).toNat<S.list.length:=by simpa using hlt
  rw[if_pos hlt,Am hi0]at hlk
  obtain ⟨f,hf2⟩:∃ f,S.list[((i:Nat):Int).toNat]'hi0=f:=⟨_,rfl⟩
  rw[hf2]at hlk
  have q1:=Jf n hn f.domain
  have q2:=Ct (B7 n f.domain) to (E3 n hn f.domain)
  generalize B7 n f.domain=mem at *
  refine rg ?_;conv=>whnf
  refine⟨by omega,hi0,?_⟩
  conv=>whnf
  refine⟨by intro e;rw[e]at hlt;simp at hlt,?_⟩
  conv=>whnf
  refine⟨by intro e;rw[e]at hlt;simp at hlt,?_⟩
  conv=>whnf
  refine⟨E,hi0,?_⟩
  rw[hf2]
  conv=>whnf
  refine Au q1 F26 E E E qq E ?_
  refine rd qq ?_;conv=>whnf
  refine Au q2 F25 E E E qq E ?_
  refine rd qq ?_;conv=>whnf
  refine⟨qq,?_⟩
  conv=>whnf
  generalize inB mem to=bm at *
  cases bm
  ·refine aF ?_
   rw[if_neg qy]at hlk
   have q3:=Anw n hn hu hD S ok i ⟨by omega,hi0⟩
   have ok':=ok.ext i
   have bk':=bk.ext (n:=n) (i:=i) ⟨by omega,by omega⟩
   generalize extT n S i=S' at *
   refine rg ?_;conv=>whnf
   refine Ah (Aj [(0,32),(1,1001),(2,1002),(3,1003),(4,1004)] E F28 q3 E ⟨E,E,E,E,Y⟩ E ⟨.inl E,.inl E,.inl E,.inl E,.inr E,Y⟩) E E ?_
   refine rg ?_;conv=>whnf
   refine⟨by unfold I64;omega,?_⟩
   conv=>whnf
   exact Iy (S',i+1) [(1003,1004)] ⟨ok',bk'.1,by simp only;omega,by simp only;rw[show 2 * n.domains.length+1-(i+1)=fuel by omega];exact hlk⟩ (by simp only;omega)
    ⟨⟨rfl,rfl,rfl,rfl,rfl,rfl,rfl,rfl,trivial⟩,⟨.inl rfl,rfl,.inl rfl,rfl,.inl rfl,rfl,.inl rfl,rfl,trivial⟩,rfl,rfl⟩
  ·refine aT ?_
   rw[if_pos rfl]at hlk
   subst hlk
   have q4:=backS n S bk qn i ⟨by omega,by omega⟩
   generalize backT S.list i=w at *
   refine rg ?_;conv=>whnf
   refine Ah (Aj [(0,32),(1,1001),(2,1002),(3,1003)] E F27 q4 E ⟨E,E,E,E,Y⟩ E ⟨.inl E,.inl E,.inl E,.inl E,Y⟩) E E ?_
   refine rg ?_;conv=>whnf
   exact Ac E (.cons .tmp (.cons .tmp .nil)) E E
 ·have hlt:¬ i<S.list.length:=by have:=of_decide_eq_false h;omega
  rw[if_neg hlt]at hlk
  subst hlk
  refine rg ?_;conv=>whnf
  refine Ao 6 4 Bp E ?_
  refine rg ?_;conv=>whnf
  exact Ac E (.cons .tmp (.cons .tmp .nil)) E E
end Go.Sy.YteinjapglfkamaaGreat
namespace Go.Sy.YteinjapglfkamaaGreat
open Go.Proofs
def S6 (n:Net) (h:Hop):Prop:=(0≤h.domain∧h.domain.toNat<n.domains.length)∧0≤h.addr∧h.addr<4294967296
theorem Ajm {n:Net} {irb to e:Int} (he:e<4294967296):∀ {x:Int},0≤x→0≤(addrGo n irb to e x).1∧(addrGo n irb to e x).1<4294967296:=by
 intro x
 induction x using addrGo.induct n irb to e with
 | case1 x h1 h2=>intro h0;rw[addrGo,if_pos h1,if_pos h2];exact⟨h0,by simp only;omega⟩
 | case2 x h1 h2 h3=>intro h0;rw[addrGo,if_pos h1,if_neg h2,if_pos h3];decide
 | case3 x h1 h2 h3 h4 ih=>intro h0;rw[addrGo,if_pos h1,if_neg h2,if_neg h3,if_pos h4];exact ih qn
 | case4 x h1 h2 h3 h4=>intro h0;rw[addrGo,if_pos h1,if_neg h2,if_neg h3,if_neg h4];decide
 | case5 x h1=>intro h0;rw[addrGo,if_neg h1];decide
theorem Amn {n:Net} (hu:Ei n) (irb to:Int):0≤(addrT n irb to).1∧(addrT n irb to).1<4294967296:=by
 rw[addrT]
 split
 ·rename_i hc
  have hk:to.toNat<n.irbs.length:=by omega
  rw[Am hk]
  have hui:=hu _ (List.getElem_mem hk)
  exact Ajm (Q9 _ _ hui).2 (Y2 _ _ hui).1
 ·decide
theorem Acw {n:Net} {d:Int} {h:Hop} (hh:h∈Ho n d):S6 n h:=by
 refine⟨Sg hh,?_⟩
 rw[Ho]at hh
 split at hh
 ·rcases List.mem_append.1 hh with hh | hh
  ·obtain ⟨p,_,hp⟩:=List.mem_filterMap.1 hh
   rw[linkHop]at hp
   split at hp
   ·simp only[Option.some.injEq]at hp
    subst hp
    exact⟨by simp,by simp⟩
   ·cases hp
  ·obtain ⟨p,hp,rfl⟩:=List.mem_map.1 hh
   exact⟨by simp[I2],by simp[I2]⟩
 ·cases hh
theorem Zl {n:Net} (hu:Ei n) {d:Int} {q:Lead} (hq:q∈routesT n d):0≤q.addr∧q.addr<4294967296:=by
 rw[routesT]at hq
 split at hq
 ·obtain ⟨i,hi,hp⟩:=List.mem_filterMap.1 hq
  rw[leadF]at hp
  split at hp
  ·simp only[Option.some.injEq]at hp
   subst hp
   exact Amn hu _ _
  ·cases hp
 ·cases hq
def HopsOK (n:Net) (l:List Fnd):Prop:=∀ f∈l,S6 n f.hop
theorem HopsOK.meet {n:Net} {S:Srch} (h:HopsOK n S.list) (d k:Int) {hp:Hop} (hh:S6 n hp) (a:Int):HopsOK n (meetT S d k hp a).list:=by
 rw[meetT]
 split
 ·exact h
 ·rw[Im]
  split<;>(intro f hf;rcases List.mem_append.1 hf with hf | hf;exact h f hf;rw[List.mem_singleton]at hf;subst hf;exact hh)
theorem HopsOK.ext1 {n:Net} {k i:Int}:∀ {l:List Hop} {S:Srch},HopsOK n S.list→(∀ h∈l,S6 n h)→HopsOK n (ext1 S k i l).list
 | [],S,h,_=>h
 | x::l,S,h,hl=>HopsOK.ext1 (l:=l) (h.meet x.domain k (hl x qy) i) (fun y hy=>hl y (by simp[hy]))
theorem HopsOK.ext2 {n:Net} {i:Int}:∀ {l:List Lead} {S:Srch},HopsOK n S.list→(∀ q∈l,S6 n ⟨3,0,q.domain,q.addr⟩)→HopsOK n (ext2 S i l).list
 | [],S,h,_=>h
 | x::l,S,h,hl=>HopsOK.ext2 (l:=l) (h.meet x.domain 1 (hl x qy) i) (fun y hy=>hl y (by simp[hy]))
theorem HopsOK.ext {n:Net} (hu:Ei n) {S:Srch} (h:HopsOK n S.list) (i:Int):HopsOK n (extT n S i).list:=by
 rw[extT]
 split
 ·exact(h.ext1 (fun x hx=>Acw hx)).ext2 (fun q hq=>⟨O1 hq,Zl hu hq⟩)
 ·exact h.ext1 (fun x hx=>Acw hx)
theorem Adq {n:Net} {dev:Int} {l:List Int} (h:∀ v∈l,v≠0→0≤Ck n dev v∧(Ck n dev v).toNat<n.domains.length):HopsOK n (Iu n dev l).list:=by
 suffices hs:∀ (l:List Int) (S:Srch),HopsOK n S.list→(∀ v∈l,v≠0→0≤Ck n dev v∧(Ck n dev v).toNat<n.domains.length)→HopsOK n (l.foldl (Iv n dev) S).list from hs l _ (fun f hf=>by simp[Qn]at hf) h
 intro l
 induction l with
 | nil=>exact fun S h _=>h
 | cons x l ih =>
  intro S hS hl
  refine ih _ ?_ (fun v hv=>hl v (by simp[hv]))
  rw[Iv]
  split
  ·exact hS
  ·rename_i hx
   exact hS.meet _ _ ⟨hl x qy hx,by simp,by simp⟩ _
theorem Adr {l:List Fnd} (hB:Backs l) {P:Hop→Prop} (hP:∀ f∈l,P f.hop):∀ (k:Nat) (i:Int),i<k→i<l.length→(∀ h∈Mc l i,P h)∧((Mc l i).length:Int)≤i+1∨i<0:=by
 intro k
 induction k with
 | zero=>intro i hi _;exact .inr qn
 | succ k ih =>
  intro i hi hl
  by_cases h0:0≤i
  ·left
   have hk:i.toNat<l.length:=by omega
   have hb:=hB i.toNat hk
   rw[Mc,Am hk,dif_pos ⟨h0,by omega⟩]
   have hm:=hP _ (List.getElem_mem hk)
   rcases ih (l[i.toNat]'hk).ahead qn qn with ⟨h1,h2⟩ | h1
   ·refine⟨fun h hh=>?_,by rw[List.length_cons];omega⟩
    rcases List.mem_cons.1 hh with rfl | hh
    ·exact hm
    ·exact h1 h hh
   ·rw[Mc,dif_neg (fun e=>by omega)]
    refine⟨fun h hh=>?_,by simp;omega⟩
    rw[List.mem_singleton]at hh
    subst hh
    exact hm
  ·exact .inr qn
theorem Uo {l:List Fnd} (hB:Backs l) {P:Hop→Prop} (hP:∀ f∈l,P f.hop) {i:Nat} (hi:i<l.length):(∀ h∈backT l i,P h)∧(backT l i).length≤i+1∧backT l i≠[]:=by
 rcases Adr hB hP (i+1) i qn qn with ⟨h1,h2⟩ | h
 ·refine⟨fun h hh=>h1 h (by simpa [backT] using hh),by rw[backT,List.length_reverse];omega,?_⟩
  rw[backT]
  intro e
  have hk:((i:Nat):Int).toNat<l.length:=by simpa using hi
  have hb:=hB ((i:Nat):Int).toNat hk
  rw[Mc,Am hk,dif_pos ⟨by omega,by omega⟩]at e
  simp at e
 ·omega
theorem M9 {n:Net} (hu:Ei n) {to:Int}:∀ (k:Nat) (S:Srch) (i:Nat),S.OK n→Backs S.list→HopsOK n S.list→i≤S.list.length→(Ek n to k S i).2=true →
  (∀ h∈(Ek n to k S i).1,S6 n h)∧(Ek n to k S i).1.length≤2 * n.domains.length∧(Ek n to k S i).1≠[]
 | 0,S,i,_,_,_,_,h=>by cases h
 | k+1,S,i,ok,bk,hk,hi,h=>by
  rw[Ek]at h ⊢
  split at h
  ·rename_i hlt
   rw[if_pos hlt]
   split at h
   ·rename_i hm2
    rw[if_pos hm2]
    have:=Uo bk hk hlt
    have hle:=ok.le
    exact⟨this.1,by have:=this.2.1;simp only;omega,this.2.2⟩
   ·rename_i hm2
    rw[if_neg hm2]
    have bk':=bk.ext (n:=n) (i:=i) ⟨by omega,by omega⟩
    exact M9 hu k _ _ (ok.ext i) bk'.1 (hk.ext hu i) qn h
  ·cases h
theorem wayT_facts {n:Net} (hu:Ei n) {from_ to:Int} (h:(wayT n from_ to).2=true) :
  (∀ h∈(wayT n from_ to).1,S6 n h)∧(wayT n from_ to).1.length≤2 * n.domains.length∧(wayT n from_ to).1≠[]∧Af n=true:=by
 rw[wayT]at h ⊢
 split at h
 ·rename_i hc
  rw[if_pos hc]
  have hp:=Sf hc.1
  have ok0:(beginT n from_).OK n:=by
   rw[beginT,Am hp.2]
   exact Mw fun v hv h0=>Hq hc.2.2.2 hp.2 hv h0
  have hk0:HopsOK n (beginT n from_).list:=by
   rw[beginT,Am hp.2]
   exact Adq fun v hv h0=>Hq hc.2.2.2 hp.2 hv h0
  have bk0:Backs (beginT n from_).list:=by rw[beginT];exact K2 _ _ _
  obtain ⟨h1,h2,h3⟩:=M9 hu _ _ _ ok0 bk0 hk0 (Nat.zero_le _) h
  exact⟨h1,h2,h3,hc.2.2.2⟩
 ·cases h
end Go.Sy.YteinjapglfkamaaGreat
namespace Go.Sy.YteinjapglfkamaaGreat
open Go.Proofs
attribute [local irreducible] Go.Sy.G Go.Sy.DR
set_option maxRecDepth 20000
set_option maxHeartbeats 4000000
theorem Aei (l:List Int) (least most:Int) (hl:An l):Sy.Spec Tryz.prog 151 [.sl 1 Aa l,Aa least,Aa most] [] (Ad (C3 l least most)) []:=Ab Γ hm 100 F151 Tryz.ntmps151 rfl fun F hF=>by
 unfold An at hl
 conv=>whnf
 (repeat' (first | (refine⟨fun h=>?_,fun h=>?_⟩<;>(repeat (first | simp only[decide_eq_true_eq]at h | simp only[decide_eq_false_iff_not]at h))<;>((refine rg ?_);(conv=>whnf);repeat((refine aT ?_);(refine rg ?_);(conv=>whnf)))) | (refine Ac rfl (.cons .tmp .nil) ?_ rfl)))
 all_goals try (refine congrArg Ad ?_)
 ·rw[C3];simp;omega
 ·rw[C3];simp;omega
 refine A2 l.length (fun j=>C7 (Js l least most) l j) (fun j=>[(0,.sl 1 Aa l),(1,Aa least),(2,Aa most),(7,Aa j)]) (fun _=>[]) [] (Ax _ _) ⟨⟨E,E,E,E,E,E,E,E,Y⟩,Y,E,E⟩ ?_
 intro j hj hI
 refine rg ?_;conv=>whnf
 (repeat' (first | (refine⟨fun h=>?_,fun h=>?_⟩<;>(repeat (first | simp only[decide_eq_true_eq]at h | simp only[decide_eq_false_iff_not]at h))<;>((first|refine rg ?_|refine rd qq ?_);(conv=>whnf);repeat((refine aT ?_);(refine rd qq ?_);(conv=>whnf)))) | (refine Ac rfl (.cons .tmp .nil) ?_ rfl) | (refine⟨qq,?_⟩;((conv=>whnf);repeat((first|refine aF ?_|refine aT ?_);(refine rg ?_);(conv=>whnf)))) | (refine⟨by (first | (unfold I64;omega) | omega),by (omega),?_⟩;((conv=>whnf))) | (refine⟨by (unfold I64;omega),?_⟩;((conv=>whnf))) | refine A0 [] hI qn ?_ ⟨⟨rfl,rfl,rfl,rfl,rfl,rfl,rfl,rfl,trivial⟩,trivial,rfl,rfl⟩))
 all_goals try (refine congrArg Ad ?_)
 all_goals try simp only[Int.toNat_natCast,Int.pred_toNat]at *
 ·rw[C3,A5 (i:=j) qn (by simp[Js];omega)];simp
 ·rw[C3,A5 (i:=j) qn (by simp[Js];omega)];simp
 ·rw[C3,A5 (i:=j) qn (by simp only[Js,Am (show ((j:Int)-1).toNat<l.length by omega),Int.pred_toNat,Int.toNat_natCast];simp;omega)];simp
 ·exact As hI qn (by simp only[Js,Am (show ((j:Int)-1).toNat<l.length by omega),Int.pred_toNat,Int.toNat_natCast];simp;omega)
 ·exact As hI qn (by simp[Js];omega)
 ·rw[C3,B4 hI qn,Bool.eq_iff_iff];simp;omega
theorem Kn (l:List Int) (most:Int) (hl:An l):Sy.Spec Tryz.prog 98 [.sl 1 Aa l,Aa most] [] (Ad (decide (l.length=0) || C3 l 1 most)) []:=Ab Γ hm 100 F98 Tryz.ntmps98 rfl fun F hF=>by
 conv=>whnf
 (repeat' (first | (refine⟨fun h=>?_,fun h=>?_⟩<;>(repeat (first | simp only[beq_iff_eq]at h | simp only[beq_eq_false_iff_ne]at h))<;>((refine rg ?_);(conv=>whnf))) | (refine Ac rfl (.cons .tmp .nil) ?_ rfl) | (refine Ag (Aei l 1 most hl) F151 rfl rfl rfl rfl rfl ?_;((refine rg ?_);(conv=>whnf)))))
 all_goals (refine congrArg Ad ?_)
 all_goals grind
theorem B5 (i:Int) (n:Nat):Sy.Spec Tryz.prog 46 [Aa i,Aa n] [] (Ad (Ak i n)) []:=Ab Γ hm 100 F46 Tryz.ntmps46 rfl fun F hF=>by
 conv=>whnf
 (repeat' (first | (refine⟨fun h=>?_,fun h=>?_⟩<;>(repeat (first | simp only[decide_eq_true_eq]at h | simp only[decide_eq_false_iff_not]at h))<;>((refine rg ?_);(conv=>whnf))) | (refine Ac rfl (.cons .tmp .nil) ?_ rfl)))
 all_goals (refine congrArg Ad ?_)
 all_goals grind [Ak]
theorem Kf {α:Type} {p:α→Bool} {l:List α} {j:Nat} (hI:C7 (fun _ x=>!(p x)) l j) (hj:l.length≤j):l.any p=false:=by
 rw[List.any_eq_false]
 intro x hx
 obtain ⟨i,hi,rfl⟩:=List.mem_iff_getElem.1 hx
 simpa using hI i hi qn
theorem Mf {α:Type} {p:α→Bool} {l:List α} {j:Nat} (hj:j<l.length) (h:p l[j]=true):l.any p=true:=List.any_eq_true.2 ⟨_,List.getElem_mem hj,h⟩
theorem Qv (l:List Int) (x:Int) (hl:An l):Sy.Spec Tryz.prog 36 [.sl 1 Aa l,Aa x] [] (Ad (inB l x)) []:=Ab Γ hm 100 F36 Tryz.ntmps36 rfl fun F hF=>by
 unfold An at hl
 conv=>whnf
 refine A2 l.length (fun j=>C7 (fun _ y=>!(y == x)) l j) (fun j=>[(0,.sl 1 Aa l),(1,Aa x),(5,Aa j)]) (fun _=>[]) [] (Ax _ _) ⟨⟨E,E,E,E,E,E,Y⟩,Y,E,E⟩ ?_
 intro j hj hI
 refine rg ?_;conv=>whnf
 (repeat' (first | (refine⟨fun h=>?_,fun h=>?_⟩<;>(repeat (first | simp only[decide_eq_true_eq]at h | simp only[decide_eq_false_iff_not]at h | simp only[beq_iff_eq]at h | simp only[beq_eq_false_iff_ne]at h))<;>((refine rg ?_);(conv=>whnf))) | (refine Ac rfl (.cons .tmp .nil) ?_ rfl) | (refine⟨qq,?_⟩;((conv=>whnf))) | (refine⟨by (omega),by (omega),?_⟩;((conv=>whnf))) | (refine⟨by (unfold I64;omega),?_⟩;((conv=>whnf))) | refine A0 [] hI qn ?_ ⟨⟨rfl,rfl,rfl,rfl,rfl,rfl,trivial⟩,trivial,rfl,rfl⟩))
 all_goals try (refine congrArg Ad ?_)
 ·exact Mf (j:=j) qn (by simpa using h)
 ·exact As hI qn (by simpa using h)
 ·exact Kf hI qn
theorem Zp (p:Port) (v:Int) (hl:An p.tagged):Sy.Spec Tryz.prog 99 [A6 p,Aa v] [] (Ad (Dm p v)) []:=Ab Γ hm 100 F99 Tryz.ntmps99 rfl fun F hF=>by
 conv=>whnf
 (repeat' (first | (refine⟨fun h=>?_,fun h=>?_⟩<;>(repeat (first | simp only[beq_iff_eq]at h | simp only[beq_eq_false_iff_ne]at h | simp only[bne_iff_ne]at h | simp only[bne_eq_false_iff_eq]at h))<;>((refine rg ?_);(conv=>whnf))) | (refine Ac rfl (.cons .tmp .nil) ?_ rfl) | (refine Ag (Qv p.tagged v hl) F36 rfl rfl rfl rfl rfl ?_;((refine rg ?_);(conv=>whnf)))))
 all_goals (refine congrArg Ad ?_)
 all_goals grind [Dm]
theorem V1 (n:Net) (dev vlan:Int) (hl:An n.domains):Sy.Spec Tryz.prog 35 [Ap n,Aa dev,Aa vlan] [] (Aa (Tz n dev vlan)) []:=Ab Γ hm 100 F35 Tryz.ntmps35 rfl fun F hF=>by
 unfold An at hl
 conv=>whnf
 refine Be 3 8 (Ap n) E E E ?_
 refine A2 n.domains.length (fun j=>C7 (fun _ d=>!(d.dev == dev && d.vlan == vlan)) n.domains j) (fun j=>[(1,Aa dev),(2,Aa vlan),(3,.ref 8 (Ap n) 0),(7,Aa j)]) (fun _=>[]) [] (Ax _ _) ⟨⟨E,E,E,E,E,E,E,E,Y⟩,Y,E,E⟩ ?_
 intro j hj hI
 refine rg ?_;conv=>whnf
 (repeat' (first | (refine⟨fun h=>?_,fun h=>?_⟩<;>(repeat (first | simp only[decide_eq_true_eq]at h | simp only[decide_eq_false_iff_not]at h | simp only[beq_iff_eq]at h | simp only[beq_eq_false_iff_ne]at h))<;>((refine rg ?_);(conv=>whnf);repeat((refine aF ?_);(refine rg ?_);(conv=>whnf)))) | (refine Ac rfl (.cons .tmp .nil) ?_ rfl) | (refine⟨qq,?_⟩;((conv=>whnf))) | (refine⟨by (omega),by (omega),?_⟩;((conv=>whnf))) | (refine⟨by (unfold I64;omega),?_⟩;((conv=>whnf))) | refine A0 [] hI qn ?_ ⟨⟨rfl,rfl,rfl,rfl,rfl,rfl,rfl,rfl,trivial⟩,trivial,rfl,rfl⟩))
 all_goals try (refine congrArg Aa ?_)
 ·exact C9 qn (fun i hi hij=>by have:=hI i hi hij;grind) (by simp_all)
 ·exact As hI qn (by simp_all)
 ·exact As hI qn (by simp_all)
 ·exact Dv (fun i hi=>by have:=hI i hi qn;grind)
theorem Abt (n:Net) (hn:n.Fin):Sy.Spec Tryz.prog 31 [Ap n] [] (Ad (Cj (J1 n) n.links)) []:=Ab Γ hm 100 F31 Tryz.ntmps31 rfl fun F hF=>by
 have hl:=hn.links
 unfold An at hl
 conv=>whnf
 refine Be 1 8 (Ap n) E E E ?_
 refine A2 n.links.length (fun j=>C7 (J1 n) n.links j) (fun j=>[(1,.ref 8 (Ap n) 0),(3,Aa j)]) (fun _=>[]) [] (Ax _ _) ⟨⟨E,E,E,E,Y⟩,Y,E,E⟩ ?_
 intro j hj hI
 refine rg ?_;conv=>whnf
 (repeat' (first | (refine⟨fun h=>?_,fun h=>?_⟩<;>(repeat (first | simp only[Ak]at h | simp only[decide_eq_true_eq]at h | simp only[decide_eq_false_iff_not]at h | simp only[beq_iff_eq]at h | simp only[beq_eq_false_iff_ne]at h | simp only[bne_iff_ne]at h | simp only[bne_eq_false_iff_eq]at h | simp only[Bool.and_eq_true]at h | simp only[Bool.and_eq_false_iff]at h | simp only[Bool.not_eq_true']at h | simp only[Bool.not_eq_false']at h))<;>((first|refine rg ?_|refine rd qq ?_);(conv=>whnf);repeat((refine aT ?_);(first|refine rg ?_|refine rd qq ?_);(conv=>whnf)))) | (refine Ac rfl (.cons .tmp .nil) ?_ rfl) | (refine⟨qq,?_⟩;((conv=>whnf);repeat((refine aT ?_);(refine rg ?_);(conv=>whnf)))) | (refine⟨by (first | omega | (simp only[Int.toNat_natCast];omega)),by (first | omega | (simp only[Int.toNat_natCast];omega)),?_⟩;((conv=>whnf))) | (refine⟨by (unfold I64;omega),?_⟩;((conv=>whnf))) | (refine Ag (B5 (n.links[j]'qn).a n.ports.length) F46 rfl rfl rfl rfl rfl ?_;((refine rg ?_);(conv=>whnf))) | (refine Ag (B5 (n.links[j]'qn).b n.ports.length) F46 rfl rfl rfl rfl rfl ?_;((refine rg ?_);(conv=>whnf))) | refine A0 [] hI qn ?_ ⟨⟨rfl,rfl,rfl,rfl,trivial⟩,trivial,rfl,rfl⟩))
 all_goals (simp only[Int.toNat_natCast]at *)
 all_goals first
  | exact As hI qn (by clear hI hF;grind [J1,Ak,Am])
  | (refine congrArg Ad ?_;exact A5 (i:=j) qn (by clear hI hF;grind [J1,Ak,Am]))
  | (refine congrArg Ad ?_;exact B4 hI qn)
theorem Abs (n:Net) (hn:n.Fin):Sy.Spec Tryz.prog 30 [Ap n] [] (Ad (Cj (Ef n) n.ports)) []:=Ab Γ hm 100 F30 Tryz.ntmps30 rfl fun F hF=>by
 have hl:=hn.ports
 unfold An at hl
 conv=>whnf
 refine Be 1 8 (Ap n) E E E ?_
 refine A2 n.ports.length (fun j=>C7 (Ef n) n.ports j) (fun j=>[(1,.ref 8 (Ap n) 0),(3,Aa j)]) (fun _=>[]) [] (Ax _ _) ⟨⟨E,E,E,E,Y⟩,Y,E,E⟩ ?_
 intro j hj hI
 refine rg ?_;conv=>whnf
 refine⟨fun h=>?_,fun h=>?_⟩
 ·have hjl:j<n.ports.length:=by simpa using h
  have ht:=hn.tagged _ (List.getElem_mem hjl)
  generalize hp:n.ports[j]=p at ht
  have hp':n.ports[(j:Int).toNat]'qn=p:=hp
  refine rg ?_;conv=>whnf
  refine⟨E,by omega,by omega,?_⟩
  rw[hp']
  conv=>whnf
  (repeat' (first | (refine⟨fun h=>?_,fun h=>?_⟩<;>(repeat (first | simp only[Ak]at h | simp only[decide_eq_true_eq]at h | simp only[decide_eq_false_iff_not]at h | simp only[beq_iff_eq]at h | simp only[beq_eq_false_iff_ne]at h | simp only[Bool.and_eq_true]at h | simp only[Bool.or_eq_true]at h | simp only[Bool.and_eq_false_iff]at h | simp only[Bool.or_eq_false_iff]at h | simp only[Bool.not_eq_true']at h | simp only[Bool.not_eq_false']at h))<;>((refine rg ?_);(conv=>whnf);repeat((first|refine aF ?_|refine aT ?_);(refine rg ?_);(conv=>whnf)))) | (refine Ac rfl (.cons .tmp .nil) ?_ rfl) | (refine Ag (B5 p.dev n.devices.length) F46 rfl rfl rfl rfl rfl ?_;((refine rg ?_);(conv=>whnf))) | (refine Ag (Kn p.tagged 4094 ht) F98 rfl rfl rfl rfl rfl ?_;((refine rg ?_);(conv=>whnf))) | (refine Ag (Qv p.tagged p.native ht) F36 rfl rfl rfl rfl rfl ?_;((refine rg ?_);(conv=>whnf))) | (refine Ag (V1 n p.dev p.native hn.domains) F35 rfl rfl rfl rfl rfl ?_;((refine rg ?_);(conv=>whnf)))))
  all_goals first
   | (refine congrArg Ad ?_;exact A5 hjl (by rw[hp];clear hI hF hp';grind [Ef,Ak,Bw]))
   | skip
  all_goals (
   refine Be 4 7 (A6 p) E E E ?_
   refine A2 p.tagged.length (fun k=>C7 (fun _ v=>Bw n p.dev v) p.tagged k) (fun k=>[(1,.ref 8 (Ap n) 0),(3,Aa j),(4,.ref 7 (A6 p) 0),(5,Aa k)]) (fun _=>[]) [] (Ax _ _) ⟨⟨E,E,E,E,E,E,E,E,Y⟩,Y,E,E⟩ ?_
   intro k hk hI2
   have hsh:=ht
   unfold An at hsh
   ((first|refine rG Γ hm ?_|refine rD Γ hm qq ?_);(conv=>whnf);repeat((first|refine aF ?_|refine aT ?_);(first|refine rG Γ hm ?_|refine rD Γ hm qq ?_);conv=>whnf)))
  all_goals (
   (repeat' (first | (refine⟨fun h=>?_,fun h=>?_⟩<;>(repeat (first | simp only[Ak]at h | simp only[decide_eq_true_eq]at h | simp only[decide_eq_false_iff_not]at h | simp only[beq_iff_eq]at h | simp only[beq_eq_false_iff_ne]at h | simp only[bne_iff_ne]at h | simp only[bne_eq_false_iff_eq]at h | simp only[Bool.and_eq_true]at h | simp only[Bool.and_eq_false_iff]at h | simp only[Bool.not_eq_true']at h | simp only[Bool.not_eq_false']at h))<;>((refine rg ?_);(conv=>whnf);repeat((first|refine aF ?_|refine aT ?_);(refine rg ?_);(conv=>whnf)))) | (refine Ac rfl (.cons .tmp .nil) ?_ rfl) | (refine⟨qq,?_⟩;((conv=>whnf))) | (refine⟨by (omega),by (omega),?_⟩;((conv=>whnf))) | (refine⟨by (unfold I64;omega),?_⟩;((conv=>whnf))) | (refine Au (V1 n p.dev (p.tagged[k]'qn) hn.domains) F35 rfl rfl rfl qq rfl ?_;((refine rd qq ?_);(conv=>whnf))) | (refine Ag (B5 p.link n.links.length) F46 rfl rfl rfl rfl rfl ?_;((refine rg ?_);(conv=>whnf))) | refine A0 [] hI2 qn ?_ ⟨⟨rfl,rfl,rfl,rfl,rfl,rfl,rfl,rfl,trivial⟩,trivial,rfl,rfl⟩ | refine A0 [] hI qn ?_ ⟨⟨rfl,rfl,rfl,rfl,trivial⟩,trivial,rfl,rfl⟩)))
  all_goals first
   | exact As hI2 qn (by simp only[Bw,decide_eq_true_eq];omega)
   | (refine congrArg Ad ?_
      have h0:Cj (fun _ v=>Bw n p.dev v) p.tagged=false:=A5 (i:=k) qn (by simp only[Bw,decide_eq_false_iff_not];omega)
      exact A5 hjl (by rw[hp];clear hI hI2 hF hp';grind [Ef]))
   | skip
  all_goals have h0:Cj (fun _ v=>Bw n p.dev v) p.tagged=true:=B4 hI2 qn
  all_goals first
   | exact As hI hjl (by rw[hp];clear hI hI2 hF hp';grind [Ef,Ak,Bw,Am])
   | (refine congrArg Ad ?_
      exact A5 hjl (by rw[hp];clear hI hI2 hF hp';grind [Ef,Ak,Bw,Am]))
 ·refine rg ?_;conv=>whnf
  exact Ac E (.cons .tmp .nil) (congrArg Ad (B4 hI (by simpa using h))) E
end Go.Sy.YteinjapglfkamaaGreat
