/-
  E6 E7 E8 E9 E10 E11 E12 Sy29 B0 D1 N8 N9 N10 N11 V1 V2 V3 V4 V5 X1 D2 KM K25 Sy30 Sy20 Sy21 Sy31 Sy32 Sy33 S3 K1 K2 K3 K4 K5 D0 K6 K7: parts of a proof, joined by program.
-/
import Derived.Test.YtmelpejjondedaaGreatW3
import Derived.Test.YtmelpejjondedaaGreatW2
import Derived.ProofKit
import Derived.OpenShut
namespace Go.Sy.YtmelpejjondedaaGreat
open Go.Proofs
attribute [local irreducible] Go.Sy.G Go.Sy.DR
set_option maxRecDepth 20000
set_option maxHeartbeats 4000000
theorem Yk (n:Net) (hn:n.Fin) (l:List Domain) (p:Domain→Bool) (f:FuncId) (first cap:List SV) (hc:(SV.clo (.func f) first cap).inn []=true) (hf:∀ x∈l,Hj Tryz.prog f (first++[Au x]++cap) (Ad (p x))) (hl:Am l) :
  Sy.Spec Tryz.prog 238 [Aq n,.sl 6 Au l,.clo (.func f) first cap] [] (Aa (if Af n=true then Dl p l else -1)) []:=Ab Γ hm 100 F238 Tryz.ntmps238 rfl fun F hF=>by
 have hr:=Bk n hn
 have q:=Es l p f first cap hc hf hl
 conv=>whnf
 refine Ag hr F67 E E E E E ?_
 cases hb:Af n
 ·rw[if_neg qy]
  (refine rg ?_;(conv=>whnf);refine aT ?_;refine rg ?_;conv=>whnf)
  exact Ac E (.cons .tmp .nil) E E
 rw[if_pos rfl]
 (refine rg ?_;(conv=>whnf);refine aF ?_;refine rg ?_;conv=>whnf)
 refine Ag q F262 E E (by simp only[B1,hc,Bool.and_true];rfl) E E ?_
 refine rg ?_;conv=>whnf
 exact Ac E (.cons .tmp .nil) E E
theorem X6 (dev vlan:Int) (d:Domain):Sy.Spec Tryz.prog 239 [Au d,.ref 1 (Aa dev) 0,.ref 1 (Aa vlan) 0] [] (Ad (d.dev == dev && d.vlan == vlan)) []:=Ab Γ hm 100 F239 Tryz.ntmps239 rfl fun F hF=>by
 conv=>whnf
 (repeat' (first | (refine⟨fun h=>?_,fun h=>?_⟩<;>(repeat (first | simp only[beq_iff_eq]at h | simp only[beq_eq_false_iff_ne]at h))<;>((refine rg ?_);(conv=>whnf))) | (refine Ac rfl (.cons .tmp .nil) ?_ rfl)))
 all_goals (refine congrArg Ad ?_)
 all_goals simp_all
def Tm (n:Net) (dev vlan:Int):Int:=if Af n=true then Aa6 n dev vlan else -1
theorem Ot (n:Net) (hn:n.Fin) (dev vlan:Int):Sy.Spec Tryz.prog 169 [Aq n,Aa dev,Aa vlan] [] (Aa (Tm n dev vlan)) []:=Ab Γ hm 100 F169 Tryz.ntmps169 rfl fun F hF=>by
 have q:=Yk n hn n.domains (fun d=>d.dev == dev && d.vlan == vlan) 239 [] [.ref 1 (Aa dev) 0,.ref 1 (Aa vlan) 0] rfl (fun d _=>⟨⟨_,_,F239⟩,X6 dev vlan d⟩) hn.domains
 conv=>whnf
 refine B0 4 1 (Aa dev) E E E ?_
 refine B0 5 1 (Aa vlan) E E E ?_
 refine Ag q F238 E E E E E ?_
 refine rg ?_;conv=>whnf
 exact Ac E (.cons .tmp .nil) E E
def Hh (n:Net) (i:Int):Int :=
 if (0≤i∧i<n.ports.length)∧0≤(nth n.ports i).link∧Af n=true then
  (if (nth n.links (nth n.ports i).link).a=i then (nth n.links (nth n.ports i).link).b else (nth n.links (nth n.ports i).link).a) else -1
theorem K2 {n:Net} (h:Af n=true) {i:Nat} (hi:i<n.ports.length) (hl:0≤n.ports[i].link) :
  n.ports[i].link.toNat<n.links.length∧((nth n.links n.ports[i].link).a=i∨(nth n.links n.ports[i].link).b=i):=by
 have:=e_port h hi
 simp only[Ij,Aj,Bool.and_eq_true,Bool.or_eq_true,decide_eq_true_eq,beq_iff_eq]at this
 rcases this.2 with h1 | h1
 ·omega
 ·exact⟨by omega,h1.2⟩
theorem Yb (n:Net) (hn:n.Fin) (i:Int):Sy.Spec Tryz.prog 258 [Aq n,Aa i] [] (Aa (Hh n i)) []:=Ab Γ hm 100 F258 Tryz.ntmps258 rfl fun F hF=>by
 have hr:=Bk n hn
 conv=>whnf
 refine⟨fun h=>?_,fun h=>?_⟩
 ·have h1:i<0:=of_decide_eq_true h
  rw[Hh,if_neg qn]
  (refine rg ?_;(conv=>whnf);refine aT ?_;refine rg ?_;(conv=>whnf);refine aT ?_;refine rg ?_;(conv=>whnf);refine aT ?_;refine rg ?_;conv=>whnf)
  exact Ac E (.cons .tmp .nil) E E
 have h1:0≤i:=by have:=of_decide_eq_false h;omega
 refine rg ?_;conv=>whnf
 refine⟨fun h=>?_,fun h=>?_⟩
 ·have h2:n.ports.length≤i:=of_decide_eq_true h
  rw[Hh,if_neg qn]
  (refine rg ?_;(conv=>whnf);refine aT ?_;refine rg ?_;(conv=>whnf);refine aT ?_;refine rg ?_;conv=>whnf)
  exact Ac E (.cons .tmp .nil) E E
 have h2:i<n.ports.length:=by have:=of_decide_eq_false h;omega
 have hk:i.toNat<n.ports.length:=by omega
 have e1:nth n.ports i=n.ports[i.toNat]:=An hk
 have hlk:=fun (hb:Af n=true)=>K2 hb hk
 rw[Hh,e1]
 obtain ⟨p,hp⟩:∃ p,n.ports[i.toNat]=p:=⟨_,rfl⟩
 rw[hp]at hlk ⊢
 refine rg ?_;conv=>whnf
 refine⟨E,h1,hk,?_⟩
 rw[hp]
 conv=>whnf
 refine⟨fun h=>?_,fun h=>?_⟩
 ·have h3:p.link<0:=of_decide_eq_true h
  rw[if_neg qn]
  (refine rg ?_;(conv=>whnf);refine aT ?_;refine rg ?_;conv=>whnf)
  exact Ac E (.cons .tmp .nil) E E
 have h3:0≤p.link:=by have:=of_decide_eq_false h;omega
 refine rg ?_;conv=>whnf
 refine Ag hr F67 E E E E E ?_
 cases hb:Af n
 ·rw[if_neg qy]
  (refine rg ?_;(conv=>whnf);refine aT ?_;refine rg ?_;conv=>whnf)
  exact Ac E (.cons .tmp .nil) E E
 rw[if_pos ⟨⟨h1,h2⟩,h3,rfl⟩]
 have hq:=hlk hb h3
 have e2:nth n.links p.link=n.links[p.link.toNat]:=An hq.1
 rw[e2]
 obtain ⟨l,hl⟩:∃ l,n.links[p.link.toNat]'hq.1=l:=⟨_,rfl⟩
 rw[hl]
 (refine rg ?_;(conv=>whnf);refine aF ?_;refine rg ?_;conv=>whnf)
 refine⟨E,h1,hk,?_⟩
 rw[hp]
 conv=>whnf
 refine⟨E,h3,hq.1,?_⟩
 rw[hl]
 conv=>whnf
 refine⟨qq,?_⟩
 conv=>whnf
 refine⟨fun h=>?_,fun h=>?_⟩
 ·have h4:l.a=i:=by simpa using h
  rw[if_pos h4]
  refine rg ?_;conv=>whnf
  exact Ac E (.cons .tmp .nil) E E
 ·have h4:¬ l.a=i:=by simpa using h
  rw[if_neg h4]
  refine rg ?_;conv=>whnf
  exact Ac E (.cons .tmp .nil) E E
theorem H9 (l:List Int) (p:Int→Bool) (f:FuncId) (first cap:List SV) (hc:(SV.clo (.func f) first cap).inn []=true) (hf:∀ x∈l,Hj Tryz.prog f (first++[Aa x]++cap) (Ad (p x))) (hl:Am l) :
  Sy.Spec Tryz.prog 321 [.sl 1 Aa l,.clo (.func f) first cap] [] (Aa (Dl p l)) []:=Ab Γ hm 100 F321 Tryz.ntmps321 rfl fun F hF=>by
 unfold Am at hl
 have hin:∀ x:Int,B1 [] (first++[Aa x]++cap)=true:=fun x=>Cn hc rfl
 conv=>whnf
 refine Bc l.length (fun j=>Em (fun _ x=>!(p x)) l j) (fun j=>[(0,.sl 1 Aa l),(1,.clo (.func f) first cap),(7,Aa l.length),(8,Aa j)]) (fun _=>[]) [] (Be _ _) ⟨⟨E,E,A2 _,hc,E,E,E,E,Y⟩,Y,E,E⟩ ?_
 intro j hj hI
 refine rg ?_;conv=>whnf
 refine⟨fun h=>?_,fun h=>?_⟩
 ·have h:=of_decide_eq_true h
  have hj2:j<l.length:=by omega
  refine rg ?_;conv=>whnf
  refine⟨E,by omega,by omega,?_⟩
  conv=>whnf
  refine Dv (hf l[j] (List.getElem_mem hj2)) E E E (by simp only[hin];rfl) E E ?_
  refine rg ?_;conv=>whnf
  refine⟨fun h2=>?_,fun h2=>?_⟩
  ·refine rg ?_;conv=>whnf
   refine Ac E (.cons .tmp .nil) (congrArg Aa ?_) E
   exact Ed hj2 (fun i hi hij=>by simpa using hI i hi hij) h2
  ·refine rg ?_;conv=>whnf
   refine⟨by unfold I64;omega,?_⟩
   conv=>whnf
   exact Ba [] hI hj2 (Bb hI hj2 (by simp[h2])) ⟨⟨E,E,A2 _,hc,E,E,E,E,Y⟩,Y,E,E⟩
 ·have h:=of_decide_eq_false h
  refine rg ?_;conv=>whnf
  refine Ac E (.cons .tmp .nil) (congrArg Aa ?_) E
  exact Ez (fun i hi=>by simpa using hI i hi qn)
theorem Qe (l:List Int) (p:Int→Bool) (f:FuncId) (first cap:List SV) (hc:(SV.clo (.func f) first cap).inn []=true) (hf:∀ x∈l,Hj Tryz.prog f (first++[Aa x]++cap) (Ad (p x))) (hl:Am l) :
  Sy.Spec Tryz.prog 345 [.sl 1 Aa l,.clo (.func f) first cap] [] (Ad (decide (0≤Dl p l))) []:=Ab Γ hm 100 F345 Tryz.ntmps345 rfl fun F hF=>by
 have h0:B1 [] [.sl 1 Aa l,.clo (.func f) first cap]=true:=by simp only[B1,hc];rfl
 conv=>whnf
 refine Ag (H9 l p f first cap hc hf hl) F321 E E (by simp only[h0];rfl) E E ?_
 refine rg ?_;conv=>whnf
 exact Ac E (.cons .tmp .nil) E E
theorem Akb (v:Vrf) (hv:Am v.imports) (t:Int):Sy.Spec Tryz.prog 344 [Aa t,.ref 5 (Ct v) 0] [] (Ad (inB v.imports t)) []:=Ab Γ hm 100 F344 Tryz.ntmps344 rfl fun F hF=>by
 have q:=C6 v.imports t hv
 conv=>whnf
 refine Ag q F86 E E E E E ?_
 refine rg ?_;conv=>whnf
 exact Ac E (.cons .tmp .nil) E E
def Acw (n:Net) (i k:Int):Bool:=i == k || (nth n.vrfs i).dev == (nth n.vrfs k).dev && decide (0≤Dl (inB (nth n.vrfs k).imports) (nth n.vrfs i).exports)
theorem Abq (n:Net) (hn:n.Fin) (hb:Af n=true) (i k:Int) (hi:0≤i∧i.toNat<n.vrfs.length) (hk:0≤k∧k.toNat<n.vrfs.length) :
  Sy.Spec Tryz.prog 332 [Aq n,Aa i,Aa k] [] (Ad (Acw n i k)) []:=Ab Γ hm 100 F332 Tryz.ntmps332 rfl fun F hF=>by
 have hr:=Bk n hn
 rw[hb]at hr
 have him:=hn.imports _ (List.getElem_mem hk.2)
 have hex:=hn.exports _ (List.getElem_mem hi.2)
 rw[Acw,An hi.2,An hk.2]
 obtain ⟨a,ha⟩:∃ a,n.vrfs[i.toNat]'hi.2=a:=⟨_,rfl⟩
 obtain ⟨b,hbb⟩:∃ b,n.vrfs[k.toNat]'hk.2=b:=⟨_,rfl⟩
 rw[ha]at hex ⊢
 rw[hbb]at him ⊢
 have q:=Qe a.exports (inB b.imports) 344 [] [.ref 5 (Ct b) 0] rfl (fun t _=>⟨⟨_,_,F344⟩,Akb b him t⟩) hex
 conv=>whnf
 refine⟨fun h=>absurd (of_decide_eq_true h) qn,fun _=>?_⟩
 refine rg ?_;conv=>whnf
 refine⟨fun h=>absurd (of_decide_eq_true h) qn,fun _=>?_⟩
 refine rg ?_;conv=>whnf
 refine⟨fun h=>absurd (of_decide_eq_true h) qn,fun _=>?_⟩
 refine rg ?_;conv=>whnf
 refine⟨fun h=>absurd (of_decide_eq_true h) qn,fun _=>?_⟩
 refine rg ?_;conv=>whnf
 refine Ag hr F67 E E E E E ?_
 (refine rg ?_;(conv=>whnf);refine aF ?_;refine rg ?_;conv=>whnf)
 refine⟨E,hi.1,hi.2,?_⟩
 rw[ha]
 conv=>whnf
 refine⟨E,hk.1,hk.2,?_⟩
 rw[hbb]
 conv=>whnf
 refine⟨qq,?_⟩
 conv=>whnf
 refine⟨fun h=>?_,fun h=>?_⟩
 ·rw[h,Bool.true_or]
  refine rg ?_;conv=>whnf
  exact Ac E (.cons .tmp .nil) E E
 rw[h,Bool.false_or]
 refine rg ?_;conv=>whnf
 refine⟨fun h=>?_,fun h=>?_⟩
 ·rw[h,Bool.true_and]
  refine B0 8 5 (Ct b) E E E ?_
  refine rg ?_;conv=>whnf
  refine Ag q F345 E E E E E ?_
  refine rg ?_;conv=>whnf
  exact Ac E (.cons .tmp .nil) E E
 ·rw[h,Bool.false_and]
  refine rg ?_;conv=>whnf
  exact Ac E (.cons .tmp .nil) E E
def Iy (n:Net) (i:Int):Int:=(nth n.domains (nth n.irbs i).domain).dev
theorem e_irb {n:Net} (h:Af n=true) {i:Nat} (hi:i<n.irbs.length):Agd n i n.irbs[i]=true:=by
 simp only[Af,Bool.and_eq_true]at h
 exact allB_iff.1 h.2 i hi
theorem Du {n:Net} (h:Af n=true) {i:Nat} (hi:i<n.irbs.length) :
  (0≤n.irbs[i].domain∧n.irbs[i].domain.toNat<n.domains.length)∧(0≤n.irbs[i].vrf∧n.irbs[i].vrf.toNat<n.vrfs.length)∧(0≤n.irbs[i].bits∧n.irbs[i].bits≤32):=by
 have:=e_irb h hi
 simp only[Agd,Aj,Bool.and_eq_true,decide_eq_true_eq]at this
 omega
theorem Hp (n:Net) (hb:Af n=true) (i:Int) (hi:0≤i∧i.toNat<n.irbs.length):Sy.Spec Tryz.prog 297 [Aq n,Aa i] [] (Aa (Iy n i)) []:=Ab Γ hm 100 F297 Tryz.ntmps297 rfl fun F hF=>by
 have hf:=(Du hb hi.2).1
 rw[Iy,An hi.2]
 obtain ⟨x,hx⟩:∃ x,n.irbs[i.toNat]'hi.2=x:=⟨_,rfl⟩
 rw[hx]at hf ⊢
 rw[An hf.2]
 obtain ⟨d,hd⟩:∃ d,n.domains[x.domain.toNat]'hf.2=d:=⟨_,rfl⟩
 rw[hd]
 conv=>whnf
 refine⟨E,hi.1,hi.2,?_⟩
 rw[hx]
 conv=>whnf
 refine⟨E,hf.1,hf.2,?_⟩
 rw[hd]
 conv=>whnf
 refine⟨qq,?_⟩
 conv=>whnf
 exact Ac E (.cons .tmp .nil) E E
def Ad3 (n:Net) (i k:Int):Bool:=Iy n i == Iy n k && Acw n (nth n.irbs k).vrf (nth n.irbs i).vrf
theorem Ab3 (n:Net) (hn:n.Fin) (hb:Af n=true) (i k:Int) (hi:0≤i∧i.toNat<n.irbs.length) (hk:0≤k∧k.toNat<n.irbs.length) :
  Sy.Spec Tryz.prog 299 [Aq n,Aa i,Aa k] [] (Ad (Ad3 n i k)) []:=Ab Γ hm 100 F299 Tryz.ntmps299 rfl fun F hF=>by
 have q1:=Hp n hb i hi
 have q2:=Hp n hb k hk
 have f1:=(Du hb hi.2).2.1
 have f2:=(Du hb hk.2).2.1
 have q3:=Abq n hn hb _ _ f2 f1
 rw[Ad3,An hi.2,An hk.2]
 obtain ⟨x,hx⟩:∃ x,n.irbs[i.toNat]'hi.2=x:=⟨_,rfl⟩
 obtain ⟨y,hy⟩:∃ y,n.irbs[k.toNat]'hk.2=y:=⟨_,rfl⟩
 rw[hx,hy]at q3
 rw[hx,hy]
 generalize Iy n i=di at *
 generalize Iy n k=dk at *
 conv=>whnf
 refine Ay q1 F297 E E E qq E ?_
 refine rd qq ?_;conv=>whnf
 refine Ay q2 F297 E E E qq E ?_
 refine rd qq ?_;conv=>whnf
 refine⟨fun h=>?_,fun h=>?_⟩
 ·rw[h,Bool.true_and]
  refine rd qq ?_;conv=>whnf
  refine⟨E,hk.1,hk.2,?_⟩
  rw[hy]
  conv=>whnf
  refine⟨E,hi.1,hi.2,?_⟩
  rw[hx]
  conv=>whnf
  refine Ay q3 F332 E E E qq E ?_
  refine rd qq ?_;conv=>whnf
  refine⟨qq,?_⟩
  conv=>whnf
  exact Ac E (.cons .tmp .nil) E E
 ·rw[h,Bool.false_and]
  refine rd qq ?_;conv=>whnf
  refine⟨qq,?_⟩
  conv=>whnf
  exact Ac E (.cons .tmp .nil) E E
abbrev Ah8 (a b:Int):SV:=.agg [Cd a,Aa b]
theorem Afq (a b:Int) (h:0≤b∧b≤32):Sy.Spec Tryz.prog 330 [Ah8 a b] [] (Ad true) []:=Ab Γ hm 100 F330 Tryz.ntmps330 rfl fun F hF=>by
 conv=>whnf
 refine⟨fun _=>?_,fun h2=>absurd (of_decide_eq_false h2) qn⟩
 refine rg ?_;conv=>whnf
 refine Ac E (.cons .tmp .nil) (congrArg Ad ?_) E
 simp;omega
def Ahz (b:Int):Int:=IntKind.u32.wrap (IntKind.u32.wrap (1 * 2 ^ (min (32-b).toNat IntKind.u32.bits))-1)
theorem Ah9 (a b:Int) (h:0≤b∧b≤32):Sy.Spec Tryz.prog 331 [Ah8 a b] [] (Cd (Ahz b)) []:=Ab Γ hm 100 F331 Tryz.ntmps331 rfl fun F hF=>by
 conv=>whnf
 refine⟨by unfold I64;omega,?_⟩
 conv=>whnf
 refine⟨by omega,?_⟩
 conv=>whnf
 exact Ac E (.cons .tmp .nil) E E
def Ala (a b x:Int):Bool:=bits .andNot .u32 (bits .xor .u32 a x) (Ahz b) == 0
theorem Aj5 (a b x:Int) (h:0≤b∧b≤32):Sy.Spec Tryz.prog 298 [Ah8 a b,Cd x] [] (Ad (Ala a b x)) []:=Ab Γ hm 100 F298 Tryz.ntmps298 rfl fun F hF=>by
 have q1:=Afq a b h
 have q2:=Ah9 a b h
 rw[Ala]
 generalize Ahz b=r at *
 conv=>whnf
 refine Ay q1 F330 E E E qq E ?_
 (refine rd qq ?_;(conv=>whnf);refine aT ?_;refine rd qq ?_;conv=>whnf)
 refine Ay q2 F331 E E E qq E ?_
 refine rd qq ?_;conv=>whnf
 refine⟨qq,?_⟩
 conv=>whnf
 exact Ac E (.cons .tmp .nil) E E
def Uq (c:Int→Int→Int) (l:List Int) (j:Nat):Int:=((l.drop 1).take j).foldl (fun m x=>if 0<c x m then x else m) (nth l 0)
theorem Wn (c:Int→Int→Int) (l:List Int) (j:Nat) (h:j+1<l.length):Uq c l (j+1)=if 0<c l[j+1] (Uq c l j) then l[j+1] else Uq c l j:=by
 have hl:j<(l.drop 1).length:=by rw[List.length_drop];omega
 rw[Uq,List.take_succ_eq_append_getElem hl,List.foldl_append]
 have e:(l.drop 1)[j]=l[j+1]:=by rw[List.getElem_drop];congr 1;omega
 simp only[List.foldl_cons,List.foldl_nil,e]
 rfl
theorem Un (c:Int→Int→Int) (l:List Int) (h:0<l.length):∀ j,j+1≤l.length→Uq c l j∈l
 | 0,_=>by
  rw[Uq,List.take_zero,List.foldl_nil,An (l:=l) (i:=0) (by simpa using h)]
  exact List.getElem_mem _
 | j+1,hj=>by
  rw[Wn c l j qn]
  split
  ·exact List.getElem_mem _
  ·exact Un c l h j qn
theorem Aip (l:List Int) (c:Int→Int→Int) (f:FuncId) (first cap:List SV) (hc:(SV.clo (.func f) first cap).inn []=true) (h0:0<l.length) (hl:Am l)
  (hf:∀ x∈l,∀ y∈l,Hj Tryz.prog f (first++[Aa x,Aa y]++cap) (Aa (c x y))) :
  Sy.Spec Tryz.prog 301 [.sl 1 Aa l,.clo (.func f) first cap] [] (Aa (Uq c l (l.length-1))) []:=Ab Γ hm 100 F301 Tryz.ntmps301 rfl fun F hF=>by
 unfold Am at hl
 have hin:∀ x y:Int,B1 [] (first++[Aa x,Aa y]++cap)=true:=fun x y=>Cn hc rfl
 have hmem:=Un c l h0
 have hsucc:=Wn c l
 have hz:Uq c l 0=l[0]:=by rw[Uq,List.take_zero,List.foldl_nil,An (l:=l) (i:=0) (by simpa using h0)];rfl
 generalize Uq c l=m at *
 conv=>whnf
 refine⟨fun h=>absurd (of_decide_eq_true h) qn,fun _=>?_⟩
 refine rg ?_;conv=>whnf
 refine⟨E,by omega,by simpa using h0,?_⟩
 conv=>whnf
 refine A1 (l.length-1) (fun j=>[(0,.sl 1 Aa l),(1,.clo (.func f) first cap),(5,Aa (m j)),(6,Aa ((j:Int)+1))]) (fun _=>[]) []
  ⟨⟨rfl,rfl,A2 _,hc,congrArg Aa hz,rfl,rfl,rfl,trivial⟩,trivial,rfl,rfl⟩ ?_
 intro j hj
 have hmj:=hmem j qn
 have hsj:=hsucc j
 refine rg ?_;conv=>whnf
 refine⟨fun h=>?_,fun h=>?_⟩
 ·have hlt:j+1<l.length:=by have:=of_decide_eq_true h;omega
  have hsj:=hsj hlt
  have hk:((j:Int)+1).toNat<l.length:=by omega
  have e1:l[((j:Int)+1).toNat]'hk=l[j+1]:=by congr 1
  obtain ⟨x,hx⟩:∃ x,l[j+1]=x:=⟨_,rfl⟩
  have hxm:x∈l:=hx ▸ List.getElem_mem hlt
  rw[hx]at e1 hsj
  refine rg ?_;conv=>whnf
  refine⟨E,by omega,hk,?_⟩
  rw[e1]
  conv=>whnf
  refine Dv (hf x hxm (m j) hmj) E E E (by simp only[hin];rfl) E E ?_
  refine rg ?_;conv=>whnf
  refine⟨fun h2=>?_,fun h2=>?_⟩
  ·rw[if_pos (of_decide_eq_true h2)]at hsj
   refine rg ?_;conv=>whnf
   refine⟨E,by omega,hk,?_⟩
   rw[e1]
   conv=>whnf
   refine⟨by unfold I64;omega,?_⟩
   conv=>whnf
   exact Ar [] qn ⟨⟨E,E,A2 _,hc,congrArg Aa hsj,E,congrArg Aa qn,E,Y⟩,Y,E,E⟩
  ·rw[if_neg (of_decide_eq_false h2)]at hsj
   refine rg ?_;conv=>whnf
   refine⟨by unfold I64;omega,?_⟩
   conv=>whnf
   exact Ar [] qn ⟨⟨E,E,A2 _,hc,congrArg Aa hsj,E,congrArg Aa qn,E,Y⟩,Y,E,E⟩
 ·have:j=l.length-1:=by have:=of_decide_eq_false h;omega
  subst this
  refine rg ?_;conv=>whnf
  exact Ac E (.cons .tmp .nil) E E
def X2 (n:Net) (irb i:Int):Int:=if (nth n.irbs i).vrf=(nth n.irbs irb).vrf then 1 else 0
abbrev InIrbs (n:Net) (i:Int):Prop:=0≤i∧i.toNat<n.irbs.length
theorem Aae (n:Net) (irb i:Int) (hi:InIrbs n i) (hk:InIrbs n irb):Sy.Spec Tryz.prog 300 [Aa i,.ref 8 (Aq n) 0,.ref 1 (Aa irb) 0] [] (Aa (X2 n irb i)) []:=Ab Γ hm 100 F300 Tryz.ntmps300 rfl fun F hF=>by
 rw[X2,An hi.2,An hk.2]
 obtain ⟨x,hx⟩:∃ x,n.irbs[i.toNat]'hi.2=x:=⟨_,rfl⟩
 obtain ⟨y,hy⟩:∃ y,n.irbs[irb.toNat]'hk.2=y:=⟨_,rfl⟩
 rw[hx,hy]
 conv=>whnf
 refine⟨E,hi.1,hi.2,?_⟩
 rw[hx]
 conv=>whnf
 refine⟨E,hk.1,hk.2,?_⟩
 rw[hy]
 conv=>whnf
 refine⟨qq,?_⟩
 conv=>whnf
 refine⟨fun h=>?_,fun h=>?_⟩
 ·rw[if_pos (by simpa using h)]
  refine rg ?_;conv=>whnf
  exact Ac E (.cons .tmp .nil) E E
 ·rw[if_neg (by simpa using h)]
  refine rg ?_;conv=>whnf
  exact Ac E (.cons .tmp .nil) E E
def Ajr (n:Net) (irb a b:Int):Int:=if (nth n.irbs a).bits≠(nth n.irbs b).bits then (nth n.irbs a).bits-(nth n.irbs b).bits else X2 n irb a-X2 n irb b
theorem Aec (n:Net) (irb i:Int):0≤X2 n irb i∧X2 n irb i≤1:=by
 unfold X2;split<;>omega
theorem Air (n:Net) (hb:Af n=true) (irb a b:Int) (hk:InIrbs n irb) (ha:InIrbs n a) (hb2:InIrbs n b) :
  Sy.Spec Tryz.prog 302 [Aa a,Aa b,.ref 8 (Aq n) 0,.ref 1 (.clo (.func 300) [] [.ref 8 (Aq n) 0,.ref 1 (Aa irb) 0]) 0] [] (Aa (Ajr n irb a b)) []:=Ab Γ hm 100 F302 Tryz.ntmps302 rfl fun F hF=>by
 have fa:=(Du hb ha.2).2.2
 have fb:=(Du hb hb2.2).2.2
 have q1:=Aae n irb a ha hk
 have q2:=Aae n irb b hb2 hk
 have l1:=Aec n irb a
 have l2:=Aec n irb b
 rw[Ajr,An ha.2,An hb2.2]
 obtain ⟨x,hx⟩:∃ x,n.irbs[a.toNat]'ha.2=x:=⟨_,rfl⟩
 obtain ⟨y,hy⟩:∃ y,n.irbs[b.toNat]'hb2.2=y:=⟨_,rfl⟩
 rw[hx]at fa ⊢
 rw[hy]at fb ⊢
 generalize X2 n irb a=oa at *
 generalize X2 n irb b=ob at *
 conv=>whnf
 refine⟨E,ha.1,ha.2,?_⟩
 rw[hx]
 conv=>whnf
 refine⟨E,hb2.1,hb2.2,?_⟩
 rw[hy]
 conv=>whnf
 refine⟨qq,?_⟩
 conv=>whnf
 refine⟨fun h=>?_,fun h=>?_⟩
 ·rw[if_pos (by simpa using h)]
  refine rg ?_;conv=>whnf
  refine⟨by unfold I64;omega,?_⟩
  conv=>whnf
  exact Ac E (.cons .tmp .nil) E E
 ·rw[if_neg (by simpa using h)]
  refine rg ?_;conv=>whnf
  refine Adl ⟨⟨_,_,F300⟩,q1⟩ E E E E qq E ?_
  refine rd qq ?_;conv=>whnf
  refine Adl ⟨⟨_,_,F300⟩,q2⟩ E E E E qq E ?_
  refine rd qq ?_;conv=>whnf
  refine⟨by unfold I64;omega,?_⟩
  conv=>whnf
  refine⟨qq,?_⟩
  conv=>whnf
  exact Ac E (.cons .tmp .nil) E E
def Qo (n:Net) (irb dst:Int) (i:Nat):Bool:=Iy n i == Iy n irb && (nth n.irbs i).addr == dst
def Vp (n:Net) (irb dst:Int) (i:Nat):Bool:=Ala (nth n.irbs i).addr (nth n.irbs i).bits dst && Ad3 n irb i
def L3 (n:Net) (irb dst:Int):List Int:=Ib (Vp n irb dst) n.irbs.length
def lookT (n:Net) (irb dst:Int):Int × Bool :=
 if (List.range n.irbs.length).any (Qo n irb dst)=true then (0,false)
 else if L3 n irb dst=[] then (0,false) else (Uq (Ajr n irb) (L3 n irb dst) ((L3 n irb dst).length-1),true)
theorem Ak3 (n:Net) (hn:n.Fin) (hb:Af n=true) (irb dst:Int) (hk:InIrbs n irb):Sy.Spec Tryz.prog 247 [Aq n,Aa irb,Cd dst] [] (.tup [Aa (lookT n irb dst).1,Ad (lookT n irb dst).2]) []:=Ab Γ hm 100 F247 Tryz.ntmps247 rfl fun F hF=>by
 have hlk:=lookT.eq_1 n irb dst
 generalize lookT n irb dst=r at *
 have hsi:=hn.irbs
 unfold Am at hsi
 have qk:=Hp n hb irb hk
 conv=>whnf
 refine B0 3 8 (Aq n) E E E ?_
 refine B0 4 1 (Aa irb) E E E ?_
 refine Ca 8 1000 1 Aa E E ?_
 refine Bc n.irbs.length (fun j=>∀ i,i<j→Qo n irb dst i=false) (fun j=>[(2,Cd dst),(3,.ref 8 (Aq n) 0),(4,.ref 1 (Aa irb) 0),(8,.osl 1000),(13,.sl 5 Dn n.irbs),(14,Aa n.irbs.length),(15,Aa j)]) (fun j=>[(1000,.row 1 Aa (Ib (Vp n irb dst) j))]) [] (fun i hi=>absurd hi qn)
  ⟨⟨rfl,rfl,rfl,rfl,rfl,rfl,rfl,rfl,rfl,rfl,rfl,rfl,rfl,rfl,trivial⟩,⟨.inl rfl,rfl,trivial⟩,rfl,rfl⟩ ?_
 intro j hj hI
 refine rg ?_;conv=>whnf
 refine⟨fun h=>?_,fun h=>?_⟩
 ·have hlt:j<n.irbs.length:=by simpa using h
  have hij:InIrbs n (j:Int):=⟨by omega,by simpa using hlt⟩
  have qj:=Hp n hb j hij
  have hsucc:=U6 (Vp n irb dst) j
  have hfl:=Dy (Vp n irb dst) j
  have hta:Qo n irb dst j=(Iy n j == Iy n irb && (nth n.irbs j).addr == dst):=rfl
  have hwa:Vp n irb dst j=(Ala (nth n.irbs j).addr (nth n.irbs j).bits dst && Ad3 n irb j):=rfl
  have enj:nth n.irbs (j:Int)=n.irbs[j]:=An (l:=n.irbs) (i:=(j:Int)) (by simpa using hlt)
  have hf:=(Du hb hlt).2.2
  have e1:n.irbs[(j:Int).toNat]'qn=n.irbs[j]:=rfl
  rw[enj]at hta hwa
  obtain ⟨x,hx⟩:∃ x,n.irbs[j]=x:=⟨_,rfl⟩
  rw[hx]at e1 hta hwa hf
  have q1:=Aj5 x.addr x.bits dst hf
  have q2:=Ab3 n hn hb irb j hk hij
  rw[hwa]at hsucc
  obtain ⟨u,hu⟩:∃ u,Ib (Vp n irb dst) j=u:=⟨_,rfl⟩
  rw[hu]at hsucc hfl ⊢
  refine rg ?_;conv=>whnf
  refine⟨E,by omega,by omega,?_⟩
  rw[e1]
  conv=>whnf
  refine Ay qj F297 E E E qq E ?_
  refine rd qq ?_;conv=>whnf
  refine Ay qk F297 E E E qq E ?_
  refine rd qq ?_;conv=>whnf
  refine⟨fun h2=>?_,fun h2=>?_⟩
  ·rw[h2,Bool.true_and]at hta
   refine rd qq ?_;conv=>whnf
   refine⟨qq,?_⟩
   conv=>whnf
   refine⟨fun h3=>?_,fun h3=>?_⟩
   ·have:(List.range n.irbs.length).any (Qo n irb dst)=true:=List.any_eq_true.2 ⟨j,by simpa using hlt,hta.trans h3⟩
    rw[if_pos this]at hlk
    subst hlk
    refine rg ?_;conv=>whnf
    exact Ac E (.cons .tmp (.cons .tmp .nil)) E E
   ·have hnt:=hta.trans h3
    refine rg ?_;conv=>whnf
    refine Ag q1 F298 E E E E E ?_
    refine rg ?_;conv=>whnf
    refine⟨fun h4=>?_,fun h4=>?_⟩
    ·rw[h4,Bool.true_and]at hsucc
     refine rg ?_;conv=>whnf
     refine Ag q2 F299 E E E E E ?_
     refine rg ?_;conv=>whnf
     refine⟨fun h5=>?_,fun h5=>?_⟩
     ·rw[if_pos h5]at hsucc
      refine rg ?_;conv=>whnf
      refine Ah (Al Γ.toTy 47 E E E E E (.row E) (.lit (e:=Aa) (l:=[(j:Int)]) E E) qy (by simp;omega) (by simp;omega)) E E ?_
      refine rg ?_;conv=>whnf
      refine⟨by unfold I64;omega,?_⟩
      conv=>whnf
      exact Ba [(1000,47)] hI hlt (fun i hi=>if e:i=j then (by rw[e];exact hnt) else hI i qn) ⟨⟨E,E,E,E,E,E,E,E,E,E,E,E,E,E,Y⟩,⟨.inl (congrArg (Ob.row 1 Aa) hsucc),E,Y⟩,E,E⟩
     ·rw[if_neg (by simp[h5])]at hsucc
      refine rg ?_;conv=>whnf
      refine⟨by unfold I64;omega,?_⟩
      conv=>whnf
      exact Ba [] hI hlt (fun i hi=>if e:i=j then (by rw[e];exact hnt) else hI i qn) ⟨⟨E,E,E,E,E,E,E,E,E,E,E,E,E,E,Y⟩,⟨.inl (congrArg (Ob.row 1 Aa) hsucc),E,Y⟩,E,E⟩
    ·rw[if_neg (by simp[h4])]at hsucc
     (refine rg ?_;(conv=>whnf);refine aF ?_;refine rg ?_;conv=>whnf)
     refine⟨by unfold I64;omega,?_⟩
     conv=>whnf
     exact Ba [] hI hlt (fun i hi=>if e:i=j then (by rw[e];exact hnt) else hI i qn) ⟨⟨E,E,E,E,E,E,E,E,E,E,E,E,E,E,Y⟩,⟨.inl (congrArg (Ob.row 1 Aa) hsucc),E,Y⟩,E,E⟩
  ·have hnt:Qo n irb dst j=false:=by rw[hta,h2,Bool.false_and]
   refine rd qq ?_;conv=>whnf
   refine⟨qq,?_⟩
   ((conv=>whnf);refine aF ?_;refine rg ?_;conv=>whnf)
   refine Ag q1 F298 E E E E E ?_
   refine rg ?_;conv=>whnf
   refine⟨fun h4=>?_,fun h4=>?_⟩
   ·rw[h4,Bool.true_and]at hsucc
    refine rg ?_;conv=>whnf
    refine Ag q2 F299 E E E E E ?_
    refine rg ?_;conv=>whnf
    refine⟨fun h5=>?_,fun h5=>?_⟩
    ·rw[if_pos h5]at hsucc
     refine rg ?_;conv=>whnf
     refine Ah (Al Γ.toTy 47 E E E E E (.row E) (.lit (e:=Aa) (l:=[(j:Int)]) E E) qy (by simp;omega) (by simp;omega)) E E ?_
     refine rg ?_;conv=>whnf
     refine⟨by unfold I64;omega,?_⟩
     conv=>whnf
     exact Ba [(1000,47)] hI hlt (fun i hi=>if e:i=j then (by rw[e];exact hnt) else hI i qn) ⟨⟨E,E,E,E,E,E,E,E,E,E,E,E,E,E,Y⟩,⟨.inl (congrArg (Ob.row 1 Aa) hsucc),E,Y⟩,E,E⟩
    ·rw[if_neg (by simp[h5])]at hsucc
     refine rg ?_;conv=>whnf
     refine⟨by unfold I64;omega,?_⟩
     conv=>whnf
     exact Ba [] hI hlt (fun i hi=>if e:i=j then (by rw[e];exact hnt) else hI i qn) ⟨⟨E,E,E,E,E,E,E,E,E,E,E,E,E,E,Y⟩,⟨.inl (congrArg (Ob.row 1 Aa) hsucc),E,Y⟩,E,E⟩
   ·rw[if_neg (by simp[h4])]at hsucc
    (refine rg ?_;(conv=>whnf);refine aF ?_;refine rg ?_;conv=>whnf)
    refine⟨by unfold I64;omega,?_⟩
    conv=>whnf
    exact Ba [] hI hlt (fun i hi=>if e:i=j then (by rw[e];exact hnt) else hI i qn) ⟨⟨E,E,E,E,E,E,E,E,E,E,E,E,E,E,Y⟩,⟨.inl (congrArg (Ob.row 1 Aa) hsucc),E,Y⟩,E,E⟩
 ·have:j=n.irbs.length:=by have:=of_decide_eq_false h;omega
  subst this
  have hno:¬ (List.range n.irbs.length).any (Qo n irb dst)=true:=fun h=>by
   obtain ⟨i,h1,h2⟩:=List.any_eq_true.1 h
   rw[hI i (by simpa using h1)]at h2
   cases h2
  rw[if_neg hno]at hlk
  have hin:∀ y∈L3 n irb dst,InIrbs n y:=fun y hy=>by
   have:=(Q6 (p:=Vp n irb dst) (j:=n.irbs.length)).1 hy
   exact⟨this.1,by omega⟩
  have hwl:=Dy (Vp n irb dst) n.irbs.length
  have hwe:Ib (Vp n irb dst) n.irbs.length=L3 n irb dst:=rfl
  rw[hwe]at hwl ⊢
  have q:∀ h0:0<(L3 n irb dst).length,_:=fun h0=>Aip (L3 n irb dst) (Ajr n irb) 302 [] [.ref 8 (Aq n) 0,.ref 1 (.clo (.func 300) [] [.ref 8 (Aq n) 0,.ref 1 (Aa irb) 0]) 0] rfl h0 (by unfold Am;omega) (fun y hy z hz=>⟨⟨_,_,F302⟩,Air n hb irb y z hk (hin y hy) (hin z hz)⟩)
  generalize L3 n irb dst=l at *
  refine At 1000 E ?_
  refine rg ?_;conv=>whnf
  refine⟨fun h3=>?_,fun h3=>?_⟩
  ·have h4:l=[]:=by simpa using h3
   rw[if_pos h4]at hlk
   subst hlk
   refine rg ?_;conv=>whnf
   exact Ac E (.cons .tmp (.cons .tmp .nil)) E E
  ·have h4:¬ l=[]:=by simpa using h3
   rw[if_neg h4]at hlk
   have q:=q (List.length_pos_iff.2 h4)
   subst hlk
   refine rg ?_;conv=>whnf
   refine B0 11 1 (.clo (.func 300) [] [.ref 8 (Aq n) 0,.ref 1 (Aa irb) 0]) E E E ?_
   refine rg ?_;conv=>whnf
   refine Ag q F301 E E E E E ?_
   refine rg ?_;conv=>whnf
   exact Ac E (.cons .tmp (.cons .tmp .nil)) E E
theorem Aad {n:Net} {irb dst:Int} (h:(lookT n irb dst).2=true):InIrbs n (lookT n irb dst).1:=by
 unfold lookT at h ⊢
 split at h
 ·cases h
 rename_i h1
 rw[if_neg h1]
 split at h
 ·cases h
 rename_i h2
 rw[if_neg h2]
 have hm:=Un (Ajr n irb) (L3 n irb dst) (List.length_pos_iff.2 h2) ((L3 n irb dst).length-1) (by have:=List.length_pos_iff.2 h2;omega)
 have:=(Q6 (p:=Vp n irb dst) (j:=n.irbs.length)).1 hm
 exact⟨this.1,by omega⟩
end Go.Sy.YtmelpejjondedaaGreat
namespace Go.Sy
def Abl (C:Cx) {β:Type} (I:β→Prop) (L:β→List (Nat × SV)) (O:β→Obs) (μ:β→Nat) (x:β) (a:Act) (w:World):Prop :=
 ∃ x':{y:β // I y},∃ κ,μ x'.1<μ x∧St C.F C.n (mkS (L x'.1) (O x'.1)) κ a w
theorem Alp {C:Cx} {k:List KI} {s:SS} {body:Code} {β:Type} (I:β→Prop) (L:β→List (Nat × SV)) (O:β→Obs) (μ:β→Nat) (x₀:β) (ρ:List (Nat × Nat)) (h0:I x₀) (hsub:Sub C s ρ (L x₀) (O x₀))
  (h:∀ x,I x→G C (.code body::.inv (Abl C I L O μ x)::k) (mkS (L x) (O x))):G C (.code (.loop body)::k) s :=
 Lb (α:={y:β // I y}) (fun x=>L x.1) (fun x=>O x.1) (fun x=>μ x.1) ⟨x₀,h0⟩ ρ hsub (fun x=>h x.1 x.2)
theorem Aj6 {C:Cx} {k:List KI} {s:SS} {β:Type} {I:β→Prop} {L:β→List (Nat × SV)} {O:β→Obs} {μ:β→Nat} {x:β} (x':β) (ρ:List (Nat × Nat)) (h':I x') (hμ:μ x'<μ x) (hsub:Sub C s ρ (L x') (O x')) :
  G C (.inv (Abl C I L O μ x)::k) s:=fun _ _ _ hs=>⟨⟨x',h'⟩,_,hμ,hsub.st hs⟩
theorem Aj7 {C:Cx} {kk:List KI} {s:SS} (k d:Nat) {sz:Nat} {α:Type} {e:α→SV} {l:List α} (h:s.h k=.row sz e l) (hd:s.h d=.fresh) (hkd:k≠d)
  (hg:G C kk ⟨fun i=>frz k (.osl d) (s.σ i),upd (fun j=>bif Nat.beq j k then .non else Agj k (.osl d) (s.h j)) d (.row sz e l)⟩):G C kk s:=fun κ a w hs=>by
 have hob:=hs.obj k
 rw[h]at hob
 have hnew:κ d=.new:=by have:=hs.obj d;rwa [hd]at this
 have fin:∀ κ':Ka,(∀ j,j≠k→j≠d→κ' j=κ j)→Step (fun j=>j=k∨j=d) κ w κ' w→Inv κ' w→(∀ v,Rd κ w (.osl k) v→Rd κ' w (.osl d) v)→ObOK κ' w d (.row sz e l)→den C.P C.B kk .normal a w:=by
  intro κ' hne st inv hv ho
  refine hg κ' a w ⟨hs.defers,hs.size,inv,hs.ctx.step inv st,fun j=>Yg st hv _ _ (hs.slot j),fun j=>?_⟩
  show ObOK κ' w j (upd (fun j=>bif Nat.beq j k then .non else Agj k (.osl d) (s.h j)) d (.row sz e l) j)
  by_cases hj:j=d
  ·subst hj;rw[A6];exact ho
  ·rw[Bq _ _ hj]
   by_cases hj2:j=k
   ·subst hj2;rw[show Nat.beq j j=true from Nat.beq_refl j];trivial
   ·rw[show Nat.beq j k=false from by cases hb:Nat.beq j k with | false=>rfl | true=>exact absurd (Nat.eq_of_beq_eq_true hb) hj2]
    have hb:=ObOK.step st (fun e=>e.elim hj2 hj) _ (hs.obj j)
    have h0:=hs.obj j
    show ObOK κ' w j (Agj k (.osl d) (s.h j))
    cases hh:s.h j with
    | box m =>
     rw[hh]at h0 hb
     obtain ⟨b,cs,T,fr,e1,e2,e3,e4,e5⟩:=h0
     exact⟨b,cs,T,fr,(hne j hj2 hj).trans e1,e2,e3,e4,J2 st hv m cs e5⟩
    | fresh=>rw[hh]at hb;exact hb
    | non=>rw[hh]at hb;exact hb
    | row sz' e' l'=>rw[hh]at hb;exact hb
    | lit sz' svs=>rw[hh]at hb;exact hb
    | glob sz' x' g'=>rw[hh]at hb;exact hb
    | pin b' n' cap' sz' e' l'=>rw[hh]at hb;exact hb
    | dat v' sz' e' l'=>rw[hh]at hb;exact hb
 rcases hob with ⟨h1,rfl⟩ | ⟨b,cap,cs,T,fr,e1,e2,e3,e4,e5,e6⟩
 ·have st:=Eo (Hd hs.inv (some k)) (by show Ci κ k .dead d=.new;rw[Bi _ _ (Ne.symm hkd)];exact hnew) (e:=.nil) (Grew.refl w) (fun b hb=>by cases hb)
  refine fin _ (fun j h1 h2=>by rw[Bi _ _ h2];exact Bi _ _ h1) (((Eh (some k)).weaken (fun j hj=>.inl (Option.some.inj hj).symm)).trans (st.1.weaken (fun j hj=>.inr hj))) st.2 (fun v hv=>?_) (.inl ⟨Ap _ _ _,E⟩)
  simp only[Rd,h1]at hv
  simp[Rd,Ap,hv]
 ·obtain ⟨st,inv⟩:=I1 (n':=l.length) (w':=w) hs.inv e1 hnew rfl rfl rfl rfl (fun _ _=>rfl)
  refine fin _ (fun j h1 h2=>by rw[Bi _ _ h2];exact Bi _ _ h1) st inv (fun v hv=>?_) (.inr ⟨b,cap,cs,T,fr,Ap _ _ _,e2,e3,e4,e5,fun i x hx=>?_⟩)
  ·simp only[Rd,e1]at hv
   simp[Rd,Ap,hv]
  ·obtain ⟨q1,u,q2,q3⟩:=e6 i x hx
   exact⟨q1,u,RdD.keep st.keeps _ _ q2,q3⟩
theorem Eg {C:Cx} {k:List KI} {s:SS} (d:Nat) {sz:Nat} {α:Type} (e:α→SV) (l:List α) {svs:List SV} (h:s.h d=.lit sz svs) (hl:l.map e=svs) (hg:G C k ⟨s.σ,upd s.h d (.row sz e l)⟩):G C k s:=fun κ a w hs=>by
 refine hg κ a w ⟨hs.defers,hs.size,hs.inv,hs.ctx,hs.slot,fun j=>?_⟩
 show ObOK κ w j (upd s.h d (.row sz e l) j)
 by_cases hj:j=d
 ·subst hj
  rw[A6]
  have hob:=hs.obj j
  rw[h]at hob
  have hlen:l.length=svs.length:=by rw[← hl,List.length_map]
  obtain ⟨b,cap,cs,T,fr,e1,e2,e3,e4,e5,e6⟩:=hob
  exact .inr ⟨b,cap,cs,T,fr,by rw[hlen];exact e1,e2,e3,e4,by omega,fun i x hx=>by rw[hlen];exact e6 i x (I3 hl i x hx)⟩
 ·rw[Bq _ _ hj];exact hs.obj j
end Go.Sy
namespace Go.Sy.YtmelpejjondedaaGreat
open Go.Proofs
attribute [local irreducible] Go.Sy.G Go.Sy.DR
set_option maxRecDepth 20000
set_option maxHeartbeats 4000000
theorem Lt {α:Type} {p:α→Bool} {l:List α} {j:Nat} (hI:Em (fun _ x=>!(p x)) l j) (hj:l.length≤j):l.any p=false:=by
 rw[List.any_eq_false]
 intro x hx
 obtain ⟨i,hi,rfl⟩:=List.mem_iff_getElem.1 hx
 simpa using hI i hi qn
theorem Qj {α:Type} {p:α→Bool} {l:List α} {j:Nat} (hj:j<l.length) (h:p l[j]=true):l.any p=true:=List.any_eq_true.2 ⟨_,List.getElem_mem hj,h⟩
theorem Wu (a:Int):Sy.Spec Tryz.prog 283 [Aa a] [] (Ad false) []:=Ab Γ hm 100 F283 Tryz.ntmps283 rfl fun F hF=>by
 conv=>whnf
 exact Ac E (.cons .tmp .nil) (congrArg Ad qy) E
theorem Wt (a:Int):Sy.Spec Tryz.prog 284 [A7 a] [] (Ad false) []:=Ab Γ hm 100 F284 Tryz.ntmps284 rfl fun F hF=>by
 conv=>whnf
 exact Ac E (.cons .tmp .nil) (congrArg Ad qy) E
def cmpI (a b:Int):Int:=if a<b then -1 else if a>b then 1 else 0
theorem Ek (a b:Int):Sy.Spec Tryz.prog 231 [Aa a,Aa b] [] (Aa (cmpI a b)) []:=Ab Γ hm 100 F231 Tryz.ntmps231 rfl fun F hF=>by
 conv=>whnf
 (repeat' (first | (refine⟨fun h=>?_,fun h=>?_⟩<;>(repeat (first | simp only[decide_eq_true_eq]at h | simp only[decide_eq_false_iff_not]at h))<;>((refine rg ?_);(conv=>whnf))) | (refine Ac rfl (.cons .tmp .nil) ?_ rfl) | (refine Ag (Wu a) F283 rfl rfl rfl rfl rfl ?_;((refine rg ?_);(conv=>whnf))) | (refine Ag (Wu b) F283 rfl rfl rfl rfl rfl ?_;((refine rg ?_);(conv=>whnf);repeat((refine aF ?_);(refine rg ?_);(conv=>whnf))))))
 all_goals (refine congrArg Aa ?_;clear hF;grind [cmpI])
theorem Aba (a b:Int):Sy.Spec Tryz.prog 232 [A7 a,A7 b] [] (Aa (cmpI a b)) []:=Ab Γ hm 100 F232 Tryz.ntmps232 rfl fun F hF=>by
 conv=>whnf
 (repeat' (first | (refine⟨fun h=>?_,fun h=>?_⟩<;>(repeat (first | simp only[decide_eq_true_eq]at h | simp only[decide_eq_false_iff_not]at h))<;>((refine rg ?_);(conv=>whnf))) | (refine Ac rfl (.cons .tmp .nil) ?_ rfl) | (refine Ag (Wt a) F284 rfl rfl rfl rfl rfl ?_;((refine rg ?_);(conv=>whnf))) | (refine Ag (Wt b) F284 rfl rfl rfl rfl rfl ?_;((refine rg ?_);(conv=>whnf);repeat((refine aF ?_);(refine rg ?_);(conv=>whnf))))))
 all_goals (refine congrArg Aa ?_;clear hF;grind [cmpI])
def orI:List Int→Int
 | []=>0
 | x::l=>if x=0 then orI l else x
theorem Uk:∀ {l:List Int} {j:Nat},(∀ i (h:i<l.length),i<j→l[i]=0)→orI l=orI (l.drop j)
 | l,0,_=>rfl
 | [],j+1,_=>rfl
 | x::l,j+1,h=>by
  have h0:=h 0 qy qn
  simp only[List.getElem_cons_zero]at h0
  rw[orI,if_pos h0,List.drop_succ_cons]
  exact Uk fun i hi hij=>h (i+1) (by simp;omega) qn
theorem orS (l:List Int) (hl:Am l):Sy.Spec Tryz.prog 230 [.sl 1 Aa l] [] (Aa (orI l)) []:=Ab Γ hm 100 F230 Tryz.ntmps230 rfl fun F hF=>by
 unfold Am at hl
 conv=>whnf
 refine Bc l.length (fun j=>∀ i (h:i<l.length),i<j→l[i]=0) (fun j=>[(3,Aa 0),(6,.sl 1 Aa l),(7,Aa l.length),(8,Aa j)]) (fun _=>[]) [] (fun i h hj=>absurd hj qn) ⟨⟨E,E,E,E,E,E,E,E,Y⟩,Y,E,E⟩ ?_
 intro j hj hI
 refine rg ?_;conv=>whnf
 (repeat' (first | (refine⟨fun h=>?_,fun h=>?_⟩<;>(repeat (first | simp only[decide_eq_true_eq]at h | simp only[decide_eq_false_iff_not]at h | simp only[bne_iff_ne]at h | simp only[bne_eq_false_iff_eq]at h))<;>((refine rg ?_);(conv=>whnf))) | (refine Ac rfl (.cons .tmp .nil) ?_ rfl) | (refine⟨qq,?_⟩;((conv=>whnf))) | (refine⟨by (omega),by (omega),?_⟩;((conv=>whnf))) | (refine⟨by (unfold I64;omega),?_⟩;((conv=>whnf))) | refine Ba [] hI qn ?_ ⟨⟨rfl,rfl,rfl,rfl,rfl,rfl,rfl,rfl,trivial⟩,trivial,rfl,rfl⟩))
 all_goals try (refine congrArg Aa ?_)
 ·have hj2:j<l.length:=by omega
  rw[Uk hI,List.drop_eq_getElem_cons hj2,orI,if_neg (by simpa using h)]
  rfl
 ·intro i hi hij
  rcases Nat.lt_or_ge i j with h1 | h1
  ·exact hI i hi h1
  ·have:i=j:=by omega
   subst this
   simpa using h
 ·rw[Uk hI,List.drop_of_length_le qn]
  rfl
theorem Jw (a b:Int) (l:List Int):decide (orI (cmpI a b::l)<0)=if a≠b then decide (a<b) else decide (orI l<0):=by
 rw[orI,cmpI]
 by_cases h1:a<b
 ·simp[h1,show a≠b by omega]
 ·by_cases h2:a>b
  ·simp[h1,h2,show a≠b by omega]
  ·simp[show a=b by omega]
structure Vec where
 (root cost bridge port own:Int)
def Kc (v:Vec):SV:=.agg [Aa v.root,Aa v.cost,Aa v.bridge,Aa v.port,Aa v.own]
def Wp (a b:Vec):Bool :=
 if a.root≠b.root then decide (a.root<b.root) else if a.cost≠b.cost then decide (a.cost<b.cost) else if a.bridge≠b.bridge then decide (a.bridge<b.bridge) else
  if a.port≠b.port then decide (a.port<b.port) else decide (a.own<b.own)
theorem lessS (a b:Vec):Sy.Spec Tryz.prog 287 [Kc a,Kc b] [] (Ad (Wp a b)) []:=Ab Γ hm 100 F287 Tryz.ntmps287 rfl fun F hF=>by
 conv=>whnf
 (repeat' (first | (refine⟨fun h=>?_,fun h=>?_⟩<;>(repeat (first | simp only[beq_iff_eq]at h | simp only[beq_eq_false_iff_ne]at h | simp only[Bool.and_eq_true]at h | simp only[Bool.and_eq_false_iff]at h))<;>((refine rg ?_);(conv=>whnf))) | (refine Ac rfl (.cons .tmp .nil) ?_ rfl) | (refine⟨qq,?_⟩;((conv=>whnf))) | (refine Ay (Ek a.root b.root) F231 rfl rfl rfl qq rfl ?_;((refine rd qq ?_);(conv=>whnf))) | (refine Ay (Ek a.cost b.cost) F231 rfl rfl rfl qq rfl ?_;((refine rd qq ?_);(conv=>whnf))) | (refine Ay (Ek a.bridge b.bridge) F231 rfl rfl rfl qq rfl ?_;((refine rd qq ?_);(conv=>whnf))) | (refine Ay (Ek a.port b.port) F231 rfl rfl rfl qq rfl ?_;((refine rd qq ?_);(conv=>whnf))) | (refine Ay (Ek a.own b.own) F231 rfl rfl rfl qq rfl ?_;((refine rd qq ?_);(conv=>whnf))) | (refine Ajs [33] (orS [cmpI a.root b.root,cmpI a.cost b.cost,cmpI a.bridge b.bridge,cmpI a.port b.port,cmpI a.own b.own] (by simp[Am])) F230 rfl (.cons (.lit rfl rfl rfl) .nil) rfl qq rfl ?_;((refine rd qq ?_);(conv=>whnf)))))
 all_goals (refine congrArg Ad ?_;clear hF)
 ·grind [Wp]
 ·rw[Jw,Jw,Jw,Jw,Jw,Wp]
  by_cases h1:a.own=b.own
  ·simp[h1,orI]
  ·simp[h1]
def Ks (lt:Int→Int→Bool) (x:Int):List Int→List Int
 | []=>[x]
 | y::r=>if lt x y then y::Ks lt x r else x::y::r
def Ds (lt:Int→Int→Bool) (l:List Int):List Int:=l.foldl (fun r x=>Ks lt x r) []
def Md (lt:Int→Int→Bool) (l:List Int):List Int:=(Ds lt l).reverse
theorem Q2 (lt:Int→Int→Bool) (x:Int):∀ r,(Ks lt x r).Perm (x::r)
 | []=>.refl _
 | y::r=>by
  rw[Ks]
  split
  ·exact((Q2 lt x r).cons y).trans (.swap x y r)
  ·exact .refl _
theorem J9 (lt:Int→Int→Bool):∀ (l r:List Int),(l.foldl (fun r x=>Ks lt x r) r).Perm (l++r)
 | [],r=>.refl _
 | x::l,r=>by
  rw[List.foldl_cons]
  refine(J9 lt l _).trans ?_
  refine((Q2 lt x r).append_left l).trans ?_
  simp
theorem Io (lt:Int→Int→Bool) (l:List Int):(Ds lt l).Perm l:=by
 have:=J9 lt l []
 simpa [Ds] using this
theorem Mt (lt:Int→Int→Bool) (l:List Int):(Md lt l).Perm l:=(List.reverse_perm _).trans (Io lt l)
theorem Aam (lt:Int→Int→Bool) (l:List Int) (i:Nat) (h:i<l.length):Ds lt (l.take (i+1))=Ks lt l[i] (Ds lt (l.take i)):=by
 rw[List.take_succ_eq_append_getElem h,Ds,List.foldl_append]
 rfl
mutual
theorem Oz {K:List Nat}:∀ x:SV,x.inn []=true→x.inn K=true
 | .ptr _ _,h=>by simp[SV.inn,I8]at h
 | .rpt _ _ _ _,h=>by simp[SV.inn,I8]at h
 | .osl _,h=>by simp[SV.inn,I8]at h
 | .agg l,h=>by simp only[SV.inn]at h ⊢;exact Kt l h
 | .tup l,h=>by simp only[SV.inn]at h ⊢;exact Kt l h
 | .ifc _ x,h=>by simp only[SV.inn]at h ⊢;exact Oz x h
 | .clo _ f l,h=>by simp only[SV.inn,Bool.and_eq_true]at h ⊢;exact⟨Kt f h.1,Kt l h.2⟩
 | .top,_=>rfl
 | .val _,_=>rfl
 | .sl _ _ _,_=>rfl
 | .ref _ _ _,_=>rfl
theorem Kt {K:List Nat}:∀ l:List SV,B1 [] l=true→B1 K l=true
 | [],_=>rfl
 | x::l,h=>by simp only[B1,Bool.and_eq_true]at h ⊢;exact⟨Oz x h.1,Kt l h.2⟩
end
theorem Uy (l:List Int) (c:Int→Int→Int) (Q:Int→Prop) (f:FuncId) (first cap:List SV) (hc:(SV.clo (.func f) first cap).inn []=true) (hf:∀ a b,Q a→Q b→Hj Tryz.prog f (first++[Aa a,Aa b]++cap) (Aa (c a b))) (hQ:∀ a∈l,Q a) (hl:Am l) :
  Sy.Spec Tryz.prog 327 [.osl 0,Aa 0,Aa l.length,.clo (.func f) first cap] [(0,.row 1 Aa l)] (.tup []) [(0,.row 1 Aa (Md (fun a b=>decide (c a b<0)) l))]:=Ab Γ hm 100 F327 Tryz.ntmps327 rfl fun F hF=>by
 unfold Am at hl
 have hin:∀ x y:Int,B1 [] (first++[Aa x,Aa y]++cap)=true:=fun x y=>Cn hc rfl
 have hc':(SV.clo (.func f) first cap).inn [0]=true:=Oz _ hc
 generalize hlt:(fun a b=>decide (c a b<0))=lt
 conv=>whnf
 (repeat' (refine⟨by (unfold I64;omega),?_⟩;((conv=>whnf))))
 refine Bc l.length (fun _=>True) (fun j=>[(0,.osl 0),(1,Aa 0),(2,Aa l.length),(3,.clo (.func f) first cap),(8,Aa ((j:Int)+1))]) (fun j=>[(0,.row 1 Aa ((Ds lt (l.take (j+1))).reverse++l.drop (j+1)))]) [] Y ⟨⟨E,E,E,E,E,E,A2 _,hc',E,E,Y⟩,⟨.inl (congrArg (Ob.row 1 Aa) ?_),E,Y⟩,E,E⟩ ?_
 ·cases l with
  | nil=>rfl
  | cons a l=>simp[Ds,Ks]
 intro j hj _
 refine rg ?_;conv=>whnf
 refine⟨fun h=>?_,fun h=>?_⟩
 ·have hjl:j+1<l.length:=by have:=of_decide_eq_true h;omega
  have hdrop:l.drop (j+1)=l[j+1]::l.drop (j+1+1):=List.drop_eq_getElem_cons hjl
  have htake:=Aam lt l (j+1) hjl
  have hr:(Ds lt (l.take (j+1))).length=j+1:=by rw[(Io lt _).length_eq];simp;omega
  have hQx:Q l[j+1]:=hQ _ (List.getElem_mem hjl)
  have hQr:∀ z∈Ds lt (l.take (j+1)),Q z:=fun z hz=>hQ z (List.mem_of_mem_take ((Io lt _).mem_iff.1 hz))
  rw[hdrop]
  generalize l[j+1]=x at htake hQx
  generalize Ds lt (l.take (j+1))=r at htake hr hQr
  generalize hR:l.drop (j+1+1)=R at *
  refine rg ?_;conv=>whnf
  refine Lb (α:={p:List Int × List Int // Ks lt x r=p.2.reverse++Ks lt x p.1∧p.1.length+p.2.length=j+1∧∀ z∈p.1,Q z}) (fun p=>[(0,.osl 0),(1,Aa 0),(2,Aa l.length),(3,.clo (.func f) first cap),(8,Aa ((j:Int)+1)),(9,Aa p.1.1.length)]) (fun p=>[(0,.row 1 Aa (p.1.1.reverse++x::(p.1.2++R)))]) (fun p=>p.1.1.length) ⟨(r,[]),by simp,by simpa using hr,hQr⟩ []
   ⟨⟨rfl,rfl,rfl,rfl,rfl,rfl,A2 _,hc',rfl,rfl,congrArg Aa (by rw[hr];omega),rfl,trivial⟩,⟨.inl rfl,rfl,trivial⟩,rfl,rfl⟩ ?_
  rintro ⟨⟨A,B⟩,hp1,hp2,hp3⟩
  simp only at hp1 hp2 hp3
  dsimp only
  cases A with
  | nil =>
   simp only[Ks]at hp1
   (refine rg ?_;(conv=>whnf);refine aF ?_;refine rd qq ?_;conv=>whnf)
   refine⟨qq,?_⟩
   ((conv=>whnf);refine aF ?_;refine rg ?_;conv=>whnf)
   refine⟨by unfold I64;omega,?_⟩
   conv=>whnf
   refine Ba [] Y qn Y ⟨⟨E,E,E,E,E,E,A2 _,hc',congrArg Aa qn,E,Y⟩,⟨.inl (congrArg (Ob.row 1 Aa) ?_),E,Y⟩,E,E⟩
   show (Ds lt (l.take (j+1+1))).reverse++l.drop (j+1+1)=[].reverse++x::(B++R)
   rw[htake,hp1,hR]
   simp
  | cons y A =>
   have hQy:=hp3 y qy
   refine rg ?_;conv=>whnf
   refine⟨fun _=>?_,fun h=>absurd (of_decide_eq_false h) qy⟩
   refine rd qq ?_;conv=>whnf
   have e1:((y::A).reverse++x::(B++R))[(((y::A).length:Nat):Int).toNat]'qy=x:=by simp
   have e2:((y::A).reverse++x::(B++R))[((((y::A).length:Nat):Int)-1).toNat]'qy=y:=by simp
   refine⟨by omega,by simp,?_⟩
   conv=>whnf
   refine⟨E,by simp,?_⟩
   rw[e1]
   conv=>whnf
   refine⟨by unfold I64;simp at hp2;simp;omega,?_⟩
   conv=>whnf
   refine⟨by simp,by simp,?_⟩
   conv=>whnf
   refine⟨E,by simp,?_⟩
   rw[e2]
   conv=>whnf
   refine Adl (hf x y hQx hQy) E E E (by simp only[hin];rfl) qq E ?_
   refine rd qq ?_;conv=>whnf
   refine⟨qq,?_⟩
   conv=>whnf
   refine⟨fun h2=>?_,fun h2=>?_⟩
   ·refine rg ?_;conv=>whnf
    refine⟨by unfold I64;simp at hp2;simp;omega,?_⟩
    conv=>whnf
    refine⟨by unfold I64;simp at hp2;simp;omega,?_⟩
    conv=>whnf
    refine⟨by simp,by simp,?_⟩
    conv=>whnf
    refine⟨E,by simp,?_⟩
    rw[e2]
    conv=>whnf
    refine⟨by omega,by simp,?_⟩
    conv=>whnf
    refine⟨E,by simp,?_⟩
    rw[e1]
    conv=>whnf
    refine⟨by omega,by simp,?_⟩
    conv=>whnf
    refine⟨E,by simp,y,E,E,?_⟩
    conv=>whnf
    refine⟨by simp,by simp,?_⟩
    conv=>whnf
    refine⟨E,by simp,x,E,E,?_⟩
    conv=>whnf
    refine⟨qq,?_⟩
    conv=>whnf
    refine⟨by unfold I64;simp at hp2;simp;omega,?_⟩
    conv=>whnf
    have hxy:lt x y=true:=by rw[← hlt];exact h2
    refine Mm (α:={p:List Int × List Int // Ks lt x r=p.2.reverse++Ks lt x p.1∧p.1.length+p.2.length=j+1∧∀ z∈p.1,Q z}) (L:=fun p=>[(0,.osl 0),(1,Aa 0),(2,Aa l.length),(3,.clo (.func f) first cap),(8,Aa ((j:Int)+1)),(9,Aa p.1.1.length)]) (O:=fun p=>[(0,.row 1 Aa (p.1.1.reverse++x::(p.1.2++R)))]) (μ:=fun p=>p.1.1.length) (x:=⟨(y::A,B),hp1,hp2,hp3⟩)
     ⟨(A,y::B),by simp only[hp1,Ks,hxy,if_true];simp,by simp at hp2 ⊢;omega,fun z hz=>hp3 z (by simp[hz])⟩ [] qy
     ⟨⟨rfl,rfl,rfl,rfl,rfl,rfl,A2 _,hc',rfl,rfl,congrArg Aa qy,rfl,trivial⟩,⟨.inl (congrArg (Ob.row 1 Aa) ?_),rfl,trivial⟩,rfl,rfl⟩
    simp
   ·refine rg ?_;conv=>whnf
    have hxy:lt x y=false:=by rw[← hlt];exact h2
    refine⟨by unfold I64;omega,?_⟩
    conv=>whnf
    refine Ba [] Y qn Y ⟨⟨E,E,E,E,E,E,A2 _,hc',congrArg Aa qn,E,Y⟩,⟨.inl (congrArg (Ob.row 1 Aa) ?_),E,Y⟩,E,E⟩
    show (Ds lt (l.take (j+1+1))).reverse++l.drop (j+1+1)=(y::A).reverse++x::(B++R)
    rw[htake,hp1,hR,Ks,hxy]
    simp
 ·have h:=of_decide_eq_false h
  have e:(Ds lt (l.take (j+1))).reverse++l.drop (j+1)=Md lt l:=by
   rw[List.take_of_length_le qn,List.drop_of_length_le qn,List.append_nil]
   rfl
  rw[e]
  refine rg ?_;conv=>whnf
  exact Bg E .nil [] [(0,.row 1 Aa (Md lt l))] (fun _ h=>h) E E ⟨Y,⟨.inl E,E,Y⟩,E,E⟩
theorem Akn (l:List Int) (c:Int→Int→Int) (Q:Int→Prop) (f:FuncId) (first cap:List SV) (hc:(SV.clo (.func f) first cap).inn []=true) (hf:∀ a b,Q a→Q b→Hj Tryz.prog f (first++[Aa a,Aa b]++cap) (Aa (c a b))) (hQ:∀ a∈l,Q a) (hl:l.length<20) :
  Sy.Spec Tryz.prog 282 [.osl 0,Aa l.length,.clo (.func f) first cap] [(0,.row 1 Aa l)] (.tup []) [(0,.row 1 Aa (Md (fun a b=>decide (c a b<0)) l))]:=Ab Γ hm 100 F282 Tryz.ntmps282 rfl fun F hF=>by
 have hc':(SV.clo (.func f) first cap).inn [0]=true:=Oz _ hc
 have hins:=Uy l c Q f first cap hc hf hQ (by unfold Am;omega)
 generalize Md (fun a b=>decide (c a b<0)) l=l' at hins
 conv=>whnf
 refine A1 0 (fun j=>[(0,.osl 0),(1,Aa l.length),(2,.clo (.func f) first cap),(6,Aa 20),(7,Aa 0),(8,Aa 20)]) (fun _=>[(0,.row 1 Aa l)]) [] ⟨⟨E,E,E,E,A2 _,hc',E,E,E,E,E,E,Y⟩,⟨.inl E,E,Y⟩,E,E⟩ ?_
 intro j hj
 refine rg ?_;conv=>whnf
 refine⟨fun h=>absurd (of_decide_eq_true h) qn,fun _=>?_⟩
 refine rg ?_;conv=>whnf
 refine Ah (Ai [] E F327 hins (D9 _) ⟨E,Y⟩ (by
  have h0:B1 [0] [.osl 0,Aa 0,Aa l.length,.clo (.func f) first cap]=true:=by simp only[B1,hc'];rfl
  simp only[Id,Obs.keys,List.map_cons,List.map_nil,h0];rfl) ⟨.inl rfl,trivial⟩) rfl rfl ?_
 refine rg ?_;conv=>whnf
 refine A1 0 (fun j=>[(1,Aa l.length),(6,Aa 20)]) (fun _=>[(0,.row 1 Aa l')]) [] ⟨⟨E,E,E,E,Y⟩,⟨.inl E,E,Y⟩,E,E⟩ ?_
 clear hj
 intro j hj
 refine rg ?_;conv=>whnf
 refine⟨fun h=>absurd (of_decide_eq_true h) qn,fun _=>?_⟩
 refine rg ?_;conv=>whnf
 exact Bg E .nil [] [(0,.row 1 Aa l')] (fun _ h=>h) E E ⟨Y,⟨.inl E,E,Y⟩,E,E⟩
theorem Zi (l:List Int) (c:Int→Int→Int) (Q:Int→Prop) (f:FuncId) (first cap:List SV) (hc:(SV.clo (.func f) first cap).inn []=true) (hf:∀ a b,Q a→Q b→Hj Tryz.prog f (first++[Aa a,Aa b]++cap) (Aa (c a b))) (hQ:∀ a∈l,Q a) (hl:l.length<20) :
  Sy.Spec Tryz.prog 228 [.osl 0,.clo (.func f) first cap] [(0,.row 1 Aa l)] (.tup []) [(0,.row 1 Aa (Md (fun a b=>decide (c a b<0)) l))]:=Ab Γ hm 100 F228 Tryz.ntmps228 rfl fun F hF=>by
 have hc':(SV.clo (.func f) first cap).inn [0]=true:=Oz _ hc
 have hst:=Akn l c Q f first cap hc hf hQ hl
 generalize Md (fun a b=>decide (c a b<0)) l=l' at hst
 conv=>whnf
 refine Ah (Ai [] E F282 hst (D9 _) ⟨E,Y⟩ (by
  have h0:B1 [0] [.osl 0,Aa l.length,.clo (.func f) first cap]=true:=by simp only[B1,hc'];rfl
  simp only[Id,Obs.keys,List.map_cons,List.map_nil,h0];rfl) ⟨.inl rfl,trivial⟩) rfl rfl ?_
 refine rg ?_;conv=>whnf
 exact Bg E .nil [] [(0,.row 1 Aa l')] (fun _ h=>h) E E ⟨Y,⟨.inl E,E,Y⟩,E,E⟩
def V0 (n:Net) (a b:Int):Int:=orI [cmpI (nth n.devices a).prio (nth n.devices b).prio,cmpI (nth n.devices a).mac (nth n.devices b).mac]
theorem ranks1 (n:Net) (a b:Int) (ha:0≤a∧a<n.devices.length) (hb:0≤b∧b<n.devices.length):Sy.Spec Tryz.prog 229 [Aa a,Aa b,.ref 8 (Aq n) 0] [] (Aa (V0 n a b)) []:=Ab Γ hm 100 F229 Tryz.ntmps229 rfl fun F hF=>by
 have e1:V0 n a b=orI [cmpI (n.devices[a.toNat]'qn).prio (n.devices[b.toNat]'qn).prio,cmpI (n.devices[a.toNat]'qn).mac (n.devices[b.toNat]'qn).mac]:=by
  rw[V0,An qn,An qn]
 rw[e1]
 conv=>whnf
 (repeat' (first | (refine Ac rfl (.cons .tmp .nil) ?_ rfl) | (refine⟨qq,?_⟩;((conv=>whnf))) | (refine⟨by (omega),by (omega),?_⟩;((conv=>whnf))) | (refine Ay (Ek (n.devices[a.toNat]'qn).prio (n.devices[b.toNat]'qn).prio) F231 rfl rfl rfl qq rfl ?_;((refine rd qq ?_);(conv=>whnf))) | (refine Ay (Aba (n.devices[a.toNat]'qn).mac (n.devices[b.toNat]'qn).mac) F232 rfl rfl rfl qq rfl ?_;((refine rd qq ?_);(conv=>whnf))) | (refine Ajs [28] (orS [cmpI (n.devices[a.toNat]'qn).prio (n.devices[b.toNat]'qn).prio,cmpI (n.devices[a.toNat]'qn).mac (n.devices[b.toNat]'qn).mac] (by simp[Am])) F230 rfl (.cons (.lit rfl rfl rfl) .nil) rfl qq rfl ?_;((refine rd qq ?_);(conv=>whnf)))))
 all_goals rfl
def Oq (m:Nat):List Int:=(List.range m).map fun (i:Nat)=>(i:Int)
theorem Wl (m:Nat):Oq (m+1)=Oq m++[(m:Int)]:=by simp[Oq,List.range_succ]
theorem Hc (m:Nat):(Oq m).length=m:=by simp[Oq]
def Ep (ord:List Int):Nat→List Int
 | 0=>List.replicate ord.length 0
 | j+1=>(Ep ord j).set (nth ord j).toNat j
theorem Ea (ord:List Int):∀ j,(Ep ord j).length=ord.length
 | 0=>by simp[Ep]
 | j+1=>by simp[Ep,Ea ord j]
def Db (n:Net):List Int:=Md (fun a b=>decide (V0 n a b<0)) (Oq n.devices.length)
def C4 (n:Net):List Int:=Ep (Db n) n.devices.length
theorem ranksS (n:Net) (hn:n.Fin):Sy.Spec Tryz.prog 156 [Aq n] [] (.sl 1 Aa (if Af n then C4 n else [])) []:=Ab Γ hm 100 F156 Tryz.ntmps156 rfl fun F hF=>by
 have hl:=hn.devices
 unfold Am at hl
 conv=>whnf
 refine Ag (Bk n hn) F67 E E E E E ?_
 refine rg ?_;conv=>whnf
 refine⟨fun h=>?_,fun h=>?_⟩
 ·have h:Af n=false:=by simpa using h
  refine rg ?_;conv=>whnf
  refine Ao 2 1 Aa E ?_
  exact Ac E (.cons .tmp .nil) (by rw[h];rfl) E
 have h:Af n=true:=by simpa using h
 have h8:n.devices.length≤8:=by
  simp only[Af,Aji,Bool.and_eq_true,decide_eq_true_eq]at h
  exact h.1.1.1.1.1.1.1.1.1.1.1.1.1.1.1
 rw[h,if_pos rfl,C4]
 refine rg ?_;conv=>whnf
 refine B0 1 8 (Aq n) E E E ?_
 refine Ca 3 1000 1 Aa E E ?_
 refine A1 n.devices.length (fun j=>[(1,.ref 8 (Aq n) 0),(3,.osl 1000),(13,Aa n.devices.length),(14,Aa j)]) (fun j=>[(1000,.row 1 Aa (Oq j))]) [] ⟨⟨E,E,E,E,E,E,E,E,Y⟩,⟨.inl E,E,Y⟩,E,E⟩ ?_
 intro j hj
 refine rg ?_;conv=>whnf
 refine⟨fun h2=>?_,fun h2=>?_⟩
 ·have hlt:j<n.devices.length:=by simpa using h2
  refine rg ?_;conv=>whnf
  refine Ah (Al Γ.toTy 20 E E E E E (.row E) (.lit (l:=[(j:Int)]) E E) qy (by simp[Hc];omega) (by simp[Hc];omega)) E E ?_
  refine rg ?_;conv=>whnf
  refine⟨by unfold I64;omega,?_⟩
  conv=>whnf
  exact Ar [(1000,20)] hlt ⟨⟨E,E,E,E,E,E,E,E,Y⟩,⟨.inl (congrArg (Ob.row 1 Aa) (Wl j)),E,Y⟩,E,E⟩
 have hjl:j=n.devices.length:=by have:¬ j<n.devices.length:=(by simpa using h2);omega
 subst hjl
 refine rg ?_;conv=>whnf
 have hsort:=Zi (Oq n.devices.length) (V0 n) (fun a=>0≤a∧a<n.devices.length) 229 [] [.ref 8 (Aq n) 0] rfl (fun a b ha hb=>⟨⟨_,_,F229⟩,ranks1 n a b ha hb⟩) (fun a ha=>by
  obtain ⟨i,hi,rfl⟩:=List.mem_map.1 ha
  have:=List.mem_range.1 hi
  omega) (by rw[Hc];omega)
 have hslen:(Db n).length=n.devices.length:=by rw[Db,(Mt _ _).length_eq,Hc]
 have hsm:∀ a∈Db n,0≤a∧a<n.devices.length:=fun a ha=>by
  have:=(Mt _ _).mem_iff.1 ha
  obtain ⟨i,hi,rfl⟩:=List.mem_map.1 this
  have:=List.mem_range.1 hi
  omega
 change Sy.Spec _ _ _ _ _ [(0,.row 1 Aa (Db n))]at hsort
 generalize Db n=sl at hsort hslen hsm
 refine Ah (Ai [(0,1000)] E F228 hsort E ⟨E,Y⟩ E ⟨.inl E,Y⟩) E E ?_
 refine rg ?_;conv=>whnf
 refine Ah (Bt Γ.toTy (d:=27) (n:=sl.length) Aa 0 E E E E E E E E qn qn E E E) E E ?_
 refine rg ?_;conv=>whnf
 refine A1 sl.length (fun j=>[(5,.osl 27),(28,.osl 1000),(29,Aa sl.length),(30,Aa j)]) (fun j=>[(1000,.row 1 Aa sl),(27,.row 1 Aa (Ep sl j))]) [] ⟨⟨E,E,E,E,E,E,E,E,Y⟩,⟨.inl E,E,.inl E,E,Y⟩,E,E⟩ ?_
 clear hj h2
 intro j hj
 refine rg ?_;conv=>whnf
 refine⟨fun h2=>?_,fun h2=>?_⟩
 ·have hlt:j<sl.length:=by simpa using h2
  have hmj:=hsm _ (List.getElem_mem hlt)
  have hnth:nth sl j=sl[j]:=An (by simpa using hlt)
  have hfl:=Ea sl j
  refine rg ?_;conv=>whnf
  refine⟨by omega,by omega,?_⟩
  conv=>whnf
  refine⟨E,by omega,?_⟩
  conv=>whnf
  refine⟨hmj.1,by rw[hfl];exact(by omega:sl[j].toNat<sl.length),?_⟩
  conv=>whnf
  refine⟨E,by rw[hfl];exact(by omega:sl[j].toNat<sl.length),(j:Int),E,E,?_⟩
  conv=>whnf
  refine⟨by unfold I64;omega,?_⟩
  conv=>whnf
  exact Ar [] hlt ⟨⟨E,E,E,E,E,E,E,E,Y⟩,⟨.inl E,E,.inl (congrArg (Ob.row 1 Aa) (by rw[Ep,hnth];rfl)),E,Y⟩,E,E⟩
 have hjl:j=n.devices.length:=by
  have:¬ j<sl.length:=by simpa using h2
  omega
 subst hjl
 refine rg ?_;conv=>whnf
 refine At 27 E ?_
 exact Ac E (.cons .tmp .nil) E E
def B6 (n:Net) (a b:Int):Bool :=
 if (nth n.devices a).prio≠(nth n.devices b).prio then decide ((nth n.devices a).prio<(nth n.devices b).prio) else
  if (nth n.devices a).mac≠(nth n.devices b).mac then decide ((nth n.devices a).mac<(nth n.devices b).mac) else decide (a<b)
def I5 (n:Net):List Int:=(List.range n.devices.length).map fun (i:Nat)=>(((List.range n.devices.length).countP fun k=>B6 n (k:Nat) i:Nat):Int)
end Go.Sy.YtmelpejjondedaaGreat
namespace Go.Sy.YtmelpejjondedaaGreat
theorem key_lt (n:Net) (a b:Int):decide (V0 n a b<0)=if (nth n.devices a).prio≠(nth n.devices b).prio then decide ((nth n.devices a).prio<(nth n.devices b).prio) else
  if (nth n.devices a).mac≠(nth n.devices b).mac then decide ((nth n.devices a).mac<(nth n.devices b).mac) else false:=by
 rw[V0,Jw,Jw]
 rfl
theorem J4 (n:Net) (a:Int):B6 n a a=false:=by simp[B6]
theorem S6 (n:Net) {a b c:Int} (h1:B6 n a b=true) (h2:B6 n b c=true):B6 n a c=true:=by
 unfold B6 at *
 generalize nth n.devices a=x at *
 generalize nth n.devices b=y at *
 generalize nth n.devices c=z at *
 grind
theorem Abj (n:Net) {a b:Int} (h1:B6 n a b=true):B6 n b a=false:=by
 cases h:B6 n b a with
 | false=>rfl
 | true=>have:=S6 n h1 h;rw[J4]at this;cases this
theorem Ws (n:Net) {x y:Int} (h:y<x):decide (V0 n x y<0)=B6 n x y:=by
 rw[key_lt]
 unfold B6
 generalize nth n.devices x=p at *
 generalize nth n.devices y=q at *
 grind
theorem Ak6 (n:Net) {x y:Int} (h:y<x) (hk:B6 n x y=false):B6 n y x=true:=by
 unfold B6 at *
 generalize nth n.devices x=p at *
 generalize nth n.devices y=q at *
 grind
theorem Wy (n:Net) (x:Int):∀ (r:List Int),(∀ y∈r,y<x)→r.Pairwise (fun a b=>B6 n b a=true)→(Ks (fun a b=>decide (V0 n a b<0)) x r).Pairwise (fun a b=>B6 n b a=true)
 | [],_,_=>by simp[Ks]
 | y::r,hx,hp=>by
  have hy:=hx y qy
  rw[List.pairwise_cons]at hp
  rw[Ks]
  split
  ·rename_i hlt
   rw[Ws n hy]at hlt
   rw[List.pairwise_cons]
   refine⟨fun z hz=>?_,Wy n x r (fun z hz=>hx z (by simp[hz])) hp.2⟩
   rcases List.mem_cons.1 ((Q2 _ x r).mem_iff.1 hz) with rfl | hz
   ·exact hlt
   ·exact hp.1 z hz
  ·rename_i hlt
   rw[Ws n hy]at hlt
   have hyx:=Ak6 n hy (by simpa using hlt)
   rw[List.pairwise_cons,List.pairwise_cons]
   refine⟨fun z hz=>?_,hp⟩
   rcases List.mem_cons.1 hz with rfl | hz
   ·exact hyx
   ·exact S6 n (hp.1 z hz) hyx
theorem Sr (n:Net):∀ m,(Ds (fun a b=>decide (V0 n a b<0)) (Oq m)).Pairwise (fun a b=>B6 n b a=true)
 | 0=>by simp[Ds,Oq]
 | m+1=>by
  rw[Wl,Ds,List.foldl_append]
  refine Wy n m _ (fun y hy=>?_) (Sr n m)
  have:=(Io _ _).mem_iff.1 hy
  obtain ⟨i,hi,rfl⟩:=List.mem_map.1 this
  have:=List.mem_range.1 hi
  omega
theorem Qu (n:Net):(Db n).Pairwise (fun a b=>B6 n a b=true):=by
 rw[Db,Md,List.pairwise_reverse]
 exact Sr n _
theorem Xp (n:Net):(Db n).Perm (Oq n.devices.length):=Mt _ _
theorem Aa8 (n:Net) {l:List Int} (hp:l.Pairwise (fun a b=>B6 n a b=true)) (r:Nat) (hr:r<l.length):l.countP (fun k=>B6 n k l[r])=r:=by
 have hsplit:l=l.take r++l[r]::l.drop (r+1):=by
  rw[← List.drop_eq_getElem_cons hr,List.take_append_drop]
 have h1:(l.take r).countP (fun k=>B6 n k l[r])=r:=by
  rw[List.countP_eq_length.2 (fun k hk=>?_),List.length_take]
  ·omega
  ·obtain ⟨i,hi,rfl⟩:=List.mem_iff_getElem.1 hk
   simp only[List.length_take]at hi
   rw[List.getElem_take]
   exact List.pairwise_iff_getElem.1 hp i r qn hr qn
 have h2:(l.drop (r+1)).countP (fun k=>B6 n k l[r])=0:=by
  rw[List.countP_eq_zero]
  intro k hk
  obtain ⟨i,hi,rfl⟩:=List.mem_iff_getElem.1 hk
  simp only[List.length_drop]at hi
  rw[List.getElem_drop]
  have:=List.pairwise_iff_getElem.1 hp r (r+1+i) hr qn qn
  simp[Abj n this]
 calc l.countP (fun k=>B6 n k l[r])=(l.take r++l[r]::l.drop (r+1)).countP (fun k=>B6 n k l[r]):=congrArg _ hsplit
  _=r:=by rw[List.countP_append,List.countP_cons,h1,h2,J4];simp
theorem Oj (L:List Int) (hn:L.Nodup) (hm:∀ a∈L,0≤a∧a<L.length):∀ (j:Nat),j≤L.length→∀ (r:Nat) (hr:r<L.length),r<j→(Ep L j)[L[r].toNat]? = some (r:Int)
 | 0,_,r,_,h=>by omega
 | j+1,hj,r,hr,h=>by
  have hmr:=hm _ (List.getElem_mem hr)
  have hlen:=Ea L j
  have hnth:nth L (j:Int)=L[j]:=An (by simp;omega)
  rw[Ep,hnth,List.getElem?_set]
  split
  ·rename_i he
   have hmj:=hm _ (List.getElem_mem (show j<L.length by omega))
   have hjr:L[j]=L[r]:=by omega
   have:j=r:=by
    have:=(List.getElem_inj (i:=j) (j:=r) (h₀:=by omega) (h₁:=hr) hn).1 hjr
    exact this
   subst this
   rw[if_pos qn]
  ·rename_i he
   have hne:r≠j:=fun e=>he (by subst e;rfl)
   exact Oj L hn hm j qn r hr qn
theorem Ace (m:Nat):(Oq m).Nodup:=by
 rw[Oq]
 exact List.Pairwise.map _ (fun (a b:Nat) (h:a≠b)=>by intro e;exact h qn) List.nodup_range
theorem Zv (n:Net):C4 n=I5 n:=by
 have hp:=Xp n
 have hlen:(Db n).length=n.devices.length:=by rw[hp.length_eq,Hc]
 have hnd:(Db n).Nodup:=hp.nodup_iff.2 (Ace _)
 have hm:∀ a∈Db n,0≤a∧a<(Db n).length:=fun a ha=>by
  obtain ⟨i,hi,rfl⟩:=List.mem_map.1 (hp.mem_iff.1 ha)
  have:=List.mem_range.1 hi
  omega
 refine List.ext_getElem? fun i=>?_
 rcases Nat.lt_or_ge i n.devices.length with hi | hi
 ·have hin:(i:Int)∈Db n:=hp.mem_iff.2 (List.mem_map.2 ⟨i,List.mem_range.2 hi,rfl⟩)
  obtain ⟨r,hr,he⟩:=List.mem_iff_getElem.1 hin
  have h1:=Oj (Db n) hnd hm n.devices.length qn r hr qn
  rw[he]at h1
  have h2:=Aa8 n (Qu n) r hr
  rw[he,hp.countP_eq]at h2
  rw[C4,I5,List.getElem?_map,List.getElem?_range hi]
  simp only[Int.toNat_natCast]at h1
  rw[h1]
  simp only[Option.map_some]
  congr 2
  rw[← h2,Oq,List.countP_map]
  rfl
 ·rw[List.getElem?_eq_none,List.getElem?_eq_none]
  ·simp[I5];omega
  ·rw[C4,Ea];omega
theorem G_vw {C:Cx} {k:List KI} {s:SS} (d:Nat) (x:SV) (h:Vw s [] (s.σ d) x) (hg:G C k ⟨upd s.σ d x,s.h⟩):G C k s:=fun κ a w hs =>
 hg κ a w ⟨hs.defers,hs.size,hs.inv,hs.ctx,fun i=>by
  show Rd κ w (upd s.σ d x i) _
  by_cases hi:i=d
  ·subst hi;rw[A6];exact Vw.rd hs.inv (fun _ hn=>by cases hn) h (hs.slot i)
  ·rw[Bq _ _ hi];exact hs.slot i,hs.obj⟩
end Go.Sy.YtmelpejjondedaaGreat
namespace Go.Sy.YtmelpejjondedaaGreat
open Go.Proofs
attribute [local irreducible] Go.Sy.G Go.Sy.DR
set_option maxRecDepth 20000
set_option maxHeartbeats 4000000
def Iq (p:Port):Bool:=decide (p.cost<1) || decide (p.cost>65535)
theorem costs1 (p:Port):Sy.Spec Tryz.prog 227 [A9 p] [] (Ad (Iq p)) []:=Ab Γ hm 100 F227 Tryz.ntmps227 rfl fun F hF=>by
 conv=>whnf
 (repeat' (first | (refine⟨fun h=>?_,fun h=>?_⟩<;>(repeat (first | simp only[decide_eq_true_eq]at h | simp only[decide_eq_false_iff_not]at h))<;>((refine rg ?_);(conv=>whnf))) | (refine Ac rfl (.cons .tmp .nil) ?_ rfl)))
 all_goals (refine congrArg Ad ?_;clear hF;grind [Iq])
theorem M1 (l:List Port) (p:Port→Bool) (f:FuncId) (first cap:List SV) (hc:(SV.clo (.func f) first cap).inn []=true) (hf:∀ x∈l,Hj Tryz.prog f (first++[A9 x]++cap) (Ad (p x))) (hl:Am l) :
  Sy.Spec Tryz.prog 226 [.sl 7 A9 l,.clo (.func f) first cap] [] (Ad (l.any p)) []:=Ab Γ hm 100 F226 Tryz.ntmps226 rfl fun F hF=>by
 have h0:B1 [] [.sl 7 A9 l,.clo (.func f) first cap]=true:=by simp only[B1,hc];rfl
 conv=>whnf
 refine Ag (Tc l p f first cap hc hf hl) F281 E E (by simp only[h0];rfl) E E ?_
 refine rg ?_;conv=>whnf
 exact Ac E (.cons .tmp .nil) (congrArg Ad (Aao _ _).symm) E
def Cq (n:Net):Bool:=!(n.ports.any Iq)
theorem Ajq (n:Net) (hl:Am n.ports):Sy.Spec Tryz.prog 155 [Aq n] [] (Ad (Cq n)) []:=Ab Γ hm 100 F155 Tryz.ntmps155 rfl fun F hF=>by
 conv=>whnf
 refine Ag (M1 n.ports Iq 227 [] [] E (fun x _=>⟨⟨_,_,F227⟩,costs1 x⟩) hl) F226 E E E E E ?_
 refine rg ?_;conv=>whnf
 exact Ac E (.cons .tmp .nil) E E
def D3 (n:Net):Bool :=
 decide (200<n.devices.length) || decide (200<n.ports.length) || decide (200<n.links.length) || decide (200<n.domains.length) || decide (200<n.statics.length) || decide (200<n.floods.length) || decide (200<n.vrfs.length) || decide (200<n.irbs.length) ||
  n.ports.any (fun p=>decide (100<p.tagged.length)) || n.domains.any (fun d=>decide (100<d.peers.length)) || n.floods.any (fun f=>decide (100<f.addrs.length)) || n.vrfs.any (fun v=>decide (100<v.imports.length) || decide (100<v.exports.length))
theorem Yl {n:Net} (h:D3 n=false):n.Fin:=by
 simp only[D3,Bool.or_eq_false_iff,decide_eq_false_iff_not,List.any_eq_false,decide_eq_true_eq,Bool.or_eq_true,not_or]at h
 obtain ⟨⟨⟨⟨⟨⟨⟨⟨⟨⟨⟨h1,h2⟩,h3⟩,h4⟩,h5⟩,h6⟩,h7⟩,h8⟩,h9⟩,h10⟩,h11⟩,h12⟩:=h
 exact⟨by unfold Am;omega,by unfold Am;omega,by unfold Am;omega,by unfold Am;omega,by unfold Am;omega,by unfold Am;omega,by unfold Am;omega,by unfold Am;omega,
  fun p hp=>by have:=h9 p hp;unfold Am;omega,fun p hp=>by have:=h10 p hp;unfold Am;omega,fun p hp=>by have:=h11 p hp;unfold Am;omega,fun p hp=>by have:=h12 p hp;unfold Am;omega,fun p hp=>by have:=h12 p hp;unfold Am;omega⟩
end Go.Sy.YtmelpejjondedaaGreat
namespace Go.Sy.YtmelpejjondedaaGreat
open Go.Proofs
attribute [local irreducible] Go.Sy.G Go.Sy.DR
set_option maxRecDepth 100000
set_option maxHeartbeats 4000000
theorem Az {α:Type} {l:List α} {i:Nat} {d:α} (h:i<l.length):l.getD i d=l[i]:=by simp[List.getD,h]
theorem Jr {n:Net} (h:Af n=true) {i:Nat} (hi:i<n.ports.length):Ij n i n.ports[i]=true:=by
 simp only[Af,Bool.and_eq_true]at h
 exact allB_iff.1 h.1.1.1.1.1.2 i hi
theorem T8 {n:Net} (h:Af n=true) {i:Nat} (hi:i<n.links.length):Sq n i n.links[i]=true:=by
 simp only[Af,Bool.and_eq_true]at h
 exact allB_iff.1 h.1.1.1.1.2 i hi
theorem Dh {n:Net} (h:Af n=true):n.devices.length≤8∧n.ports.length≤40∧n.links.length≤20:=by
 simp only[Af,Aji,Bool.and_eq_true,decide_eq_true_eq]at h
 omega
theorem Li {n:Net} (h:Af n=true) {i:Nat} (hi:i<n.ports.length):n.ports[i].link=-1∨(0≤n.ports[i].link∧n.ports[i].link<n.links.length):=by
 have:=Jr h hi
 simp only[Ij,Aj,Bool.and_eq_true,Bool.or_eq_true,beq_iff_eq,decide_eq_true_eq]at this
 rcases this.2 with h1 | h1
 ·exact .inl h1
 ·exact .inr h1.1
theorem Kn {n:Net} (h:Af n=true) {i:Nat} (hi:i<n.ports.length):0≤n.ports[i].dev∧n.ports[i].dev<n.devices.length:=by
 have:=Jr h hi
 simp only[Ij,Aj,Bool.and_eq_true,decide_eq_true_eq]at this
 exact this.1.1.1.1.1.1.1.1
theorem Ja {n:Net} (h:Af n=true) {i:Nat} (hi:i<n.links.length):(0≤n.links[i].a∧n.links[i].a<n.ports.length)∧0≤n.links[i].b∧n.links[i].b<n.ports.length:=by
 have:=T8 h hi
 simp only[Sq,Aj,Bool.and_eq_true,decide_eq_true_eq]at this
 exact⟨this.1.1.1.1,this.1.1.1.2⟩
def Do (n:Net) (i:Nat):Int:=(nth n.ports i).dev
def Om (n:Net) (i:Nat):Int:=(nth n.ports i).cost
theorem Z3 {n:Net} (hcost:Cq n=true) {i:Nat} (hi:i<n.ports.length):1≤Om n i∧Om n i≤65535:=by
 rw[Om,An (l:=n.ports) (i:=(i:Int)) (by simpa using hi)]
 simp only[Cq,Bool.not_eq_true',List.any_eq_false]at hcost
 have:=hcost _ (List.getElem_mem hi)
 simp only[Iq,Bool.or_eq_true,decide_eq_true_eq,not_or]at this
 simp only[Int.toNat_natCast]
 omega
end Go.Sy.YtmelpejjondedaaGreat
namespace Go.Sy.YtmelpejjondedaaGreat
open Go.Proofs
structure EntryM where
 mac:Nat
 where_:Int
 seen:Int
deriving DecidableEq
def As (e:EntryM):SV:=.agg [A7 e.mac,Aa e.where_,Aa e.seen]
def Ha (m:Nat):Bool:=decide (m≤281474976710655) && !E1 m
def En (now:Int):Bool:=decide (0≤now) && decide (now≤1099511627776)
def Dt (t:List EntryM) (m:Nat):Int:=Dl (fun e=>decide (e.mac=m)) t
def Q7 (t:List EntryM) (i:Nat) (e:EntryM):Bool:=Ha e.mac && En e.seen && decide (Dt t e.mac=i)
def tableB (t:List EntryM):Bool:=decide (t.length≤8) && El (Q7 t) t
def findE (t:List EntryM) (m:Nat):Int × Bool:=if Dt t m<0 then (0,false) else (((t[(Dt t m).toNat]?).map (·.where_)).getD 0,true)
def oldestU (t:List EntryM):Nat→Nat
 | 0=>0
 | j+1=>if ((t[j]?).map (·.seen)).getD 0<((t[oldestU t j]?).map (·.seen)).getD 0 then j else oldestU t j
def learnT (t:List EntryM) (m:Nat) (wh now:Int):List EntryM :=
 if tableB t=false∨Ha m=false∨En now=false then t
 else if 0≤Dt t m then t.set (Dt t m).toNat ⟨m,wh,now⟩
 else (if t.length=8 then t.eraseIdx (oldestU t t.length) else t)++[⟨m,wh,now⟩]
def ageT (t:List EntryM) (now:Int):List EntryM:=if tableB t=false∨En now=false then t else t.filter fun e=>decide (now-4≤e.seen)
def noF:FrameM:=⟨0,0,0,[]⟩
structure FrameOK (f:FrameM):Prop where
 dst:f.dst<281474976710656
 src:f.src<281474976710656
 typ:f.typ≤65535
 body:f.body.length≤1504
def takeF (b:List UInt8):FrameM × Int :=
 if b.length<14 then (noF,10) else if 1518<b.length then (noF,14)
 else (⟨Hn (b.take 6),Hn ((b.drop 6).take 6),Hn ((b.drop 12).take 2),b.drop 14⟩,0)
def Vs (f:FrameM):List UInt8:=frame f.dst f.src f.typ f.body
def stripT (f:FrameM):FrameM × Int × Int × Int :=
 if f.typ≠33024 then (noF,0,0,11) else if f.body.length<4 then (noF,0,0,10)
 else if 4094<Hn (f.body.take 2) % 4096∨Hn ((f.body.drop 2).take 2)=33024 then (noF,0,0,15)
 else (⟨f.dst,f.src,Hn ((f.body.drop 2).take 2),f.body.drop 4⟩,(Hn (f.body.take 2) % 4096:Nat),(Hn (f.body.take 2) / 4096:Nat),0)
def tagT (f:FrameM) (v:Int):FrameM × Int :=
 if f.typ=33024 then (noF,15) else if 1500<f.body.length then (noF,14)
 else (⟨f.dst,f.src,33024,[UInt8.ofNat (v.toNat / 256),UInt8.ofNat v.toNat,UInt8.ofNat (f.typ / 256),UInt8.ofNat f.typ]++f.body⟩,0)
def vlanT (p:Port) (tagged:Bool) (vid:Int):Int × Bool :=
 if tagged=false∨vid=0 then (p.native,decide (p.native≠0)) else if inB p.tagged vid=true then (vid,true) else (0,false)
def Ic (n:Net) (port:Int) (f:FrameM) (tagged:Bool) (vid:Int):Int × FrameM × Int :=
 if E1 f.src=true then (0,noF,11)
 else if (vlanT (nth n.ports port) tagged vid).2=false then (0,noF,16)
 else (Tm n (nth n.ports port).dev (vlanT (nth n.ports port) tagged vid).1,f,0)
def enterT (n:Net) (port:Int) (b:List UInt8):Int × FrameM × Int :=
 if Aj port n.ports.length=false∨Af n=false then (0,noF,2)
 else if (takeF b).2≠0 then (0,noF,(takeF b).2)
 else if (takeF b).1.typ=33024 then
  (if (stripT (takeF b).1).2.2.2≠0 then (0,noF,(stripT (takeF b).1).2.2.2) else Ic n port (stripT (takeF b).1).1 true (stripT (takeF b).1).2.1)
 else Ic n port (takeF b).1 false 0
def leaveT (n:Net) (port dom:Int) (f:FrameM):List UInt8 × Int :=
 if Aj port n.ports.length=false∨Aj dom n.domains.length=false∨Af n=false then ([],2)
 else if (nth n.ports port).dev≠(nth n.domains dom).dev∨Jx (nth n.ports port) (nth n.domains dom).vlan=false then ([],16)
 else if f.typ=33024 then ([],15)
 else if (nth n.domains dom).vlan=(nth n.ports port).native then (Vs f,0)
 else if (tagT f (nth n.domains dom).vlan).2≠0 then ([],(tagT f (nth n.domains dom).vlan).2)
 else (Vs (tagT f (nth n.domains dom).vlan).1,0)
def linkT (n:Net) (port:Int) (b:List UInt8):Int × Int × FrameM × Int :=
 if Hh n port<0 then (0,0,noF,2) else (Hh n port,enterT n (Hh n port) b)
structure QueuedM where
 from_:Int
 peer:Int
 origin:Int
 frame:FrameM
def A4 (q:QueuedM):SV:=.agg [Aa q.from_,Aa q.peer,Aa q.origin,A7 q.frame.dst,A7 q.frame.src,Aa q.frame.typ,.sl 1 Ak q.frame.body]
def noQ:QueuedM:=⟨0,0,0,noF⟩
def pushT (l:List QueuedM) (q:QueuedM):List QueuedM × Bool:=if 64≤l.length then (l,false) else (l++[q],true)
def takeT (l:List QueuedM) (at_:Int):QueuedM × List QueuedM × Bool :=
 if at_<0∨(l.length:Int)≤at_ then (noQ,l,false) else ((l[at_.toNat]?).getD noQ,l.eraseIdx at_.toNat,true)
def usableB (n:Net) (fw:List Bool) (p:Int):Bool:=decide ((nth n.ports p).link<0) || (fw[(nth n.ports p).link.toNat]?).getD false
def J6 (n:Net) (fw:List Bool) (dom from_:Int):Bool :=
 Aj dom n.domains.length && decide (fw.length=n.links.length) && Af n && (decide (from_=-1) || decide (from_=-2) || inB (Ax n dom) from_)
def De (n:Net) (fw:List Bool) (from_:Int) (l:List Int):List Int:=l.filter fun p=>!(decide (p=from_) || !(usableB n fw p))
def peersOut (n:Net) (dom from_:Int):List Int:=if from_=-1 then [] else (nth n.domains dom).peers
def floodT (n:Net) (fw:List Bool) (dom from_:Int):List Int × List Int × Int :=
 if J6 n fw dom from_=false then ([],[],2) else (De n fw from_ (Ax n dom),peersOut n dom from_,0)
def C0 (n:Net) (dom:Int) (m:Nat):Int:=Dl (fun s:Static=>decide (s.domain=dom) && decide (s.mac=(m:Int))) n.statics
def B9 (n:Net) (fw:List Bool) (t:List EntryM) (dom from_:Int) (m:Nat):List Int × List Int × Int :=
 if J6 n fw dom from_=false then ([],[],2)
 else if E1 m=true then (De n fw from_ (Ax n dom),peersOut n dom from_,0)
 else if 0≤C0 n dom m then (De n fw from_ [(nth n.statics (C0 n dom m)).port],[],0)
 else if (findE t m).2=true∧0≤(findE t m).1∧inB (Ax n dom) (findE t m).1=true then (De n fw from_ [(findE t m).1],[],0)
 else if (findE t m).2=true∧(findE t m).1<0∧inB (nth n.domains dom).peers (-1-(findE t m).1)=true then ([],if from_=-1 then [] else [-1-(findE t m).1],0)
 else (De n fw from_ (Ax n dom),peersOut n dom from_,0)
def bAt (b:List UInt8) (i:Nat):UInt8:=b.getD i 0
def numAt (b:List UInt8) (k m:Nat):Nat:=Hn ((b.drop k).take m)
def Co (l:List Nat):List UInt8:=l.flatMap fun n=>[UInt8.ofNat (n / 256),UInt8.ofNat n]
def udpPort (a b:Nat):Nat:=49152+(a ^^^ b) % 16384
def Aha (src dst:Nat) (body:List UInt8):List UInt8:=Co [src,dst,8+body.length,0]++body
def udpTakeT (b:List UInt8):Int × Int × List UInt8 × Int :=
 if b.length<8 then (0,0,[],10) else if numAt b 4 2<8 then (0,0,[],11) else if b.length<numAt b 4 2 then (0,0,[],10)
 else if numAt b 6 2≠0 then (0,0,[],12) else (numAt b 0 2,numAt b 2 2,(b.take (numAt b 4 2)).drop 8,0)
structure PacketM where
 tos:Nat
 id:Nat
 ttl:Nat
 proto:Nat
 src:Nat
 dst:Nat
 body:List UInt8
def noP:PacketM:=⟨0,0,0,0,0,0,[]⟩
def On (p:PacketM):SV:=.agg [Aa p.tos,Aa p.id,Aa p.ttl,Aa p.proto,Cd p.src,Cd p.dst,.sl 1 Ak p.body]
structure PacketOK (p:PacketM):Prop where
 tos:p.tos≤255
 id:p.id≤65535
 ttl:p.ttl≤255
 proto:p.proto≤255
 src:p.src<4294967296
 dst:p.dst<4294967296
def Hi (p:PacketM) (s:Nat):List UInt8:=Co [17664+p.tos,20+p.body.length,p.id,0,p.ttl * 256+p.proto,s,p.src / 65536,p.src,p.dst / 65536,p.dst]
def Wv (p:PacketM):Nat:=Ady (Hi p 0)
def Tb (p:PacketM):List UInt8:=Hi p (Wv p)++p.body
def ipPutT (p:PacketM):List UInt8 × Int:=if 1480<p.body.length then ([],14) else (Tb p,0)
def ipTakeT (b:List UInt8):PacketM × Int :=
 if b.length<20 then (noP,10) else if bAt b 0≠69∨numAt b 2 2<20 then (noP,11) else if b.length<numAt b 2 2 then (noP,10)
 else if numAt b 6 2≠0 then (noP,11) else if Ew (M3 (b.take 20) 10)≠65535 then (noP,12)
 else (⟨(bAt b 1).toNat,numAt b 4 2,(bAt b 8).toNat,(bAt b 9).toNat,numAt b 12 4,numAt b 16 4,(b.take (numAt b 2 2)).drop 20⟩,0)
def J7 (v:Nat):List UInt8:=[8,0,0,0,UInt8.ofNat (v / 65536),UInt8.ofNat (v / 256),UInt8.ofNat v,0]
def Qn (v:Int):Bool:=decide (v<1) || decide (16777215<v)
def vniT (b:List UInt8):Int × List UInt8 × Int :=
 if b.length<8 then (0,[],10) else if numAt b 4 3=0∨b.take 8≠J7 (numAt b 4 3) then (0,[],11) else (numAt b 4 3,b.drop 8,0)
def L2 (from_ to:Nat) (v:Nat) (f:FrameM):PacketM:=⟨0,0,64,17,from_,to,Aha (udpPort f.dst f.src) 4789 (J7 v++Vs f)⟩
def wrapT (from_ to:Nat) (v:Int) (f:FrameM):List UInt8 × Int :=
 if f.typ=33024 then ([],15) else if Qn v=true then ([],17) else if 1450<f.body.length then ([],14)
 else (frame (Hl to) (Hl from_) 2048 (Tb (L2 from_ to v.toNat f)),0)
def outerT (b:List UInt8):PacketM × Int :=
 if (takeF b).2≠0 then (noP,(takeF b).2) else if (takeF b).1.typ≠2048 then (noP,11)
 else if (ipTakeT (takeF b).1.body).2≠0 then (noP,(ipTakeT (takeF b).1.body).2)
 else ((ipTakeT (takeF b).1.body).1,if (ipTakeT (takeF b).1.body).1.proto≠17 then 11 else 0)
def Iz (b:List UInt8):Int × FrameM × Int :=
 if (udpTakeT b).2.2.2≠0 then (0,noF,(udpTakeT b).2.2.2) else if (udpTakeT b).2.1≠4789 then (0,noF,11)
 else if (vniT (udpTakeT b).2.2.1).2.2≠0 then (0,noF,(vniT (udpTakeT b).2.2.1).2.2)
 else if (takeF (vniT (udpTakeT b).2.2.1).2.1).2≠0 then (0,noF,(takeF (vniT (udpTakeT b).2.2.1).2.1).2)
 else if (takeF (vniT (udpTakeT b).2.2.1).2.1).1.typ=33024 then (0,noF,15)
 else ((vniT (udpTakeT b).2.2.1).1,(takeF (vniT (udpTakeT b).2.2.1).2.1).1,0)
def Bp (b:List UInt8):Nat × Nat × Int × FrameM × Int :=
 if (outerT b).2≠0 then (0,0,0,noF,(outerT b).2) else if (Iz (outerT b).1.body).2.2≠0 then (0,0,0,noF,(Iz (outerT b).1.body).2.2)
 else ((outerT b).1.src,(outerT b).1.dst,(Iz (outerT b).1.body).1,(Iz (outerT b).1.body).2.1,0)
structure Net.Num (n:Net):Prop where
 vtep:∀ d∈n.devices,0≤d.vtep∧d.vtep<4294967296
 addr:∀ i∈n.irbs,0≤i.addr∧i.addr<4294967296
def Hk (n:Net) (dom:Int):Int:=(nth n.devices (nth n.domains dom).dev).vtep
def meshT (n:Net) (dom peer:Int) (f:FrameM):List UInt8 × Int :=
 if Aj peer n.domains.length=false∨Aj dom n.domains.length=false∨Af n=false then ([],2)
 else if inB (nth n.domains dom).peers peer=false then ([],17)
 else wrapT (Hk n dom).toNat (Hk n peer).toNat (nth n.domains dom).vni f
def endsT (n:Net) (src dst:Nat) (vni:Int):Int × Int :=
 let dev:=Dl (fun d:Device=>decide (d.vtep=(dst:Int))) n.devices
 let dom:=Dl (fun d:Domain=>decide (d.dev=dev) && decide (d.vni=vni)) n.domains
 if dev<0∨dom<0 then (-1,-1)
 else
  let i:=Dl (fun k:Int=>decide (Hk n k=(src:Int))) (nth n.domains dom).peers
  if i<0 then (-1,-1) else (nth (nth n.domains dom).peers i,dom)
def comeT (n:Net) (b:List UInt8):Int × Int × FrameM × Int :=
 if Af n=false then (0,0,noF,2)
 else if (Bp b).2.2.2.2≠0 then (0,0,noF,(Bp b).2.2.2.2)
 else if (endsT n (Bp b).1 (Bp b).2.1 (Bp b).2.2.1).1<0 then (0,0,noF,17)
 else if E1 (Bp b).2.2.2.1.src=true then (0,0,noF,11)
 else ((endsT n (Bp b).1 (Bp b).2.1 (Bp b).2.2.1).1,(endsT n (Bp b).1 (Bp b).2.1 (Bp b).2.2.1).2,(Bp b).2.2.2.1,0)
def routerT (n:Net) (dom:Int) (m:Nat):Int × Bool :=
 if Aj dom n.domains.length=false∨Af n=false then (0,false)
 else if (nth n.domains dom).irb<0∨Hl (nth n.irbs (nth n.domains dom).irb).addr≠m then (0,false)
 else ((nth n.domains dom).irb,true)
def Ac3 (p:PacketM):PacketM:=⟨p.tos,p.id,p.ttl-1,p.proto,p.src,p.dst,p.body⟩
def hopT (n:Net) (irb:Int) (f:FrameM):Int × FrameM × Int :=
 if Aj irb n.irbs.length=false∨Af n=false then (0,noF,2)
 else if f.typ≠2048 then (0,noF,11)
 else if (ipTakeT f.body).2≠0 then (0,noF,(ipTakeT f.body).2)
 else if (ipTakeT f.body).1.ttl≤1 then (0,noF,13)
 else if (lookT n irb (ipTakeT f.body).1.dst).2=false then (0,noF,31)
 else if 1480<(ipTakeT f.body).1.body.length then (0,noF,14)
 else ((nth n.irbs (lookT n irb (ipTakeT f.body).1.dst).1).domain,
  ⟨Hl (ipTakeT f.body).1.dst,Hl (nth n.irbs (lookT n irb (ipTakeT f.body).1.dst).1).addr,2048,Tb (Ac3 (ipTakeT f.body).1)⟩,0)
structure OutM where
 kind:Int
 port:Int
 domain:Int
 bytes:List UInt8
 frame:FrameM
 error:Int
def Df (o:OutM):SV:=.agg [Aa o.kind,Aa o.port,Aa o.domain,.sl 1 Ak o.bytes,A7 o.frame.dst,A7 o.frame.src,Aa o.frame.typ,.sl 1 Ak o.frame.body,Aa o.error]
def learnQ (t:List EntryM) (q:QueuedM) (now:Int):List EntryM :=
 if q.from_=-2 then t else learnT t q.frame.src (if q.from_=-1 then -1-q.peer else q.from_) now
def Ov (o:OutM) (r:List UInt8 × Int):OutM:=if r.2≠0 then ⟨5,o.port,o.domain,[],o.frame,r.2⟩ else ⟨o.kind,o.port,o.domain,r.1,o.frame,o.error⟩
def Vv (n:Net) (dom:Int) (f:FrameM) (p:Int):OutM:=Ov ⟨if (nth n.ports p).link<0 then 1 else 2,p,0,[],noF,0⟩ (leaveT n p dom f)
def X3 (n:Net) (dom:Int) (f:FrameM) (p:Int):OutM:=Ov ⟨3,0,p,[],noF,0⟩ (meshT n dom p f)
def bridgeT (n:Net) (fw:List Bool) (t:List EntryM) (dom:Int) (q:QueuedM) (now:Int):List EntryM × List OutM × Int :=
 if J6 n fw dom q.from_=false∨tableB t=false then ([],[],2)
 else if (routerT n dom q.frame.dst).2=true then
  (if (hopT n (routerT n dom q.frame.dst).1 q.frame).2.2≠0 then (learnQ t q now,[],(hopT n (routerT n dom q.frame.dst).1 q.frame).2.2)
   else (learnQ t q now,[⟨4,0,(hopT n (routerT n dom q.frame.dst).1 q.frame).1,[],(hopT n (routerT n dom q.frame.dst).1 q.frame).2.1,0⟩],0))
 else (learnQ t q now,(B9 n fw (learnQ t q now) dom q.from_ q.frame.dst).1.map (Vv n dom q.frame)++(B9 n fw (learnQ t q now) dom q.from_ q.frame.dst).2.1.map (X3 n dom q.frame),0)
end Go.Sy.YtmelpejjondedaaGreat
namespace Go.Sy
open Go.ChangeShapes Go.WideShapes Go.ChangeAt Go.RowKit
def κ0:Ka:=⟨fun _=>.new,fun _=>False⟩
theorem inv0 (w:World):Inv κ0 w :=
 ⟨fun i j b h=>(by cases h),fun k b h=>(by cases h),fun k b h=>(by cases h),fun b h=>False.elim h⟩
theorem Yz {w w':World} {κ':Ka} (c:Ctx ⟨w,κ0⟩ κ' w'):Below w.heap.size w w' :=
 ⟨c.os,c.tape,c.output,c.size,fun k hk=>c.old k hk (fun j h=>by cases h)⟩
section
variable {H:Type} {enc:TypeId × Value→H} {P:Program}
theorem L4 {W W':World} (hl:laidOutB P=true) (hb:Below W.heap.size W W'):∀ {ts:List TypeId} {vs:List Value} {ds:List (DataW H)} {ps:List MemPlace},(∀ t∈ts,P.readableRec t=true∧t<P.types.size) →
  (∀ x∈ps,x.block<W.heap.size)→DataW.TrodAll enc P W 0 (fun _=>true) true ts vs ds ps→DataW.TrodAll enc P W' 0 (fun b=>decide (b<W.heap.size)) true ts vs ds ps
 | [],_,_,_,_,_,h=>by
  obtain ⟨rfl,rfl,rfl⟩:=trodAll_nil h
  rfl
 | t::ts,_,_,_,ht,hp,h=>by
  obtain ⟨v,vs,d,ds,p,q,rfl,rfl,rfl,h1,h2⟩:=trodAll_cons h
  have:=ht t qy
  exact⟨p,q,Below.trod hl this.1 this.2 h1 hb (fun x hx=>hp x (by simp[hx])),L4 hl hb (fun t h=>ht t (by simp[h])) (fun x hx=>hp x (by simp[hx])) h2,E⟩
theorem Aga {f:FuncId} {fn:Func} {s:ChangeSpec} {W:World} {args:Array Value} {ds gs:List (DataW H)} {before:List MemPlace} {tb:TypeId} {A:List SV} (hv:s.vars=[]) (hl:laidOutB P=true)
  (hW:DataW.Whole enc P fn.params.toList s.vars false W args.toList ds gs before) (hts:∀ t∈fn.params.toList,P.readableRec t=true∧t<P.types.size) (hrt:fn.resultTypes=#[tb]) (hbt:P.underlying tb=some .bool)
  (hfn:∀ gs:List (DataW H),gs=[]→s.fn H (ds++gs)={ results:=[.lit (.bool true)],args:=ds }) (hA:RdL κ0 W A args.toList) (hs:Sy.Spec P f A [] (Ad true) []) :
  Calls P f args W fun e W'=>∃ v,e=.returned v∧s.post enc P fn false true false false W args v W':=by
 have hc:=hs κ0 W args.toList (inv0 W) (fun k hk=>absurd rfl hk) hA (fun p hp=>by cases hp)
 simp only[Array.toArray_toList]at hc
 refine hc.mono ?_
 rintro e W' ⟨v,κ',rfl,ctx,inv,hR,_⟩
 have hvv:v=.bool true:=by simpa [Ad,Rd] using hR
 subst hvv
 have hb:=Yz ctx
 have hW':=hW
 obtain ⟨p,q,h1,h2,h3,h4,h5⟩:=hW
 have hgs:gs=[]∧q=[]:=by
  rw[hv]at h2
  exact trodVars_none h2
 obtain ⟨rfl,rfl⟩:=hgs
 rw[List.append_nil]at h3
 subst h3
 have hlt:∀ x∈before,x.block<W.heap.size:=fun x hx=>by simpa using hW'.lt x hx
 refine⟨_,rfl,ds,[],before,[],before,[],hW',?_,?_,?_,?_,fun h=>by cases h⟩
 ·rw[hfn [] rfl,hrt]
  exact trodAll_mk1 (shut_bool hbt true)
 ·rw[hfn [] rfl]
  exact L4 hl hb hts hlt h1
 ·rw[hv,hfn [] rfl]
  rfl
 ·exact hb.frame _
end
end Go.Sy
namespace Go.Sy
theorem J8 {P:Program} (Γ:Ty P) {o:Oper} {s:SS} {t:TypeId} {ti:TI} {et:TypeId} {len esz sz g:Nat} {y:Operand} {ik:IntKind} {n:Int} {z:SV} (k:Nat)
  (h:o.op=.indexAddr t (.global g) y) (ht:Γ.get t=some ti) (hk:ti.k=.array et len esz) (hb:s.h k=.glob sz z g) (hy:ev s y=.val (.int ik n)) (h0:0≤n) (hn:n.toNat<len) :
  Good P o s ⟨.ref sz z (n.toNat * esz),[k],[]⟩ :=
 Good.pure fun κ a w _ hr ho=>by
  have h1:=ho k qy
  have h2:=hr y (by simp[h,Op.operands])
  rw[hb]at h1
  rw[hy]at h2
  simp only[ObOK,Rd,RdD]at h1
  obtain ⟨b,oo,u,e1,e2,e3,e4,e5⟩:=h1
  obtain ⟨hu,i,q1,q2⟩:=K8 Γ ht hk
  simp only[Nat.add_zero,Value.pointer.injEq,Option.some.injEq,Addr.mk.injEq,and_true]at e1
  obtain ⟨rfl,rfl⟩:=e1
  refine⟨.pointer (some ⟨g,0+n.toNat * esz,none⟩),?_,?_⟩
  ·have hg:a.eval (.global g)=.pointer (some ⟨g,0,none⟩):=rfl
   simp only[execOp,h,hg,h2.val]
   simp[Jo w hu q1 q2 h0 hn]
  ·simp only[Rd,RdD]
   exact⟨g,0,u,E,e2,e3,e4,e5⟩
theorem Ob.shp_glob {x:Ob} {sz g:Nat} {z:SV} (h:x.shp=(Ob.glob sz z g).shp):x=.glob sz z g:=by
 cases x<;>simp_all[Ob.shp]
theorem GoodX.glob {P:Program} (Γ:Ty P) {o:Oper} {s:SS} {t:TypeId} {ti:TI} {et:TypeId} {len esz sz g:Nat} {y:Operand} {ik:IntKind} {n:Int} {z:SV} (k:Nat)
  (h:o.op=.indexAddr t (.global g) y) (ht:Γ.get t=some ti) (hk:ti.k=.array et len esz) (hb:s.h k=.glob sz z g) (hy:ev s y=.val (.int ik n)) (h0:0≤n) (hn:n.toNat<len) :
  GoodX P o s ⟨.ref sz z (n.toNat * esz),[k],[]⟩ where
 good:=(J8 Γ k h ht hk hb hy h0 hn).two
 idx _:=⟨rfl,fun s' h1 h2=>J8 Γ k h ht hk (Ob.shp_glob ((h2 k qy).trans (congrArg Ob.shp hb))) ((h1 y (by simp[h,Op.operands])).trans hy) h0 hn⟩
 st hs:=by simp[Ix,h]at hs
section
open Go.ChangeShapes Go.WideShapes Go.ChangeAt Go.RowKit
variable {H:Type} {enc:TypeId × Value→H} {P:Program}
end
end Go.Sy
namespace Go.Sy
theorem Eb {P:Program} (Γ:Ty P) {o:Oper} {s:SS} {t:TypeId} {ti:TI} {et:TypeId} {len:Nat} {x y:Operand} {ik:IntKind} {n:Int} {l:List SV} {z:SV} {k:EK} (h:o.op=.index t x y) (ht:Γ.get t=some ti) (hk:ti.k=.array et len 1)
  (he:P.underlying et=some (EK.desc k)) (hx:ev s x=.agg l) (hy:ev s y=.val (.int ik n)) (h0:0≤n) (hn:n.toNat<len) (hz:Dm l n.toNat=some z):Good P o s ⟨z,[],[]⟩ :=
 Good.pure fun κ a w _ hr _=>by
  have h1:=hr x (by simp[h,Op.operands])
  have h2:=hr y (by simp[h,Op.operands])
  rw[hx]at h1
  rw[hy]at h2
  simp only[Rd]at h1
  obtain ⟨cs,e1,_,e2⟩:=h1
  obtain ⟨v,e3,e4⟩:=e2.getT hz
  obtain ⟨hu,i,q1,q2⟩:=K8 Γ ht hk
  have hp:=T0 (P:=P) w he cs.toArray e3
  have hlt:n<len:=by omega
  refine⟨v,?_,e4⟩
  simp[execOp,h,e1,h2.val,Instr.index,run_underlying hu,asIntOf,h0,hlt,sizeOf,typeInfo,q1,q2,hp]
theorem A0 {C:Cx} {k:List KI} {s:SS} (d:Nat) (l':List SV) {l:List SV} (h:s.h d=.box l) (hv:VwL s [] l l') (hg:G C k ⟨s.σ,upd s.h d (.box l')⟩):G C k s:=fun κ a w hs =>
 hg κ a w ⟨hs.defers,hs.size,hs.inv,hs.ctx,hs.slot,fun i=>by
  show ObOK κ w i (upd s.h d (.box l') i)
  by_cases hi:i=d
  ·subst hi
   rw[A6]
   have:=hs.obj i
   rw[h]at this
   obtain ⟨b,cs,T,fr,e1,e2,e3,e4,e5⟩:=this
   exact⟨b,cs,T,fr,e1,e2,e3,e4,VwL.rd hs.inv (fun _ hn=>by cases hn) hv e5⟩
  ·rw[Bq _ _ hi];exact hs.obj i⟩
end Go.Sy
namespace Go.Sy.YtmelpejjondedaaGreat
open Go.Proofs
attribute [local irreducible] Go.Sy.G Go.Sy.DR
set_option maxRecDepth 100000
set_option maxHeartbeats 4000000
theorem Lg {κ:Ka} {w:World} {k sz:Nat} {α:Type} {e:α→SV} {l:List α} (hne:l≠[]) (h:ObOK κ w k (.row sz e l)):∃ b n c,κ k=.row b n c:=by
 rcases h with ⟨_,h⟩ | ⟨b,cap,_,_,_,h,_⟩
 ·exact absurd h hne
 ·exact⟨b,_,cap,h⟩
theorem Yx (l:List Device) (hl:l.length<2147483648):Sy.Spec Tryz.prog 87 [.sl 5 Bh l] [] (.sl 5 Bh l) []:=Ab Γ hm 100 F87 Tryz.ntmps87 rfl fun F hF=>by
 conv=>whnf
 refine C9 E (.inl E) E E E .sl E E ?_
 intro b hb
 cases b
 ·(refine rg ?_;(conv=>whnf);refine aF ?_;refine rg ?_;conv=>whnf)
  refine Ah (Al Γ.toTy 7 E E E E E (.lit (e:=Bh) (l:=[]) E E) .sl qy (by simp;omega) (by simp;omega)) E E ?_
  refine At 7 E ?_
  refine rg ?_;conv=>whnf
  exact Ac E (.cons .tmp .nil) E E
 ·have h0:l=[]:=List.eq_nil_of_length_eq_zero (hb rfl)
  subst h0
  (refine rg ?_;(conv=>whnf);refine aT ?_;refine rg ?_;conv=>whnf)
  refine Ao 2 5 Bh E ?_
  exact Ac E (.cons .tmp .nil) E E
theorem Adk (l:List Link) (hl:l.length<2147483648):Sy.Spec Tryz.prog 89 [.sl 3 Cf l] [] (.sl 3 Cf l) []:=Ab Γ hm 100 F89 Tryz.ntmps89 rfl fun F hF=>by
 conv=>whnf
 refine C9 E (.inl E) E E E .sl E E ?_
 intro b hb
 cases b
 ·(refine rg ?_;(conv=>whnf);refine aF ?_;refine rg ?_;conv=>whnf)
  refine Ah (Al Γ.toTy 7 E E E E E (.lit (e:=Cf) (l:=[]) E E) .sl qy (by simp;omega) (by simp;omega)) E E ?_
  refine At 7 E ?_
  refine rg ?_;conv=>whnf
  exact Ac E (.cons .tmp .nil) E E
 ·have h0:l=[]:=List.eq_nil_of_length_eq_zero (hb rfl)
  subst h0
  (refine rg ?_;(conv=>whnf);refine aT ?_;refine rg ?_;conv=>whnf)
  refine Ao 2 3 Cf E ?_
  exact Ac E (.cons .tmp .nil) E E
theorem Yt (l:List Static) (hl:l.length<2147483648):Sy.Spec Tryz.prog 91 [.sl 4 Bf l] [] (.sl 4 Bf l) []:=Ab Γ hm 100 F91 Tryz.ntmps91 rfl fun F hF=>by
 conv=>whnf
 refine C9 E (.inl E) E E E .sl E E ?_
 intro b hb
 cases b
 ·(refine rg ?_;(conv=>whnf);refine aF ?_;refine rg ?_;conv=>whnf)
  refine Ah (Al Γ.toTy 7 E E E E E (.lit (e:=Bf) (l:=[]) E E) .sl qy (by simp;omega) (by simp;omega)) E E ?_
  refine At 7 E ?_
  refine rg ?_;conv=>whnf
  exact Ac E (.cons .tmp .nil) E E
 ·have h0:l=[]:=List.eq_nil_of_length_eq_zero (hb rfl)
  subst h0
  (refine rg ?_;(conv=>whnf);refine aT ?_;refine rg ?_;conv=>whnf)
  refine Ao 2 4 Bf E ?_
  exact Ac E (.cons .tmp .nil) E E
theorem Agr (l:List Irb) (hl:l.length<2147483648):Sy.Spec Tryz.prog 94 [.sl 5 Dn l] [] (.sl 5 Dn l) []:=Ab Γ hm 100 F94 Tryz.ntmps94 rfl fun F hF=>by
 conv=>whnf
 refine C9 E (.inl E) E E E .sl E E ?_
 intro b hb
 cases b
 ·(refine rg ?_;(conv=>whnf);refine aF ?_;refine rg ?_;conv=>whnf)
  refine Ah (Al Γ.toTy 7 E E E E E (.lit (e:=Dn) (l:=[]) E E) .sl qy (by simp;omega) (by simp;omega)) E E ?_
  refine At 7 E ?_
  refine rg ?_;conv=>whnf
  exact Ac E (.cons .tmp .nil) E E
 ·have h0:l=[]:=List.eq_nil_of_length_eq_zero (hb rfl)
  subst h0
  (refine rg ?_;(conv=>whnf);refine aT ?_;refine rg ?_;conv=>whnf)
  refine Ao 2 5 Dn E ?_
  exact Ac E (.cons .tmp .nil) E E
theorem Jh (l:List Int) (hl:l.length<2147483648):Sy.Spec Tryz.prog 95 [.sl 1 Aa l] [] (.sl 1 Aa l) []:=Ab Γ hm 100 F95 Tryz.ntmps95 rfl fun F hF=>by
 conv=>whnf
 refine C9 E (.inl E) E E E .sl E E ?_
 intro b hb
 cases b
 ·(refine rg ?_;(conv=>whnf);refine aF ?_;refine rg ?_;conv=>whnf)
  refine Ah (Al Γ.toTy 7 E E E E E (.lit (e:=Aa) (l:=[]) E E) .sl qy (by simp;omega) (by simp;omega)) E E ?_
  refine At 7 E ?_
  refine rg ?_;conv=>whnf
  exact Ac E (.cons .tmp .nil) E E
 ·have h0:l=[]:=List.eq_nil_of_length_eq_zero (hb rfl)
  subst h0
  (refine rg ?_;(conv=>whnf);refine aT ?_;refine rg ?_;conv=>whnf)
  refine Ao 2 1 Aa E ?_
  exact Ac E (.cons .tmp .nil) E E
theorem Agq (l:List Int) (hl:l.length<2147483648):Sy.Spec Tryz.prog 96 [.sl 1 Cd l] [] (.sl 1 Cd l) []:=Ab Γ hm 100 F96 Tryz.ntmps96 rfl fun F hF=>by
 conv=>whnf
 refine C9 E (.inl E) E E E .sl E E ?_
 intro b hb
 cases b
 ·(refine rg ?_;(conv=>whnf);refine aF ?_;refine rg ?_;conv=>whnf)
  refine Ah (Al Γ.toTy 7 E E E E E (.lit (e:=Cd) (l:=[]) E E) .sl qy (by simp;omega) (by simp;omega)) E E ?_
  refine At 7 E ?_
  refine rg ?_;conv=>whnf
  exact Ac E (.cons .tmp .nil) E E
 ·have h0:l=[]:=List.eq_nil_of_length_eq_zero (hb rfl)
  subst h0
  (refine rg ?_;(conv=>whnf);refine aT ?_;refine rg ?_;conv=>whnf)
  refine Ao 2 1 Cd E ?_
  exact Ac E (.cons .tmp .nil) E E
theorem Vk (l:List Bool) (hl:l.length<2147483648):Sy.Spec Tryz.prog 55 [.sl 1 Ad l] [] (.sl 1 Ad l) []:=Ab Γ hm 100 F55 Tryz.ntmps55 rfl fun F hF=>by
 conv=>whnf
 refine C9 E (.inl E) E E E .sl E E ?_
 intro b hb
 cases b
 ·(refine rg ?_;(conv=>whnf);refine aF ?_;refine rg ?_;conv=>whnf)
  refine Ah (Al Γ.toTy 7 E E E E E (.lit (e:=Ad) (l:=[]) E E) .sl qy (by simp;omega) (by simp;omega)) E E ?_
  refine At 7 E ?_
  refine rg ?_;conv=>whnf
  exact Ac E (.cons .tmp .nil) E E
 ·have h0:l=[]:=List.eq_nil_of_length_eq_zero (hb rfl)
  subst h0
  (refine rg ?_;(conv=>whnf);refine aT ?_;refine rg ?_;conv=>whnf)
  refine Ao 2 1 Ad E ?_
  exact Ac E (.cons .tmp .nil) E E
theorem Adj (l:List Port) (hl:l.length<2147483648):Sy.Spec Tryz.prog 88 [.sl 7 A9 l] [] (.osl 0) [(0,.row 7 A9 l)]:=Ab Γ hm 100 F88 Tryz.ntmps88 rfl fun F hF=>by
 conv=>whnf
 refine C9 E (.inl E) E E E .sl E E ?_
 intro b hb
 cases b
 ·(refine rg ?_;(conv=>whnf);refine aF ?_;refine rg ?_;conv=>whnf)
  refine Ah (Al Γ.toTy 7 E E E E E (.lit (e:=A9) (l:=[]) E E) .sl qy (by simp;omega) (by simp;omega)) E E ?_
  refine rg ?_;conv=>whnf
  exact done E (.cons .tmp .nil) [(0,7)] [(0,.row 7 A9 l)] (fun _ h=>h) E E ⟨Y,⟨.inl E,E,Y⟩,E,E⟩
 ·have h0:l=[]:=List.eq_nil_of_length_eq_zero (hb rfl)
  subst h0
  (refine rg ?_;(conv=>whnf);refine aT ?_;refine rg ?_;conv=>whnf)
  refine Ca 2 1000 7 A9 E E ?_
  exact done E (.cons .tmp .nil) [(0,1000)] [(0,.row 7 A9 [])] (fun _ h=>h) E E ⟨Y,⟨.inl E,E,Y⟩,E,E⟩
theorem Yw (l:List Domain) (hl:l.length<2147483648):Sy.Spec Tryz.prog 90 [.sl 6 Au l] [] (.osl 0) [(0,.row 6 Au l)]:=Ab Γ hm 100 F90 Tryz.ntmps90 rfl fun F hF=>by
 conv=>whnf
 refine C9 E (.inl E) E E E .sl E E ?_
 intro b hb
 cases b
 ·(refine rg ?_;(conv=>whnf);refine aF ?_;refine rg ?_;conv=>whnf)
  refine Ah (Al Γ.toTy 7 E E E E E (.lit (e:=Au) (l:=[]) E E) .sl qy (by simp;omega) (by simp;omega)) E E ?_
  refine rg ?_;conv=>whnf
  exact done E (.cons .tmp .nil) [(0,7)] [(0,.row 6 Au l)] (fun _ h=>h) E E ⟨Y,⟨.inl E,E,Y⟩,E,E⟩
 ·have h0:l=[]:=List.eq_nil_of_length_eq_zero (hb rfl)
  subst h0
  (refine rg ?_;(conv=>whnf);refine aT ?_;refine rg ?_;conv=>whnf)
  refine Ca 2 1000 6 Au E E ?_
  exact done E (.cons .tmp .nil) [(0,1000)] [(0,.row 6 Au [])] (fun _ h=>h) E E ⟨Y,⟨.inl E,E,Y⟩,E,E⟩
theorem Abc (l:List Flood) (hl:l.length<2147483648):Sy.Spec Tryz.prog 92 [.sl 4 Bw l] [] (.osl 0) [(0,.row 4 Bw l)]:=Ab Γ hm 100 F92 Tryz.ntmps92 rfl fun F hF=>by
 conv=>whnf
 refine C9 E (.inl E) E E E .sl E E ?_
 intro b hb
 cases b
 ·(refine rg ?_;(conv=>whnf);refine aF ?_;refine rg ?_;conv=>whnf)
  refine Ah (Al Γ.toTy 7 E E E E E (.lit (e:=Bw) (l:=[]) E E) .sl qy (by simp;omega) (by simp;omega)) E E ?_
  refine rg ?_;conv=>whnf
  exact done E (.cons .tmp .nil) [(0,7)] [(0,.row 4 Bw l)] (fun _ h=>h) E E ⟨Y,⟨.inl E,E,Y⟩,E,E⟩
 ·have h0:l=[]:=List.eq_nil_of_length_eq_zero (hb rfl)
  subst h0
  (refine rg ?_;(conv=>whnf);refine aT ?_;refine rg ?_;conv=>whnf)
  refine Ca 2 1000 4 Bw E E ?_
  exact done E (.cons .tmp .nil) [(0,1000)] [(0,.row 4 Bw [])] (fun _ h=>h) E E ⟨Y,⟨.inl E,E,Y⟩,E,E⟩
theorem Agp (l:List Vrf) (hl:l.length<2147483648):Sy.Spec Tryz.prog 93 [.sl 5 Ct l] [] (.osl 0) [(0,.row 5 Ct l)]:=Ab Γ hm 100 F93 Tryz.ntmps93 rfl fun F hF=>by
 conv=>whnf
 refine C9 E (.inl E) E E E .sl E E ?_
 intro b hb
 cases b
 ·(refine rg ?_;(conv=>whnf);refine aF ?_;refine rg ?_;conv=>whnf)
  refine Ah (Al Γ.toTy 7 E E E E E (.lit (e:=Ct) (l:=[]) E E) .sl qy (by simp;omega) (by simp;omega)) E E ?_
  refine rg ?_;conv=>whnf
  exact done E (.cons .tmp .nil) [(0,7)] [(0,.row 5 Ct l)] (fun _ h=>h) E E ⟨Y,⟨.inl E,E,Y⟩,E,E⟩
 ·have h0:l=[]:=List.eq_nil_of_length_eq_zero (hb rfl)
  subst h0
  (refine rg ?_;(conv=>whnf);refine aT ?_;refine rg ?_;conv=>whnf)
  refine Ca 2 1000 5 Ct E E ?_
  exact done E (.cons .tmp .nil) [(0,1000)] [(0,.row 5 Ct [])] (fun _ h=>h) E E ⟨Y,⟨.inl E,E,Y⟩,E,E⟩
theorem copyS (n:Net) (hn:n.Fin) :
  Sy.Spec Tryz.prog 45 [Aq n] [] (Aq n) []:=Ab Γ hm 100 F45 Tryz.ntmps45 rfl fun F hF=>by
 have h1:n.devices.length<2147483648∧n.ports.length<2147483648∧n.links.length<2147483648∧n.domains.length<2147483648∧n.statics.length<2147483648∧n.floods.length<2147483648∧n.vrfs.length<2147483648∧n.irbs.length<2147483648:=⟨hn.devices,hn.ports,hn.links,hn.domains,hn.statics,hn.floods,hn.vrfs,hn.irbs⟩
 have h2:(∀ p∈n.ports,p.tagged.length<2147483648)∧(∀ p∈n.domains,p.peers.length<2147483648)∧(∀ p∈n.floods,p.addrs.length<2147483648)∧(∀ p∈n.vrfs,p.imports.length<2147483648∧p.exports.length<2147483648):=⟨hn.tagged,hn.peers,hn.addrs,fun v hv=>⟨hn.imports v hv,hn.exports v hv⟩⟩
 conv=>whnf
 refine Ay (Yx n.devices h1.1) F87 E E E qq E ?_
 refine rd qq ?_;conv=>whnf
 refine Bs (Ai [(0,14)] E F88 (Adj n.ports h1.2.1) E Y E ⟨.inr E,Y⟩) qq E ?_
 refine rd qq ?_;conv=>whnf
 refine Ay (Adk n.links h1.2.2.1) F89 E E E qq E ?_
 refine rd qq ?_;conv=>whnf
 refine Bs (Ai [(0,20)] E F90 (Yw n.domains h1.2.2.2.1) E Y E ⟨.inr E,Y⟩) qq E ?_
 refine rd qq ?_;conv=>whnf
 refine Ay (Yt n.statics h1.2.2.2.2.1) F91 E E E qq E ?_
 refine rd qq ?_;conv=>whnf
 refine Bs (Ai [(0,26)] E F92 (Abc n.floods h1.2.2.2.2.2.1) E Y E ⟨.inr E,Y⟩) qq E ?_
 refine rd qq ?_;conv=>whnf
 refine Bs (Ai [(0,29)] E F93 (Agp n.vrfs h1.2.2.2.2.2.2.1) E Y E ⟨.inr E,Y⟩) qq E ?_
 refine rd qq ?_;conv=>whnf
 refine Ay (Agr n.irbs h1.2.2.2.2.2.2.2) F94 E E E qq E ?_
 refine rd qq ?_;conv=>whnf
 refine⟨qq,?_⟩
 conv=>whnf
 refine A1 n.ports.length (fun j=>[(2,.ptr 2 0),(3,.ptr 3 0),(36,Aa n.ports.length),(37,Aa j)]) (fun _=>[(2,.box [.val (.slice none 0 0),.val (.slice none 0 0),.val (.slice none 0 0),.val (.slice none 0 0),.val (.slice none 0 0),.val (.slice none 0 0),.val (.slice none 0 0),.val (.slice none 0 0)]),(3,.box [.sl 5 Bh n.devices,.osl 14,.sl 3 Cf n.links,.osl 20,.sl 4 Bf n.statics,.osl 26,.osl 29,.sl 5 Dn n.irbs]),(14,.row 7 A9 n.ports),(20,.row 6 Au n.domains),(26,.row 4 Bw n.floods),(29,.row 5 Ct n.vrfs)]) []
  ⟨⟨rfl,rfl,rfl,rfl,rfl,rfl,rfl,rfl,trivial⟩,⟨.inl rfl,rfl,.inl rfl,rfl,.inl rfl,rfl,.inl rfl,rfl,.inl rfl,rfl,.inl rfl,rfl,trivial⟩,rfl,rfl⟩ ?_
 intro j hj
 refine rg ?_;conv=>whnf
 refine⟨fun h=>?_,fun h=>?_⟩
 ·have hlt:j<n.ports.length:=by simpa using h
  obtain ⟨p,hp⟩:∃ p,n.ports[(j:Int).toNat]'qn=p:=⟨_,rfl⟩
  have hne:n.ports≠[]:=fun e=>by rw[e]at hlt;cases hlt
  have hset:n.ports.set (j:Int).toNat p=n.ports:=by rw[← hp];exact List.set_getElem_self _
  have hpl:=h2.1 p (by rw[← hp];exact List.getElem_mem _)
  refine rg ?_;conv=>whnf
  refine⟨by omega,by show _<n.ports.length;omega,?_⟩
  conv=>whnf
  refine⟨hne,?_⟩
  conv=>whnf
  refine⟨E,by omega,?_⟩
  rw[hp]
  conv=>whnf
  refine Ay (Jh p.tagged hpl) F95 E E E qq E ?_
  refine rd qq ?_;conv=>whnf
  refine⟨by omega,by show _<n.ports.length;omega,?_⟩
  conv=>whnf
  refine⟨hne,?_⟩
  conv=>whnf
  refine⟨E,by omega,p,(by rw[hp];rfl),(by rw[hp];rfl),?_⟩
  conv=>whnf
  refine⟨qq,?_⟩
  conv=>whnf
  refine⟨by unfold I64;omega,?_⟩
  conv=>whnf
  exact Ar [] hlt ⟨⟨E,E,E,E,E,E,E,E,Y⟩,⟨.inl E,E,.inl E,E,.inl (congrArg (Ob.row 7 A9) hset.symm),E,.inl E,E,.inl E,E,.inl E,E,Y⟩,E,E⟩
 ·refine rg ?_;conv=>whnf
  refine A1 n.domains.length (fun j=>[(2,.ptr 2 0),(3,.ptr 3 0),(55,Aa n.domains.length),(56,Aa j)]) (fun _=>[(2,.box [.val (.slice none 0 0),.val (.slice none 0 0),.val (.slice none 0 0),.val (.slice none 0 0),.val (.slice none 0 0),.val (.slice none 0 0),.val (.slice none 0 0),.val (.slice none 0 0)]),(3,.box [.sl 5 Bh n.devices,.osl 14,.sl 3 Cf n.links,.osl 20,.sl 4 Bf n.statics,.osl 26,.osl 29,.sl 5 Dn n.irbs]),(14,.row 7 A9 n.ports),(20,.row 6 Au n.domains),(26,.row 4 Bw n.floods),(29,.row 5 Ct n.vrfs)]) []
   ⟨⟨rfl,rfl,rfl,rfl,rfl,rfl,rfl,rfl,trivial⟩,⟨.inl rfl,rfl,.inl rfl,rfl,.inl rfl,rfl,.inl rfl,rfl,.inl rfl,rfl,.inl rfl,rfl,trivial⟩,rfl,rfl⟩ ?_
  intro j hj
  refine rg ?_;conv=>whnf
  refine⟨fun h=>?_,fun h=>?_⟩
  ·have hlt:j<n.domains.length:=by simpa using h
   obtain ⟨p,hp⟩:∃ p,n.domains[(j:Int).toNat]'qn=p:=⟨_,rfl⟩
   have hne:n.domains≠[]:=fun e=>by rw[e]at hlt;cases hlt
   have hset:n.domains.set (j:Int).toNat p=n.domains:=by rw[← hp];exact List.set_getElem_self _
   have hpl:=h2.2.1 p (by rw[← hp];exact List.getElem_mem _)
   refine rg ?_;conv=>whnf
   refine⟨by omega,by show _<n.domains.length;omega,?_⟩
   conv=>whnf
   refine⟨hne,?_⟩
   conv=>whnf
   refine⟨E,by omega,?_⟩
   rw[hp]
   conv=>whnf
   refine Ay (Jh p.peers hpl) F95 E E E qq E ?_
   refine rd qq ?_;conv=>whnf
   refine⟨by omega,by show _<n.domains.length;omega,?_⟩
   conv=>whnf
   refine⟨hne,?_⟩
   conv=>whnf
   refine⟨E,by omega,p,(by rw[hp];rfl),(by rw[hp];rfl),?_⟩
   conv=>whnf
   refine⟨qq,?_⟩
   conv=>whnf
   refine⟨by unfold I64;omega,?_⟩
   conv=>whnf
   exact Ar [] hlt ⟨⟨E,E,E,E,E,E,E,E,Y⟩,⟨.inl E,E,.inl E,E,.inl E,E,.inl (congrArg (Ob.row 6 Au) hset.symm),E,.inl E,E,.inl E,E,Y⟩,E,E⟩
  ·refine rg ?_;conv=>whnf
   refine A1 n.floods.length (fun j=>[(2,.ptr 2 0),(3,.ptr 3 0),(74,Aa n.floods.length),(75,Aa j)]) (fun _=>[(2,.box [.val (.slice none 0 0),.val (.slice none 0 0),.val (.slice none 0 0),.val (.slice none 0 0),.val (.slice none 0 0),.val (.slice none 0 0),.val (.slice none 0 0),.val (.slice none 0 0)]),(3,.box [.sl 5 Bh n.devices,.osl 14,.sl 3 Cf n.links,.osl 20,.sl 4 Bf n.statics,.osl 26,.osl 29,.sl 5 Dn n.irbs]),(14,.row 7 A9 n.ports),(20,.row 6 Au n.domains),(26,.row 4 Bw n.floods),(29,.row 5 Ct n.vrfs)]) []
    ⟨⟨rfl,rfl,rfl,rfl,rfl,rfl,rfl,rfl,trivial⟩,⟨.inl rfl,rfl,.inl rfl,rfl,.inl rfl,rfl,.inl rfl,rfl,.inl rfl,rfl,.inl rfl,rfl,trivial⟩,rfl,rfl⟩ ?_
   intro j hj
   refine rg ?_;conv=>whnf
   refine⟨fun h=>?_,fun h=>?_⟩
   ·have hlt:j<n.floods.length:=by simpa using h
    obtain ⟨p,hp⟩:∃ p,n.floods[(j:Int).toNat]'qn=p:=⟨_,rfl⟩
    have hne:n.floods≠[]:=fun e=>by rw[e]at hlt;cases hlt
    have hset:n.floods.set (j:Int).toNat p=n.floods:=by rw[← hp];exact List.set_getElem_self _
    have hpl:=h2.2.2.1 p (by rw[← hp];exact List.getElem_mem _)
    refine rg ?_;conv=>whnf
    refine⟨by omega,by show _<n.floods.length;omega,?_⟩
    conv=>whnf
    refine⟨hne,?_⟩
    conv=>whnf
    refine⟨E,by omega,?_⟩
    rw[hp]
    conv=>whnf
    refine Ay (Agq p.addrs hpl) F96 E E E qq E ?_
    refine rd qq ?_;conv=>whnf
    refine⟨by omega,by show _<n.floods.length;omega,?_⟩
    conv=>whnf
    refine⟨hne,?_⟩
    conv=>whnf
    refine⟨E,by omega,p,(by rw[hp];rfl),(by rw[hp];rfl),?_⟩
    conv=>whnf
    refine⟨qq,?_⟩
    conv=>whnf
    refine⟨by unfold I64;omega,?_⟩
    conv=>whnf
    exact Ar [] hlt ⟨⟨E,E,E,E,E,E,E,E,Y⟩,⟨.inl E,E,.inl E,E,.inl E,E,.inl E,E,.inl (congrArg (Ob.row 4 Bw) hset.symm),E,.inl E,E,Y⟩,E,E⟩
   ·refine rg ?_;conv=>whnf
    refine A1 n.vrfs.length (fun j=>[(2,.ptr 2 0),(3,.ptr 3 0),(93,Aa n.vrfs.length),(94,Aa j)]) (fun _=>[(2,.box [.val (.slice none 0 0),.val (.slice none 0 0),.val (.slice none 0 0),.val (.slice none 0 0),.val (.slice none 0 0),.val (.slice none 0 0),.val (.slice none 0 0),.val (.slice none 0 0)]),(3,.box [.sl 5 Bh n.devices,.osl 14,.sl 3 Cf n.links,.osl 20,.sl 4 Bf n.statics,.osl 26,.osl 29,.sl 5 Dn n.irbs]),(14,.row 7 A9 n.ports),(20,.row 6 Au n.domains),(26,.row 4 Bw n.floods),(29,.row 5 Ct n.vrfs)]) []
     ⟨⟨rfl,rfl,rfl,rfl,rfl,rfl,rfl,rfl,trivial⟩,⟨.inl rfl,rfl,.inl rfl,rfl,.inl rfl,rfl,.inl rfl,rfl,.inl rfl,rfl,.inl rfl,rfl,trivial⟩,rfl,rfl⟩ ?_
    intro j hj
    refine rg ?_;conv=>whnf
    refine⟨fun h=>?_,fun h=>?_⟩
    ·have hlt:j<n.vrfs.length:=by simpa using h
     obtain ⟨p,hp⟩:∃ p,n.vrfs[(j:Int).toNat]'qn=p:=⟨_,rfl⟩
     have hne:n.vrfs≠[]:=fun e=>by rw[e]at hlt;cases hlt
     have hset:n.vrfs.set (j:Int).toNat p=n.vrfs:=by rw[← hp];exact List.set_getElem_self _
     have hpl:=h2.2.2.2 p (by rw[← hp];exact List.getElem_mem _)
     refine rg ?_;conv=>whnf
     have hne2:n.vrfs.set (j:Int).toNat p≠[]:=by rw[hset];exact hne
     have hp2:(n.vrfs.set (j:Int).toNat p)[(j:Int).toNat]'(by rw[hset];omega)=p:=by simp
     have hset2:(n.vrfs.set (j:Int).toNat p).set (j:Int).toNat p=n.vrfs:=by rw[hset,hset]
     refine⟨by omega,by show _<n.vrfs.length;omega,?_⟩
     conv=>whnf
     refine Bs (Cw E (.inr (.inr (.inr ⟨29,5,_,0,E,fun κ w h=>Lg hne h,E⟩)))) qq E ?_
     refine rd qq ?_;conv=>whnf
     refine⟨hne,?_⟩
     conv=>whnf
     refine⟨E,by omega,?_⟩
     rw[hp]
     conv=>whnf
     refine Ay (Jh p.imports hpl.1) F95 E E E qq E ?_
     refine rd qq ?_;conv=>whnf
     refine Bs (Cw E (.inr (.inr (.inr ⟨29,5,_,0,E,fun κ w h=>Lg hne h,E⟩)))) qq E ?_
     refine rd qq ?_;conv=>whnf
     refine⟨hne,?_⟩
     conv=>whnf
     refine⟨E,by omega,?_⟩
     rw[hp]
     conv=>whnf
     refine Ay (Jh p.exports hpl.2) F95 E E E qq E ?_
     refine rd qq ?_;conv=>whnf
     refine Bs (Cw E (.inr (.inr (.inr ⟨29,5,_,0,E,fun κ w h=>Lg hne h,E⟩)))) qq E ?_
     refine rd qq ?_;conv=>whnf
     refine⟨hne,?_⟩
     conv=>whnf
     refine⟨E,by omega,p,(by rw[hp];rfl),(by rw[hp];rfl),?_⟩
     conv=>whnf
     refine Bs (Cw E (.inr (.inr (.inr ⟨29,5,_,0,E,fun κ w h=>Lg hne2 h,E⟩)))) qq E ?_
     refine rd qq ?_;conv=>whnf
     refine⟨hne2,?_⟩
     conv=>whnf
     refine⟨E,by rw[hset];omega,p,(by rw[hp2];rfl),(by rw[hp2];rfl),?_⟩
     conv=>whnf
     refine⟨qq,?_⟩
     conv=>whnf
     refine⟨by unfold I64;omega,?_⟩
     conv=>whnf
     exact Ar [] hlt ⟨⟨E,E,E,E,E,E,E,E,Y⟩,⟨.inl E,E,.inl E,E,.inl E,E,.inl E,E,.inl E,E,.inl (congrArg (Ob.row 5 Ct) hset2.symm),E,Y⟩,E,E⟩
    ·refine rg ?_;conv=>whnf
     refine At 14 E ?_
     refine At 20 E ?_
     refine At 26 E ?_
     refine At 29 E ?_
     exact Ac E (.cons (.cell E E E E) .nil) E E
theorem E2 (l:List UInt8) (hl:l.length<2147483648):Sy.Spec Tryz.prog 63 [.sl 1 Ak l] [] (.sl 1 Ak l) []:=Ab Γ hm 100 F63 Tryz.ntmps63 rfl fun F hF=>by
 conv=>whnf
 refine C9 E (.inl E) E E E .sl E E ?_
 intro b hb
 cases b
 ·(refine rg ?_;(conv=>whnf);refine aF ?_;refine rg ?_;conv=>whnf)
  refine Ah (Al Γ.toTy 7 E E E E E (.lit (e:=Ak) (l:=[]) E E) .sl qy (by simp;omega) (by simp;omega)) E E ?_
  refine At 7 E ?_
  refine rg ?_;conv=>whnf
  exact Ac E (.cons .tmp .nil) E E
 ·have h0:l=[]:=List.eq_nil_of_length_eq_zero (hb rfl)
  subst h0
  (refine rg ?_;(conv=>whnf);refine aT ?_;refine rg ?_;conv=>whnf)
  refine Ao 2 1 Ak E ?_
  exact Ac E (.cons .tmp .nil) E E
theorem cut6 (b:List UInt8) (k j:Nat) (hj:j<6) (h:k+6≤b.length):Hn (((b.drop k).take 6).take (j+1))=Hn (((b.drop k).take 6).take j) * 256+(b[k+j]'qn).toNat:=by
 rw[Ae1 _ (by rw[List.length_take,List.length_drop];omega)]
 congr 2
 rw[List.getElem_take,List.getElem_drop]
theorem Z9 (b:List UInt8) (k:Nat) (h:k+6≤b.length) (hb:b.length<100000):Sy.Spec Tryz.prog 237 [.sl 1 Ak b,Aa k] [] (.tup [A7 (Hn ((b.drop k).take 6)),Ad true]) []:=Ab Γ hm 100 F237 Tryz.ntmps237 rfl fun F hF=>by
 ((conv=>whnf);refine aF ?_;refine rg ?_;conv=>whnf)
 refine⟨by unfold I64;omega,?_⟩
 conv=>whnf
 (refine⟨fun h=>False.elim (by simp at h;omega),fun _=>?_⟩;refine rg ?_;conv=>whnf)
 refine A1 6 (fun j=>[(0,.sl 1 Ak b),(1,Aa k),(6,A7 (Hn (((b.drop k).take 6).take j))),(17,Aa j)]) (fun _=>[]) [] ⟨⟨E,E,E,E,E,E,E,E,Y⟩,Y,E,E⟩ ?_
 intro j hj
 have hlt2:=Jk _ (((b.drop k).take 6).take j) rfl
 refine rg ?_;conv=>whnf
 refine⟨fun h2=>?_,fun h2=>?_⟩
 ·have hj6:j<6:=by have:=of_decide_eq_true h2;omega
  have hs:=cut6 b k j hj6 h
  have hll:(((b.drop k).take 6).take j).length=j:=by rw[List.length_take,List.length_take,List.length_drop];omega
  rw[hll]at hlt2
  have h5:Hn (((b.drop k).take 6).take j)<1099511627776:=Nat.lt_of_lt_of_le hlt2 (by
   have:(256:Nat) ^ j≤256 ^ 5:=Nat.pow_le_pow_right qx qn
   exact this)
  have hi0:((k:Int)+(j:Int)).toNat<b.length:=by omega
  obtain ⟨c,hc⟩:∃ c,b[((k:Int)+(j:Int)).toNat]'hi0=c:=⟨_,rfl⟩
  have hc':b[k+j]'qn=c:=by rw[← hc];congr 1
  rw[hc']at hs
  have hcat:=Akh _ c h5
  refine rg ?_;conv=>whnf
  refine⟨by decide,?_⟩
  conv=>whnf
  refine⟨by unfold I64;omega,?_⟩
  conv=>whnf
  refine⟨E,by omega,hi0,?_⟩
  rw[hc]
  conv=>whnf
  refine⟨by unfold I64;omega,?_⟩
  conv=>whnf
  exact Ar [] hj6 ⟨⟨E,E,E,E,congrArg (fun z:Int=>SV.val (.int .u64 z)) (hcat.trans (congrArg Int.ofNat hs.symm)).symm,E,E,E,Y⟩,Y,E,E⟩
 ·have hj6:j=6:=by have:=of_decide_eq_false h2;omega
  subst hj6
  rw[List.take_take,Nat.min_self]
  refine rg ?_;conv=>whnf
  exact Ac E (.cons .tmp (.cons .tmp .nil)) E E
theorem Adx (a b:UInt8):Hn [a,b]=a.toNat * 256+b.toNat:=by simp[Hn]
theorem M6 {b:List UInt8} {k:Nat} (h:k+2≤b.length):(b.drop k).take 2=[b[k]'qn,b[k+1]'qn]:=by
 rw[List.drop_eq_getElem_cons (by omega:k<b.length),List.drop_eq_getElem_cons (by omega:k+1<b.length)];rfl
theorem My (b:List UInt8) (hb:b.length<100000):Sy.Spec Tryz.prog 165 [.sl 1 Ak b] [] (.tup [Bv (takeF b).1,Aa (takeF b).2]) []:=Ab Γ hm 100 F165 Tryz.ntmps165 rfl fun F hF=>by
 have hres:=takeF.eq_1 b
 generalize takeF b=res at *
 conv=>whnf
 refine⟨fun h=>?_,fun h=>?_⟩
 ·rw[if_pos (by have:=of_decide_eq_true h;omega)]at hres
  subst hres
  refine rg ?_;conv=>whnf
  refine A0 2 [A7 0,A7 0,Aa 0,.sl 1 Ak []] E (.cons (.refl _) (.cons (.refl _) (.cons (.refl _) (.cons .nil .nil)))) ?_
  exact Ac E (.cons (.cell E E E E) (.cons .tmp .nil)) E E
 rw[if_neg (by have:=of_decide_eq_false h;omega)]at hres
 have h14:14≤b.length:=by have:=of_decide_eq_false h;omega
 refine rg ?_;conv=>whnf
 refine⟨fun h=>?_,fun h=>?_⟩
 ·rw[if_pos (by have:=of_decide_eq_true h;omega)]at hres
  subst hres
  refine rg ?_;conv=>whnf
  refine A0 2 [A7 0,A7 0,Aa 0,.sl 1 Ak []] E (.cons (.refl _) (.cons (.refl _) (.cons (.refl _) (.cons .nil .nil)))) ?_
  exact Ac E (.cons (.cell E E E E) (.cons .tmp .nil)) E E
 rw[if_neg (by have:=of_decide_eq_false h;omega)]at hres
 have q1:=Z9 b 0 qn hb
 have q2:=Z9 b 6 qn hb
 rw[M6 qn,Adx]at hres
 have hp:=D0 (b[12]'qn) (b[13]'qn)
 have hdl:(b.drop 14).length=b.length-14:=List.length_drop
 have hn:((b.length:Int)-14)=((b.length-14:Nat):Int):=by omega
 have hcp:(b.drop 14).take (List.replicate (b.length-14) (0:UInt8)).length++(List.replicate (b.length-14) (0:UInt8)).drop (b.drop 14).length=b.drop 14:=by
  have e1:(List.replicate (b.length-14) (0:UInt8)).drop (b.length-14)=[]:=List.drop_eq_nil_of_le qy
  rw[List.length_replicate,hdl,e1,List.append_nil]
  exact List.take_of_length_le qn
 have etk:(b.take b.length).drop 14=b.drop 14:=by rw[List.take_length]
 have i12:(12:Int).toNat<b.length:=by show 12<_;omega
 have i13:(13:Int).toNat<b.length:=by show 13<_;omega
 refine rg ?_;conv=>whnf
 refine Ag q1 F237 E E E E E ?_
 refine rg ?_;conv=>whnf
 refine Ag q2 F237 E E E E E ?_
 refine rg ?_;conv=>whnf
 refine⟨by unfold I64;omega,?_⟩
 conv=>whnf
 refine Ah (Bt Γ.toTy (d:=32) (n:=b.length-14) Ak 0 E E E E E E (congrArg (fun z=>SV.val (.int .i64 z)) hn) (congrArg (fun z=>SV.val (.int .i64 z)) hn) qn qn E E E) E E ?_
 refine rg ?_;conv=>whnf
 refine Ah (Ch (lo:=14) (hi:=b.length) Γ.toTy E E E E (.inr ⟨_,_,E,E⟩) (.inl ⟨E,E⟩) qn (Nat.le_refl _)) E E ?_
 rw[etk]
 refine rg ?_;conv=>whnf
 refine Ah (Q3 Γ.toTy E E E E E .sl) E E ?_
 rw[hcp]
 refine At 32 E ?_
 refine rg ?_;conv=>whnf
 refine⟨E,by decide,i12,?_⟩
 conv=>whnf
 refine⟨by decide,?_⟩
 conv=>whnf
 refine⟨E,by decide,i13,?_⟩
 conv=>whnf
 refine⟨qq,?_⟩
 conv=>whnf
 refine Ac E (.cons (.cell E E E E) (.cons .tmp .nil)) ?_ E
 rw[hres]
 show SV.tup [.agg [_,_,Aa ((b[12].toNat * 256+b[13].toNat:Nat):Int),_],_]=_
 rw[← hp]
 rfl
theorem I9 (m:Nat) (h:m<18446744073709551616):Sy.Spec Tryz.prog 162 [A7 m] [] (Ad (E1 m)) []:=Ab Γ hm 100 F162 Tryz.ntmps162 rfl fun F hF=>by
 have e:=Agg m h
 conv=>whnf
 refine Ac E (.cons .tmp .nil) ?_ E
 exact congrArg Ad e.symm
theorem Ld (f:FrameM):Sy.Spec Tryz.prog 166 [Bv f] [] (Ad (decide (f.typ=33024))) []:=Ab Γ hm 100 F166 Tryz.ntmps166 rfl fun F hF=>by
 conv=>whnf
 refine Ac E (.cons .tmp .nil) ?_ E
 refine congrArg Ad ?_
 rw[Bool.eq_iff_iff];simp;omega
theorem J3 (p:Port) (tg:Bool) (vid:Int) (hl:Am p.tagged):Sy.Spec Tryz.prog 168 [A9 p,Ad tg,Aa vid] [] (.tup [Aa (vlanT p tg vid).1,Ad (vlanT p tg vid).2]) []:=Ab Γ hm 100 F168 Tryz.ntmps168 rfl fun F hF=>by
 have hres:=vlanT.eq_1 p tg vid
 generalize vlanT p tg vid=res at *
 have q:=C6 p.tagged vid hl
 have hz:decide (p.native≠0)=(p.native != 0):=by rw[Bool.eq_iff_iff];simp
 rw[hz]at hres
 cases tg
 ·rw[if_pos (.inl rfl)]at hres
  subst hres
  ((conv=>whnf);refine aT ?_;refine rg ?_;conv=>whnf)
  refine⟨qq,?_⟩
  conv=>whnf
  exact Ac E (.cons .tmp (.cons .tmp .nil)) E E
 ((conv=>whnf);refine aF ?_;refine rg ?_;conv=>whnf)
 refine⟨fun h=>?_,fun h=>?_⟩
 ·rw[if_pos (.inr (by simpa using h))]at hres
  subst hres
  refine rg ?_;conv=>whnf
  refine⟨qq,?_⟩
  conv=>whnf
  exact Ac E (.cons .tmp (.cons .tmp .nil)) E E
 rw[if_neg (by simpa using h)]at hres
 refine rg ?_;conv=>whnf
 refine Ag q F86 E E E E E ?_
 cases hi:inB p.tagged vid
 ·rw[if_neg (by simp[hi])]at hres
  subst hres
  (refine rg ?_;(conv=>whnf);refine aF ?_;refine rg ?_;conv=>whnf)
  exact Ac E (.cons .tmp (.cons .tmp .nil)) E E
 ·rw[if_pos hi]at hres
  subst hres
  (refine rg ?_;(conv=>whnf);refine aT ?_;refine rg ?_;conv=>whnf)
  exact Ac E (.cons .tmp (.cons .tmp .nil)) E E
theorem Aj0 (n:Nat) (h:n<9223372036854775808):bits .and .i64 (n:Int) 4095=((n % 4096:Nat):Int):=by
 have:=E3 n 4095 h qx
 rw[show ((4095:Nat):Int)=4095 from rfl]at this
 rw[this]
 have h2:=Nat.and_two_pow_sub_one_eq_mod n 12
 rw[show 2 ^ 12-1=4095 from rfl,show 2 ^ 12=4096 from rfl]at h2
 rw[h2]
theorem Ajw {b:List UInt8} (h:4≤b.length):b.take 2=[b[0]'qn,b[1]'qn]∧(b.drop 2).take 2=[b[2]'qn,b[3]'qn]:=by
 have h1:=M6 (b:=b) (k:=0) qn
 have h2:=M6 (b:=b) (k:=2) qn
 exact⟨h1,h2⟩
abbrev zF:List SV:=[A7 0,A7 0,Aa 0,.sl 1 Ak []]
theorem Ae3 (f:FrameM) (hb:f.body.length<100000):Sy.Spec Tryz.prog 167 [Bv f] [] (.tup [Bv (stripT f).1,Aa (stripT f).2.1,Aa (stripT f).2.2.1,Aa (stripT f).2.2.2]) []:=Ab Γ hm 100 F167 Tryz.ntmps167 rfl fun F hF=>by
 have hres:=stripT.eq_1 f
 generalize stripT f=res at *
 have q0:=Ld f
 obtain ⟨d,s,t,b⟩:=f
 dsimp only at hres hb q0
 conv=>whnf
 refine Ag q0 F166 E E E E E ?_
 by_cases ht:t=33024
 rotate_left
 ·rw[if_pos ht]at hres
  subst hres
  rw[decide_eq_false ht]
  (refine rg ?_;(conv=>whnf);refine aT ?_;refine rg ?_;conv=>whnf)
  refine A0 2 zF E (.cons (.refl _) (.cons (.refl _) (.cons (.refl _) (.cons .nil .nil)))) ?_
  exact Ac E (.cons (.cell E E E E) (.cons .tmp (.cons .tmp (.cons .tmp .nil)))) E E
 rw[if_neg (by simpa using ht)]at hres
 rw[decide_eq_true ht]
 (refine rg ?_;(conv=>whnf);refine aF ?_;refine rg ?_;conv=>whnf)
 refine⟨fun h=>?_,fun h=>?_⟩
 ·rw[if_pos (by have:=of_decide_eq_true h;dsimp only at this;omega)]at hres
  subst hres
  refine rg ?_;conv=>whnf
  refine A0 2 zF E (.cons (.refl _) (.cons (.refl _) (.cons (.refl _) (.cons .nil .nil)))) ?_
  exact Ac E (.cons (.cell E E E E) (.cons .tmp (.cons .tmp (.cons .tmp .nil)))) E E
 have h4:4≤b.length:=by have:=of_decide_eq_false h;dsimp only at this;omega
 rw[if_neg qn,(Ajw h4).1,(Ajw h4).2,Adx,Adx]at hres
 have c1:=E2 (b.drop 4) (by rw[List.length_drop];omega)
 have etk:(b.take b.length).drop 4=b.drop 4:=by rw[List.take_length]
 rw[← etk]at c1
 have i0:(0:Int).toNat<b.length:=by show 0<_;omega
 have i1:(1:Int).toNat<b.length:=by show 1<_;omega
 have i2:(2:Int).toNat<b.length:=by show 2<_;omega
 have i3:(3:Int).toNat<b.length:=by show 3<_;omega
 have e0:b[(0:Int).toNat]'i0=b[0]'qn:=rfl
 have e1:b[(1:Int).toNat]'i1=b[1]'qn:=rfl
 have e2:b[(2:Int).toNat]'i2=b[2]'qn:=rfl
 have e3:b[(3:Int).toNat]'i3=b[3]'qn:=rfl
 have hp1:=D0 (b[0]'qn) (b[1]'qn)
 have hp2:=D0 (b[2]'qn) (b[3]'qn)
 have l0:=(b[0]'qn).toNat_lt
 have l1:=(b[1]'qn).toNat_lt
 obtain ⟨P,hP⟩:∃ P,(b[0]'qn).toNat * 256+(b[1]'qn).toNat=P:=⟨_,rfl⟩
 obtain ⟨Q,hQ⟩:∃ Q,(b[2]'qn).toNat * 256+(b[3]'qn).toNat=Q:=⟨_,rfl⟩
 have hPl:P<65536:=by omega
 rw[hP]at hp1 hres
 rw[hQ]at hp2 hres
 have ha:=Aj0 P qn
 have hs:(P:Int).fdiv (2 ^ (min (Int.toNat 12) IntKind.i64.bits))=((P / 4096:Nat):Int):=Ad0 P 12 qx
 refine rg ?_;conv=>whnf
 refine⟨E,by decide,i0,?_⟩
 rw[e0]
 conv=>whnf
 refine⟨by decide,?_⟩
 conv=>whnf
 refine⟨E,by decide,i1,?_⟩
 rw[e1]
 conv=>whnf
 refine⟨qq,?_⟩
 rw[hp1]
 conv=>whnf
 refine⟨E,by decide,i2,?_⟩
 rw[e2]
 conv=>whnf
 refine⟨by decide,?_⟩
 conv=>whnf
 refine⟨E,by decide,i3,?_⟩
 rw[e3]
 conv=>whnf
 refine⟨qq,?_⟩
 rw[hp2]
 conv=>whnf
 refine⟨by decide,?_⟩
 rw[ha,hs]
 conv=>whnf
 refine⟨fun h=>?_,fun h=>?_⟩
 ·rw[if_pos (.inl (by have:=of_decide_eq_true h;omega))]at hres
  subst hres
  refine rg ?_;conv=>whnf
  refine A0 2 zF E (.cons (.refl _) (.cons (.refl _) (.cons (.refl _) (.cons .nil .nil)))) ?_
  exact Ac E (.cons (.cell E E E E) (.cons .tmp (.cons .tmp (.cons .tmp .nil)))) E E
 have h5:¬ 4094<P % 4096:=by have:=of_decide_eq_false h;omega
 refine rg ?_;conv=>whnf
 refine⟨fun h=>?_,fun h=>?_⟩
 ·rw[if_pos (.inr (by have:(Q:Int)=33024:=(by simpa using h);omega))]at hres
  subst hres
  refine rg ?_;conv=>whnf
  refine A0 2 zF E (.cons (.refl _) (.cons (.refl _) (.cons (.refl _) (.cons .nil .nil)))) ?_
  exact Ac E (.cons (.cell E E E E) (.cons .tmp (.cons .tmp (.cons .tmp .nil)))) E E
 have h6:¬ Q=33024:=fun e=>by rw[e]at h;simp at h
 rw[if_neg qn]at hres
 subst hres
 refine rg ?_;conv=>whnf
 refine Bs (Ch (lo:=4) (hi:=b.length) Γ.toTy E E E E (.inr ⟨_,_,E,E⟩) (.inl ⟨E,E⟩) h4 (Nat.le_refl _)) qq E ?_
 refine rd qq ?_;conv=>whnf
 refine Ay c1 F63 E E E qq E ?_
 refine rd qq ?_;conv=>whnf
 refine⟨qq,?_⟩
 conv=>whnf
 refine Ac E (.cons (.cell E E E E) (.cons .tmp (.cons .tmp (.cons .tmp .nil)))) ?_ E
 show SV.tup [.agg [_,_,_,.sl 1 Ak (b.drop 4)],_,_,_]=SV.tup [.agg [_,_,_,.sl 1 Ak ((b.take b.length).drop 4)],_,_,_]
 rw[etk]
 rfl
theorem Lq (f:FrameM) (h:FrameOK f):Sy.Spec Tryz.prog 33 [Bv f] [] (.tup [.osl 0,Aa 0]) [(0,.row 1 Ak (Vs f))]:=Aa0 f.dst f.src f.typ f.body h.dst h.src h.typ h.body
theorem Ahh (f:FrameM) (v:Nat) (h:FrameOK f) (hv:v≤4094):Sy.Spec Tryz.prog 308 [Bv f,Aa v,Aa 0] [] (.tup [Bv (tagT f v).1,Aa (tagT f v).2]) []:=by
 have hres:=tagT.eq_1 f v
 have q0:=Ld f
 obtain ⟨d,s,t,b⟩:=f
 have h1:=h.typ
 have h2:=h.body
 dsimp only at hres q0 h1 h2
 by_cases ht:t=33024
 ·rw[if_pos ht]at hres
  rw[hres]
  rw[decide_eq_true ht]at q0
  refine Ab Γ hm 100 F308 Tryz.ntmps308 E fun F hF=>by
   conv=>whnf
   refine Ag q0 F166 E E E E E ?_
   (refine rg ?_;(conv=>whnf);refine aT ?_;refine rg ?_;(conv=>whnf);refine aT ?_;refine rg ?_;(conv=>whnf);refine aT ?_;refine rg ?_;(conv=>whnf);refine aT ?_;refine rg ?_;(conv=>whnf);refine aT ?_;refine rg ?_;conv=>whnf)
   refine A0 6 zF E (.cons (.refl _) (.cons (.refl _) (.cons (.refl _) (.cons .nil .nil)))) ?_
   exact Ac E (.cons (.cell E E E E) (.cons .tmp .nil)) E E
 rw[if_neg ht]at hres
 by_cases hb:1500<b.length
 ·rw[if_pos hb]at hres
  rw[hres]
  rw[decide_eq_false ht]at q0
  refine Ab Γ hm 100 F308 Tryz.ntmps308 E fun F hF=>by
   conv=>whnf
   refine Ag q0 F166 E E E E E ?_
   (refine rg ?_;(conv=>whnf);refine aF ?_;refine rg ?_;(conv=>whnf);refine aF ?_;refine rg ?_;conv=>whnf)
   (refine⟨fun h=>False.elim (by simp at h;omega),fun _=>?_⟩;refine rg ?_;(conv=>whnf);refine aF ?_;refine rg ?_;(conv=>whnf);refine aF ?_;refine rg ?_;(conv=>whnf);refine aF ?_;refine rg ?_;(conv=>whnf);refine⟨fun h=>False.elim (by simp at h;omega),fun _=>?_⟩;refine rg ?_;(conv=>whnf);refine⟨fun _=>?_,fun h=>False.elim (by simp at h;omega)⟩;refine rg ?_;conv=>whnf)
   refine A0 6 zF E (.cons (.refl _) (.cons (.refl _) (.cons (.refl _) (.cons .nil .nil)))) ?_
   exact Ac E (.cons (.cell E E E E) (.cons .tmp .nil)) E E
 rw[if_neg hb]at hres
 rw[hres]
 exact Akk d s t v b ht h1 hv qn
theorem takeF_bad {b:List UInt8} (h:(takeF b).2≠0):(takeF b).1=noF:=by
 unfold takeF at h ⊢
 split
 ·rfl
 rw[if_neg (by assumption)]at h
 split
 ·rfl
 rw[if_neg (by assumption)]at h
 exact absurd E h
theorem Zf {b:List UInt8} (h:(takeF b).2=0):FrameOK (takeF b).1:=by
 unfold takeF at h ⊢
 split
 ·rw[if_pos (by assumption)]at h;cases h
 rw[if_neg (by assumption)]at h
 split
 ·rw[if_pos (by assumption)]at h;cases h
 rename_i h1 h2
 have l1:((b.take 6).length)=6:=by rw[List.length_take];omega
 have l2:(((b.drop 6).take 6).length)=6:=by rw[List.length_take,List.length_drop];omega
 have l3:(((b.drop 12).take 2).length)=2:=by rw[List.length_take,List.length_drop];omega
 have a1:=Jk _ _ l1
 have a2:=Jk _ _ l2
 have a3:=Jk _ _ l3
 refine⟨a1,a2,?_,?_⟩
 ·dsimp only;exact Nat.le_of_lt_succ a3
 ·dsimp only;rw[List.length_drop];omega
theorem Ahk {f:FrameM} (hf:FrameOK f) (h:(stripT f).2.2.2=0):FrameOK (stripT f).1:=by
 unfold stripT at h ⊢
 split
 ·rw[if_pos (by assumption)]at h;cases h
 rw[if_neg (by assumption)]at h
 split
 ·rw[if_pos (by assumption)]at h;cases h
 rw[if_neg (by assumption)]at h
 split
 ·rw[if_pos (by assumption)]at h;cases h
 rename_i h1 h2 h3
 have l3:(((f.body.drop 2).take 2).length)=2:=by rw[List.length_take,List.length_drop];omega
 have a3:=Jk _ _ l3
 have hb:=hf.body
 refine⟨hf.dst,hf.src,?_,?_⟩
 ·dsimp only;exact Nat.le_of_lt_succ a3
 ·dsimp only;rw[List.length_drop];omega
theorem strip_bad {f:FrameM} (h:(stripT f).2.2.2≠0):(stripT f).1=noF∧(stripT f).2.1=0:=by
 unfold stripT at h ⊢
 split
 ·exact⟨E,E⟩
 rw[if_neg (by assumption)]at h
 split
 ·exact⟨E,E⟩
 rw[if_neg (by assumption)]at h
 split
 ·exact⟨E,E⟩
 rw[if_neg (by assumption)]at h
 exact absurd E h
theorem Aa1 (n:Net) (hn:n.Fin) (port:Int) (b:List UInt8) (hb:b.length<100000) :
  Sy.Spec Tryz.prog 100 [Aq n,Aa port,.sl 1 Ak b] [] (.tup [Aa (enterT n port b).1,Bv (enterT n port b).2.1,Aa (enterT n port b).2.2]) []:=Ab Γ hm 100 F100 Tryz.ntmps100 rfl fun F hF=>by
 have hres:=enterT.eq_1 n port b
 generalize enterT n port b=res at *
 have hr:=Bk n hn
 conv=>whnf
 by_cases hneg:port<0
 ·rw[if_pos (.inl (by rw[Aj,decide_eq_false qn];rfl))]at hres
  subst hres
  (refine⟨fun _=>?_,fun h=>False.elim (by simp at h;omega)⟩;refine rg ?_;(conv=>whnf);refine aT ?_;refine rg ?_;(conv=>whnf);refine aT ?_;refine rg ?_;conv=>whnf)
  refine A0 7 zF E (.cons (.refl _) (.cons (.refl _) (.cons (.refl _) (.cons .nil .nil)))) ?_
  exact Ac E (.cons .tmp (.cons (.cell E E E E) (.cons .tmp .nil))) E E
 refine⟨fun h=>absurd (of_decide_eq_true h) hneg,fun _=>?_⟩
 refine B0 3 8 (Aq n) E E E ?_
 by_cases hge:(n.ports.length:Int)≤port
 ·rw[if_pos (.inl (by rw[Aj,decide_eq_false (by omega:¬ port<_),Bool.and_false]))]at hres
  subst hres
  refine rg ?_;conv=>whnf
  (refine⟨fun _=>?_,fun h=>False.elim (by simp at h;omega)⟩;refine rg ?_;(conv=>whnf);refine aT ?_;refine rg ?_;conv=>whnf)
  refine A0 7 zF E (.cons (.refl _) (.cons (.refl _) (.cons (.refl _) (.cons .nil .nil)))) ?_
  exact Ac E (.cons .tmp (.cons (.cell E E E E) (.cons .tmp .nil))) E E
 have hpl:Aj port n.ports.length=true:=by rw[Aj,decide_eq_true qn,decide_eq_true qn];rfl
 refine rg ?_;conv=>whnf
 (refine⟨fun h=>False.elim (by simp at h;omega),fun _=>?_⟩;refine rg ?_;conv=>whnf)
 refine Ag hr F67 E E E E E ?_
 cases hbn:Af n
 ·rw[if_pos (.inr hbn)]at hres
  subst hres
  (refine rg ?_;(conv=>whnf);refine aT ?_;refine rg ?_;conv=>whnf)
  refine A0 7 zF E (.cons (.refl _) (.cons (.refl _) (.cons (.refl _) (.cons .nil .nil)))) ?_
  exact Ac E (.cons .tmp (.cons (.cell E E E E) (.cons .tmp .nil))) E E
 rw[if_neg (by simp[hbn,hpl])]at hres
 have hp0:0≤port:=by omega
 have hk:port.toNat<n.ports.length:=by omega
 have e1:nth n.ports port=n.ports[port.toNat]:=An hk
 have hsh:=hn.tagged _ (List.getElem_mem hk)
 obtain ⟨p,hp⟩:∃ p,n.ports[port.toNat]'hk=p:=⟨_,rfl⟩
 rw[hp]at e1 hsh
 have qt:=My b hb
 have hto:=@Zf b
 have htb:=@takeF_bad b
 generalize takeF b=tf at *
 obtain ⟨f,e⟩:=tf
 dsimp only at hres qt hto htb
 have qi:=Ld f
 (refine rg ?_;(conv=>whnf);refine aF ?_;refine rg ?_;conv=>whnf)
 refine Ag qt F165 E E E E E ?_
 refine rg ?_;conv=>whnf
 refine Ag qi F166 E E E E E ?_
 by_cases he:e=0
 rotate_left
 ·rw[if_pos he]at hres
  subst hres
  obtain rfl:=htb he
  refine rg ?_;conv=>whnf
  (refine⟨fun h=>False.elim (by simp at h;omega),fun _=>?_⟩;refine rg ?_;(conv=>whnf);refine aF ?_;refine rg ?_;conv=>whnf)
  (refine⟨fun h=>False.elim (by simp at h;omega),fun _=>?_⟩;refine rg ?_;(conv=>whnf);refine aF ?_;refine rg ?_;conv=>whnf)
  refine⟨E,hp0,hk,?_⟩
  rw[hp]
  conv=>whnf
  refine Ag (J3 p false 0 hsh) F168 E E E E E ?_
  refine rg ?_;conv=>whnf
  (refine⟨fun h=>False.elim (by simp at h;omega),fun _=>?_⟩;refine rg ?_;(conv=>whnf);refine aF ?_;refine rg ?_;(conv=>whnf);refine⟨fun _=>?_,fun h=>False.elim (by simp at h;omega)⟩;refine rg ?_;conv=>whnf)
  refine A0 7 zF E (.cons (.refl _) (.cons (.refl _) (.cons (.refl _) (.cons .nil .nil)))) ?_
  exact Ac E (.cons .tmp (.cons (.cell E E E E) (.cons .tmp .nil))) E E
 subst he
 rw[if_neg qx]at hres
 have hfo:=hto rfl
 by_cases ht:f.typ=33024
 ·rw[if_pos ht]at hres
  rw[decide_eq_true ht]
  have qs:=Ae3 f (by have:=hfo.body;omega)
  have hso:=@Ahk f hfo
  have hsb:=@strip_bad f
  generalize stripT f=st at *
  obtain ⟨g,vid,prio,e2⟩:=st
  dsimp only at hres qs hso hsb
  (refine rg ?_;(conv=>whnf);refine aT ?_;refine rg ?_;(conv=>whnf);refine aT ?_;refine rg ?_;conv=>whnf)
  refine Ag qs F167 E E E E E ?_
  by_cases he2:e2=0
  rotate_left
  ·rw[if_pos he2]at hres
   subst hres
   obtain ⟨rfl,rfl⟩:=hsb he2
   refine rg ?_;conv=>whnf
   (refine⟨fun h=>False.elim (by simp at h;omega),fun _=>?_⟩;refine rg ?_;(conv=>whnf);refine aF ?_;refine rg ?_;conv=>whnf)
   refine⟨E,hp0,hk,?_⟩
   rw[hp]
   conv=>whnf
   refine Ag (J3 p true 0 hsh) F168 E E E E E ?_
   refine rg ?_;conv=>whnf
   (refine⟨fun h=>False.elim (by simp at h;omega),fun _=>?_⟩;refine rg ?_;(conv=>whnf);refine aF ?_;refine rg ?_;(conv=>whnf);refine⟨fun _=>?_,fun h=>False.elim (by simp at h;omega)⟩;refine rg ?_;conv=>whnf)
   refine A0 7 zF E (.cons (.refl _) (.cons (.refl _) (.cons (.refl _) (.cons .nil .nil)))) ?_
   exact Ac E (.cons .tmp (.cons (.cell E E E E) (.cons .tmp .nil))) E E
  subst he2
  rw[if_neg qx]at hres
  have hgo:=hso rfl
  have hgs:=hgo.src
  have qg:=I9 g.src qn
  rw[Ic,e1]at hres
  have qv:=J3 p true vid hsh
  have qd:=Ot n hn p.dev (vlanT p true vid).1
  (refine rg ?_;(conv=>whnf);refine aT ?_;refine rg ?_;conv=>whnf)
  refine Ag qg F162 E E E E E ?_
  cases hgb:E1 g.src
  rotate_left
  ·rw[if_pos hgb]at hres
   subst hres
   (refine rg ?_;(conv=>whnf);refine aT ?_;refine rg ?_;conv=>whnf)
   refine⟨E,hp0,hk,?_⟩
   rw[hp]
   conv=>whnf
   refine Ag qv F168 E E E E E ?_
   (refine rg ?_;(conv=>whnf);refine aF ?_;refine rg ?_;(conv=>whnf);refine aF ?_;refine rg ?_;(conv=>whnf);refine aT ?_;refine rg ?_;conv=>whnf)
   (skip)
   refine A0 7 zF E (.cons (.refl _) (.cons (.refl _) (.cons (.refl _) (.cons .nil .nil)))) ?_
   exact Ac E (.cons .tmp (.cons (.cell E E E E) (.cons .tmp .nil))) E E
  rw[if_neg (by simp[hgb])]at hres
  (refine rg ?_;(conv=>whnf);refine aF ?_;refine rg ?_;conv=>whnf)
  refine⟨E,hp0,hk,?_⟩
  rw[hp]
  conv=>whnf
  refine Ag qv F168 E E E E E ?_
  generalize vlanT p true vid=vl at *
  obtain ⟨vl,vok⟩:=vl
  dsimp only at hres qd ⊢
  cases vok
  ·rw[if_pos rfl]at hres
   subst hres
   (refine rg ?_;(conv=>whnf);refine aT ?_;refine rg ?_;(conv=>whnf);refine aT ?_;refine rg ?_;(conv=>whnf);refine aT ?_;refine rg ?_;conv=>whnf)
   refine A0 7 zF E (.cons (.refl _) (.cons (.refl _) (.cons (.refl _) (.cons .nil .nil)))) ?_
   exact Ac E (.cons .tmp (.cons (.cell E E E E) (.cons .tmp .nil))) E E
  rw[if_neg qy]at hres
  subst hres
  (refine rg ?_;(conv=>whnf);refine aT ?_;refine rg ?_;(conv=>whnf);refine aF ?_;refine rg ?_;(conv=>whnf);refine aF ?_;refine rg ?_;conv=>whnf)
  refine Ay qd F169 E E E qq E ?_
  refine rd qq ?_;conv=>whnf
  refine⟨qq,?_⟩
  conv=>whnf
  exact Ac E (.cons .tmp (.cons (.cell E E E E) (.cons .tmp .nil))) E E
 ·rw[if_neg ht]at hres
  rw[decide_eq_false ht]
  have hgo:=hfo
  have hgs:=hgo.src
  have qg:=I9 f.src qn
  rw[Ic,e1]at hres
  have qv:=J3 p false 0 hsh
  have qd:=Ot n hn p.dev (vlanT p false 0).1
  (refine rg ?_;(conv=>whnf);refine aT ?_;refine rg ?_;(conv=>whnf);refine aF ?_;refine rg ?_;(conv=>whnf);refine aT ?_;refine rg ?_;conv=>whnf)
  refine Ag qg F162 E E E E E ?_
  cases hgb:E1 f.src
  rotate_left
  ·rw[if_pos hgb]at hres
   subst hres
   (refine rg ?_;(conv=>whnf);refine aT ?_;refine rg ?_;conv=>whnf)
   refine⟨E,hp0,hk,?_⟩
   rw[hp]
   conv=>whnf
   refine Ag qv F168 E E E E E ?_
   (refine rg ?_;(conv=>whnf);refine aF ?_;refine rg ?_;(conv=>whnf);refine aF ?_;refine rg ?_;(conv=>whnf);refine aT ?_;refine rg ?_;conv=>whnf)
   (skip)
   refine A0 7 zF E (.cons (.refl _) (.cons (.refl _) (.cons (.refl _) (.cons .nil .nil)))) ?_
   exact Ac E (.cons .tmp (.cons (.cell E E E E) (.cons .tmp .nil))) E E
  rw[if_neg (by simp[hgb])]at hres
  (refine rg ?_;(conv=>whnf);refine aF ?_;refine rg ?_;conv=>whnf)
  refine⟨E,hp0,hk,?_⟩
  rw[hp]
  conv=>whnf
  refine Ag qv F168 E E E E E ?_
  generalize vlanT p false 0=vl at *
  obtain ⟨vl,vok⟩:=vl
  dsimp only at hres qd ⊢
  cases vok
  ·rw[if_pos rfl]at hres
   subst hres
   (refine rg ?_;(conv=>whnf);refine aT ?_;refine rg ?_;(conv=>whnf);refine aT ?_;refine rg ?_;(conv=>whnf);refine aT ?_;refine rg ?_;conv=>whnf)
   refine A0 7 zF E (.cons (.refl _) (.cons (.refl _) (.cons (.refl _) (.cons .nil .nil)))) ?_
   exact Ac E (.cons .tmp (.cons (.cell E E E E) (.cons .tmp .nil))) E E
  rw[if_neg qy]at hres
  subst hres
  (refine rg ?_;(conv=>whnf);refine aT ?_;refine rg ?_;(conv=>whnf);refine aF ?_;refine rg ?_;(conv=>whnf);refine aF ?_;refine rg ?_;conv=>whnf)
  refine Ay qd F169 E E E qq E ?_
  refine rd qq ?_;conv=>whnf
  refine⟨qq,?_⟩
  conv=>whnf
  exact Ac E (.cons .tmp (.cons (.cell E E E E) (.cons .tmp .nil))) E E
theorem Bm {i:Int} {n:Nat} (h:Aj i n=true):0≤i∧i<n:=by simpa [Aj] using h
end Go.Sy.YtmelpejjondedaaGreat
namespace Go.Sy.YtmelpejjondedaaGreat
open Go.Proofs
attribute [local irreducible] Go.Sy.G Go.Sy.DR
set_option maxRecDepth 20000
set_option maxHeartbeats 8000000
theorem Cu {i:Int} {n:Nat} (h:0≤i∧i<n):Aj i n=true:=by simp only[Aj,Bool.and_eq_true,decide_eq_true_eq];exact h
theorem B8 {i:Int} {n:Nat} (h:¬ (0≤i∧i<n)):Aj i n=false:=by simp only[Aj,Bool.and_eq_false_iff,decide_eq_false_iff_not];omega
end Go.Sy.YtmelpejjondedaaGreat
namespace Go.Sy.YtmelpejjondedaaGreat
open Go.Proofs
attribute [local irreducible] Go.Sy.G Go.Sy.DR
set_option maxRecDepth 100000
set_option maxHeartbeats 4000000
theorem Il (i:Int) (n:Nat):Sy.Spec Tryz.prog 250 [Aa i,Aa n] [] (Ad (Aj i n)) []:=Ab Γ hm 100 F250 Tryz.ntmps250 rfl fun F hF=>by
 conv=>whnf
 (repeat' (first | (refine⟨fun h=>?_,fun h=>?_⟩<;>(repeat (first | simp only[decide_eq_true_eq]at h | simp only[decide_eq_false_iff_not]at h))<;>((refine rg ?_);(conv=>whnf))) | (refine Ac rfl (.cons .tmp .nil) ?_ rfl)))
 all_goals (refine congrArg Ad ?_)
 all_goals grind [Aj]
theorem Acv (n:Net) (f:FrameM) (h:FrameOK f) (v:Int):Sy.Spec Tryz.prog 252 [Aq n,Bv f,Aa v] [] (.tup [.sl 1 Ak (Vs f),Aa 0]) []:=Ab Γ hm 100 F252 Tryz.ntmps252 rfl fun F hF=>by
 conv=>whnf
 refine Ah (Ai [(0,55)] E F33 (Lq f h) E Y E ⟨.inr E,Y⟩) E E ?_
 refine At 55 E ?_
 refine rg ?_;conv=>whnf
 exact Ac E (.cons .tmp (.cons .tmp .nil)) E E
theorem tag_ok {f:FrameM} (hf:FrameOK f) (v:Nat) (hv:v≤4094) (h:(tagT f v).2=0):FrameOK (tagT f v).1:=by
 unfold tagT at h ⊢
 split
 ·rw[if_pos (by assumption)]at h;cases h
 rw[if_neg (by assumption)]at h
 split
 ·rw[if_pos (by assumption)]at h;cases h
 refine⟨hf.dst,hf.src,?_,?_⟩
 ·show (33024:Nat)≤65535;decide
 ·dsimp only;simp;omega
theorem Yc (n:Net) (f:FrameM) (h:FrameOK f) (v:Nat) (hv:v≤4094) :
  Sy.Spec Tryz.prog 251 [Aq n,Bv f,Aa v] [] (.tup [.sl 1 Ak (if (tagT f v).2≠0 then [] else Vs (tagT f v).1),Aa (if (tagT f v).2≠0 then (tagT f v).2 else 0)]) []:=by
 have q:=Ahh f v h hv
 have ho:=tag_ok h v hv
 generalize tagT f v=t at *
 obtain ⟨g,e⟩:=t
 dsimp only at q ho ⊢
 refine Ab Γ hm 100 F251 Tryz.ntmps251 E fun F hF=>by
  conv=>whnf
  refine Ag q F308 E E E E E ?_
  refine rg ?_;conv=>whnf
  by_cases he:e=0
  ·subst he
   (refine⟨fun h=>False.elim (absurd h qx),fun _=>?_⟩;refine rg ?_;conv=>whnf)
   refine B0 8 4 (Bv g) E E E ?_
   refine rg ?_;conv=>whnf
   refine Ah (Ai [(0,55)] E F33 (Lq g (ho E)) E Y E ⟨.inr E,Y⟩) E E ?_
   refine At 55 E ?_
   refine rg ?_;conv=>whnf
   exact Ac E (.cons .tmp (.cons .tmp .nil)) E E
  ·rw[if_pos he,if_pos he]
   (refine⟨fun _=>?_,fun h=>False.elim (by simp at h;omega)⟩;refine rg ?_;conv=>whnf)
   refine Ao 6 1 Ak E ?_
   exact Ac E (.cons .tmp (.cons .tmp .nil)) E E
theorem Ade {n:Net} (h:Af n=true) {i:Nat} (hi:i<n.domains.length):1≤n.domains[i].vlan∧n.domains[i].vlan≤4094:=by
 simp only[Af,Bool.and_eq_true]at h
 have hb:El (K7 n) n.domains=true:=h.1.1.1.1.1.1.1.2
 have:=allB_iff.1 hb i hi
 simp only[K7,Bool.and_eq_true,decide_eq_true_eq]at this
 omega
theorem Aix (n:Net) (hn:n.Fin) (port dom:Int) (f:FrameM) (h:FrameOK f) :
  Sy.Spec Tryz.prog 177 [Aq n,Aa port,Aa dom,Bv f] [] (.tup [.sl 1 Ak (leaveT n port dom f).1,Aa (leaveT n port dom f).2]) []:=Ab Γ hm 100 F177 Tryz.ntmps177 rfl fun F hF=>by
 have hres:=leaveT.eq_1 n port dom f
 generalize leaveT n port dom f=res at *
 have hr:=Bk n hn
 have hpS:=Il port n.ports.length
 have hdS:=Il dom n.domains.length
 conv=>whnf
 refine Ag hpS F250 E E E E E ?_
 cases hpl:Aj port n.ports.length
 ·rw[if_pos (.inl hpl)]at hres
  subst hres
  (refine rg ?_;(conv=>whnf);refine aT ?_;refine rg ?_;(conv=>whnf);refine aT ?_;refine rg ?_;(conv=>whnf);refine aT ?_;refine rg ?_;conv=>whnf)
  refine Ao 8 1 Ak E ?_
  exact Ac E (.cons .tmp (.cons .tmp .nil)) E E
 (refine rg ?_;(conv=>whnf);refine aF ?_;refine rg ?_;conv=>whnf)
 refine Ag hdS F250 E E E E E ?_
 cases hdl:Aj dom n.domains.length
 ·rw[if_pos (.inr (.inl hdl))]at hres
  subst hres
  (refine rg ?_;(conv=>whnf);refine aT ?_;refine rg ?_;(conv=>whnf);refine aT ?_;refine rg ?_;conv=>whnf)
  refine Ao 8 1 Ak E ?_
  exact Ac E (.cons .tmp (.cons .tmp .nil)) E E
 (refine rg ?_;(conv=>whnf);refine aF ?_;refine rg ?_;conv=>whnf)
 refine Ag hr F67 E E E E E ?_
 cases hbn:Af n
 ·rw[if_pos (.inr (.inr hbn))]at hres
  subst hres
  (refine rg ?_;(conv=>whnf);refine aT ?_;refine rg ?_;conv=>whnf)
  refine Ao 8 1 Ak E ?_
  exact Ac E (.cons .tmp (.cons .tmp .nil)) E E
 rw[if_neg (by simp[hbn,hpl,hdl])]at hres
 have hpi:=Bm hpl
 have hdi:=Bm hdl
 have hp0:0≤port:=hpi.1
 have hd0:0≤dom:=hdi.1
 have hk:port.toNat<n.ports.length:=by omega
 have hkd:dom.toNat<n.domains.length:=by omega
 have e1:nth n.ports port=n.ports[port.toNat]:=An hk
 have e2:nth n.domains dom=n.domains[dom.toNat]:=An hkd
 have hsh:=hn.tagged _ (List.getElem_mem hk)
 have hv:=Ade hbn hkd
 obtain ⟨p,hp⟩:∃ p,n.ports[port.toNat]'hk=p:=⟨_,rfl⟩
 obtain ⟨d,hd⟩:∃ d,n.domains[dom.toNat]'hkd=d:=⟨_,rfl⟩
 rw[hp]at e1 hsh
 rw[hd]at e2 hv
 rw[e1,e2]at hres
 have qm:=X8 p d.vlan hsh
 (refine rg ?_;(conv=>whnf);refine aF ?_;refine rg ?_;conv=>whnf)
 refine⟨E,hp0,hk,E,hd0,hkd,?_⟩
 rw[hp,hd]
 conv=>whnf
 refine⟨qq,?_⟩
 conv=>whnf
 refine⟨fun h1=>?_,fun h1=>?_⟩
 ·rw[if_pos (.inl (by simpa using h1))]at hres
  subst hres
  (refine rg ?_;(conv=>whnf);refine aT ?_;refine rg ?_;conv=>whnf)
  refine Ao 8 1 Ak E ?_
  exact Ac E (.cons .tmp (.cons .tmp .nil)) E E
 refine B0 10 7 (A9 p) E E E ?_
 refine rg ?_;conv=>whnf
 refine Ag qm F198 E E E E E ?_
 cases hm1:Jx p d.vlan
 ·rw[if_pos (.inr hm1)]at hres
  subst hres
  (refine rg ?_;(conv=>whnf);refine aT ?_;refine rg ?_;conv=>whnf)
  refine Ao 8 1 Ak E ?_
  exact Ac E (.cons .tmp (.cons .tmp .nil)) E E
 rw[if_neg (by simp at h1;simp[hm1,h1])]at hres
 have qt:=Ld f
 by_cases ht:f.typ=33024
 ·rw[if_pos ht]at hres
  subst hres
  rw[decide_eq_true ht]at qt
  (refine rg ?_;(conv=>whnf);refine aF ?_;refine rg ?_;conv=>whnf)
  refine Ag qt F166 E E E E E ?_
  (refine rg ?_;(conv=>whnf);refine aT ?_;refine rg ?_;conv=>whnf)
  refine Ao 8 1 Ak E ?_
  exact Ac E (.cons .tmp (.cons .tmp .nil)) E E
 rw[if_neg ht]at hres
 rw[decide_eq_false ht]at qt
 (refine rg ?_;(conv=>whnf);refine aF ?_;refine rg ?_;conv=>whnf)
 refine Ag qt F166 E E E E E ?_
 (refine rg ?_;(conv=>whnf);refine aF ?_;refine rg ?_;conv=>whnf)
 refine⟨fun h2=>?_,fun h2=>?_⟩
 ·rw[if_pos (by simpa using h2)]at hres
  subst hres
  refine rg ?_;conv=>whnf
  refine Dv ⟨⟨_,_,F252⟩,Acv n f h d.vlan⟩ E E E E E E ?_
  refine rg ?_;conv=>whnf
  exact Ac E (.cons .tmp (.cons .tmp .nil)) E E
 rw[if_neg (by simpa using h2)]at hres
 refine rg ?_;conv=>whnf
 have hv0:(d.vlan.toNat:Int)=d.vlan:=by omega
 have qg:=Yc n f h d.vlan.toNat qn
 rw[hv0]at qg
 refine Dv ⟨⟨_,_,F251⟩,qg⟩ E E E E E E ?_
 refine rg ?_;conv=>whnf
 by_cases he:(tagT f d.vlan).2=0
 ·rw[if_neg (by simpa using he)]at hres
  subst hres
  rw[if_neg (by simpa using he),if_neg (by simpa using he)]
  exact Ac E (.cons .tmp (.cons .tmp .nil)) E E
 ·rw[if_pos he]at hres
  subst hres
  rw[if_pos he,if_pos he]
  exact Ac E (.cons .tmp (.cons .tmp .nil)) E E
theorem inB_mem {l:List Int} {x:Int}:inB l x=true↔x∈l:=by
 simp[inB]
theorem Acs (n:Net) (hn:n.Fin) (port:Int) (b:List UInt8) (hb:b.length<100000) :
  Sy.Spec Tryz.prog 182 [Aq n,Aa port,.sl 1 Ak b] [] (.tup [Aa (linkT n port b).1,Aa (linkT n port b).2.1,Bv (linkT n port b).2.2.1,Aa (linkT n port b).2.2.2]) []:=Ab Γ hm 100 F182 Tryz.ntmps182 rfl fun F hF=>by
 have hres:=linkT.eq_1 n port b
 generalize linkT n port b=res at *
 have qo:=Yb n hn port
 have qe:=Aa1 n hn (Hh n port) b hb
 generalize Hh n port=o at *
 conv=>whnf
 refine Ag qo F258 E E E E E ?_
 refine rg ?_;conv=>whnf
 refine⟨fun h1=>?_,fun h1=>?_⟩
 ·rw[if_pos (by simpa using h1)]at hres
  subst hres
  refine rg ?_;conv=>whnf
  refine A0 8 zF E (.cons (.refl _) (.cons (.refl _) (.cons (.refl _) (.cons .nil .nil)))) ?_
  exact Ac E (.cons .tmp (.cons .tmp (.cons (.cell E E E E) (.cons .tmp .nil)))) E E
 rw[if_neg (by simpa using h1)]at hres
 refine rg ?_;conv=>whnf
 refine Ag qe F100 E E E E E ?_
 generalize enterT n o b=en at *
 obtain ⟨x1,g,x2⟩:=en
 subst hres
 refine rg ?_;conv=>whnf
 refine⟨qq,?_⟩
 conv=>whnf
 exact Ac E (.cons .tmp (.cons .tmp (.cons (.cell E E E E) (.cons .tmp .nil)))) E E
end Go.Sy.YtmelpejjondedaaGreat
