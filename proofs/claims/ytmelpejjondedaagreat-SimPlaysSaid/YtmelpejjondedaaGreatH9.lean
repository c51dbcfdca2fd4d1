/-
  K15 K16 K17 K18 K19 K20 K21 K22 K23 K12 K13 K14 K24 K43 K44 Z5 Z6 Z7 Z8 Z9 Z10 Z11: parts of a proof, joined by program.
-/
import Derived.Test.YtmelpejjondedaaGreatH8
import Derived.Test.YtmelpejjondedaaGreatH4
import Derived.Test.YtmelpejjondedaaGreatH5
import Derived.Test.YtmelpejjondedaaGreatH7
import Derived.Test.YtmelpejjondedaaGreatH6
import Derived.Tactics
import Derived.Tactics2
import Derived.Defers
import Derived.Laws.Pointers
import Derived.Laws.LoneSync
import Derived.RegionTactic
import Derived.RegionCalls
import Derived.ChangeAlike
import Derived.Laws.NewBlocks
namespace Go.Sy.YtmelpejjondedaaGreat
open Go.Proofs
attribute [local irreducible] Go.Sy.G Go.Sy.DR
set_option maxRecDepth 100000
set_option maxHeartbeats 4000000
theorem Ace (l:List Int) (hl:l.length < 2147483648):Sy.Spec Tryz.prog 95 [.sl 1 Aa l] [] (.osl 0) [(0,.row 1 Aa l)]:=Ab Γ hm 100 F95 Tryz.ntmps95 rfl fun F hF=>by
 conv=>whnf
 refine D1 E (.inl E) E E E .sl E E ?_
 intro b hb
 cases b
 ·(refine rg ?_;(conv=>whnf);refine aF ?_;refine rg ?_;conv=>whnf)
  refine Ai (Af Γ.toTy 7 E E E E E (.lit (e:=Aa) (l:=[]) E E) .sl (by simp) (by simp; omega) (by simp; omega)) E E ?_
  refine rg ?_;conv=>whnf
  exact done E (.cons .tmp .nil) [(0,7)] [(0,.row 1 Aa l)] (fun _ h=>h) E E ⟨Y,⟨.inl E,E,Y⟩,E,E⟩
 ·have h0:l = []:=List.eq_nil_of_length_eq_zero (hb rfl)
  subst h0
  (refine rg ?_;(conv=>whnf);refine aT ?_;refine rg ?_;conv=>whnf)
  refine Bt 2 1000 1 Aa E E ?_
  exact done E (.cons .tmp .nil) [(0,1000)] [(0,.row 1 Aa [])] (fun _ h=>h) E E ⟨Y,⟨.inl E,E,Y⟩,E,E⟩
theorem Wg (l:List Int) (p:Int → Bool) (f:FuncId) (first cap:List SV) (hc:(SV.clo (.func f) first cap).inn [] = true) (hc0:(SV.clo (.func f) first cap).inn [0] = true) (hf:∀ x ∈ l,Jb Tryz.prog f (first ++ [Aa x] ++ cap) (Ad (p x))) (hl:Aq l) :
  Sy.Spec Tryz.prog 291 [.osl 0,.clo (.func f) first cap] [(0,.row 1 Aa l)] (.osl 1) [(0,.non),(1,.row 1 Aa (l.filter fun x=>!(p x)))]:=Ab Γ hm 100 F291 Tryz.ntmps291 rfl fun F hF=>by
 have qi:=J8 l p f first cap hc hf hl
 unfold Aq at hl
 have hin:∀ x:Int,Cj [] (first ++ [Aa x] ++ cap) = true:=fun x=>Dd hc rfl
 conv=>whnf
 refine Afb [0] qi F321 E (.cons (.row E E) (.cons (.refl _) .nil)) (by simp only [Cj,hc,Bool.and_true]; rfl) E E ?_
 rcases Ie p l with ⟨h1,h2⟩ | ⟨i,hi,h1,h2,h3⟩
 ·rw [h1]
  have e1:(l.filter fun x=>!(p x)) = l:=List.filter_eq_self.2 (fun x hx=>by simp [h2 x hx])
  rw [e1]
  (refine rg ?_;(conv=>whnf);refine aT ?_;refine rg ?_;conv=>whnf)
  refine Aih 0 1000 [0,4] E E (by decide) (by simp; exact ⟨E,E⟩) ?_
  exact done E (.cons .tmp .nil) [(0,0),(1,1000)] _ (fun _ h=>h) E E ⟨Y,⟨.inl E,E,.inl E,E,Y⟩,E,E⟩
 obtain ⟨f1,f2⟩:=Aap (fun x=>!(p x)) l i (by omega) (fun k hk hki=>by simp [h3 k hk hki])
 have g1:dfC (fun x=>!(p x)) l (i + 1 + 0) = l:=by
  show dfC (fun x=>!(p x)) l (i + 1) = l
  simp only [dfC,List.getElem?_eq_getElem hi]
  rw [if_neg (by simp [h2]),f1]
 have g2:Eu (fun x=>!(p x)) l (i + 1 + 0) = i:=by
  show Eu (fun x=>!(p x)) l (i + 1) = i
  simp only [Eu,List.getElem?_eq_getElem hi]
  rw [if_neg (by simp [h2]),f2]
 rw [h1]
 (refine rg ?_;(conv=>whnf);refine aF ?_;refine rg ?_;conv=>whnf)
 refine ⟨by unfold I64; omega,?_⟩
 conv=>whnf
 refine Au (l.length - (i + 1)) (fun j=>[(0,.osl 0),(1,.clo (.func f) first cap),(5,Aa (Eu (fun x=>!(p x)) l (i + 1 + j))),(6,Aa ((i + 1 + j:Nat)))]) (fun j=>[(0,.row 1 Aa (dfC (fun x=>!(p x)) l (i + 1 + j)))]) []
  ⟨⟨rfl,rfl,Bm _,hc0,congrArg Aa (congrArg Int.ofNat g2),rfl,congrArg (fun z=>SV.val (.int .i64 z)) (by omega),rfl,trivial⟩,⟨.inl (congrArg (Ob.row 1 Aa) g1),rfl,trivial⟩,rfl,rfl⟩ ?_
 intro j hj
 have hcl:=Wo (fun x=>!(p x)) l (i + 1 + j)
 have hdl:=Sr (fun x=>!(p x)) l (i + 1 + j)
 have hget:=Ajb (fun x=>!(p x)) l (i + 1 + j) (i + 1 + j) (Nat.le_refl _)
 have s1:∀ h:i + 1 + j < l.length,Eu (fun x=>!(p x)) l (i + 1 + (j + 1)) = if (!(p l[i + 1 + j])) = true then Eu (fun x=>!(p x)) l (i + 1 + j) + 1 else Eu (fun x=>!(p x)) l (i + 1 + j):=fun hlt=>by
  show Eu (fun x=>!(p x)) l (i + 1 + j + 1) = _
  simp only [Eu,List.getElem?_eq_getElem hlt]
 have s2:∀ h:i + 1 + j < l.length,dfC (fun x=>!(p x)) l (i + 1 + (j + 1)) = if (!(p l[i + 1 + j])) = true then (dfC (fun x=>!(p x)) l (i + 1 + j)).set (Eu (fun x=>!(p x)) l (i + 1 + j)) l[i + 1 + j] else dfC (fun x=>!(p x)) l (i + 1 + j):=fun hlt=>by
  show dfC (fun x=>!(p x)) l (i + 1 + j + 1) = _
  simp only [dfC,List.getElem?_eq_getElem hlt]
 have htk:=fun h=>Ae6 (fun x=>!(p x)) l (i + 1 + j) h
 obtain ⟨D,hD⟩:∃ D,dfC (fun x=>!(p x)) l (i + 1 + j) = D:=⟨_,rfl⟩
 obtain ⟨K,hK⟩:∃ K,Eu (fun x=>!(p x)) l (i + 1 + j) = K:=⟨_,rfl⟩
 rw [hD] at hdl hget s2 htk ⊢
 rw [hK] at hcl s1 s2 htk ⊢
 refine rg ?_;conv=>whnf
 refine ⟨fun h=>?_,fun h=>?_⟩
 ·have hlt:i + 1 + j < l.length:=by have:=of_decide_eq_true h; omega
  have hfx:=hf l[i + 1 + j] (List.getElem_mem hlt)
  have s1:=s1 hlt
  have s2:=s2 hlt
  rw [List.getElem?_eq_getElem hlt,List.getElem?_eq_getElem (by omega)] at hget
  have hget:=Option.some.inj hget
  obtain ⟨x,hx⟩:∃ x,l[i + 1 + j] = x:=⟨_,rfl⟩
  rw [hx] at hfx s1 s2 hget
  refine rg ?_;conv=>whnf
  refine ⟨by omega,by simp; omega,?_⟩
  conv=>whnf
  refine ⟨E,by omega,?_⟩
  rw [show D[((i + 1 + j:Nat):Int).toNat]'(by omega) = x from hget]
  conv=>whnf
  refine Ep hfx E E E (by simp only [hin]; rfl) E E ?_
  cases hpx:p x
  ·rw [hpx] at s1 s2
   (refine rg ?_;(conv=>whnf);refine aT ?_;refine rg ?_;conv=>whnf)
   refine ⟨by omega,by simp; omega,?_⟩
   conv=>whnf
   refine ⟨E,by omega,x,E,E,?_⟩
   conv=>whnf
   refine ⟨by unfold I64; omega,?_⟩
   conv=>whnf
   refine ⟨by unfold I64; omega,?_⟩
   conv=>whnf
   exact Ar [] (by omega) ⟨⟨E,E,Bm _,hc0,congrArg Aa (congrArg Int.ofNat s1),E,congrArg (fun z=>SV.val (.int .i64 z)) (by omega),E,Y⟩,⟨.inl (congrArg (Ob.row 1 Aa) s2),E,Y⟩,E,E⟩
  ·rw [hpx] at s1 s2
   (refine rg ?_;(conv=>whnf);refine aF ?_;refine rg ?_;conv=>whnf)
   refine ⟨by unfold I64; omega,?_⟩
   conv=>whnf
   exact Ar [] (by omega) ⟨⟨E,E,Bm _,hc0,congrArg Aa (congrArg Int.ofNat s1),E,congrArg (fun z=>SV.val (.int .i64 z)) (by omega),E,Y⟩,⟨.inl (congrArg (Ob.row 1 Aa) s2),E,Y⟩,E,E⟩
 ·have hend:i + 1 + j = l.length:=by have:=of_decide_eq_false h; omega
  have hne:D ≠ []:=fun h=>by rw [h] at hdl; simp at hdl; omega
  have htk:=htk (by omega)
  rw [show l.take (i + 1 + j) = l from List.take_of_length_le (by omega)] at htk
  refine Ajh 0 [0] E hne (by simp; rfl) ?_
  intro b cap' hcap
  refine rg ?_;conv=>whnf
  refine Ai (C1 Γ.toTy E E E E (.inr ⟨_,_,E,E⟩) (.inl ⟨E,E⟩) (by omega) (by omega)) E E ?_
  refine rg ?_;conv=>whnf
  refine Ai (J9 Γ.toTy 0 (k:=K) E E E E (by decide) E E E (by omega) (by omega)) E E ?_
  refine rg ?_;conv=>whnf
  refine Ai (C1 Γ.toTy E E E E (.inl ⟨E,E⟩) (.inr ⟨_,_,E,E⟩) (by omega) (by omega)) E E ?_
  refine rg ?_;conv=>whnf
  refine Wr 0 1000 [4] K E E (by rw [List.length_take]; omega) (fun i hi=>?_) ?_
  ·rw [List.mem_singleton] at hi
   subst hi
   show SV.val (.slice (some (if cap' = 0 then ⟨b,0,none⟩ else ⟨b,0 * 1,none⟩)) (K - 0) (cap' - 0)) = _
   split <;> simp
  refine done E (.cons .tmp .nil) [(0,0),(1,1000)] _ (fun _ h=>h) E E ⟨Y,⟨.inl E,E,.inl ?_,E,Y⟩,E,E⟩
  rw [← htk]
  exact congrArg (Ob.row 1 Aa) (by rw [List.take_take,Nat.min_self])
def Lx (n:Net) (fw:List Bool) (at_ from_:Int) (ml:List Int):SV :=
 .agg [.sl 5 Br n.devices,.sl 7 Bh n.ports,.sl 3 Cp n.links,.sl 6 A0 n.domains,.sl 4 Bp n.statics,.sl 4 B6 n.floods,.sl 5 Cz n.vrfs,.sl 5 Dm n.irbs,.sl 1 Ad fw,Aa at_,Aa from_,.sl 1 Aa ml]
theorem Ao6 (n:Net) (fw:List Bool) (p:Int) (h0:0 ≤ p) (hp:p < n.ports.length) (hl:(nth n.ports p).link < fw.length):Sy.Spec Tryz.prog 290 [Ap n,.sl 1 Ad fw,Aa p] [] (Ad (usableB n fw p)) []:=Ab Γ hm 100 F290 Tryz.ntmps290 rfl fun F hF=>by
 have hk:p.toNat < n.ports.length:=by omega
 have e1:nth n.ports p = n.ports[p.toNat]:=Ao hk
 have hu:=usableB.eq_1 n fw p
 generalize usableB n fw p = res at *
 rw [e1] at hu hl
 obtain ⟨q,hq⟩:∃ q,n.ports[p.toNat]'hk = q:=⟨_,rfl⟩
 rw [hq] at hu hl
 conv=>whnf
 refine ⟨E,h0,hk,?_⟩
 rw [hq]
 conv=>whnf
 refine ⟨fun h=>?_,fun h=>?_⟩
 ·rw [h,Bool.true_or] at hu
  subst hu
  refine rg ?_;conv=>whnf
  exact Ac E (.cons .tmp .nil) E E
 ·rw [h,Bool.false_or] at hu
  have h1:¬ q.link < 0:=of_decide_eq_false h
  have h2:q.link.toNat < fw.length:=by omega
  rw [List.getElem?_eq_getElem h2] at hu
  refine rg ?_;conv=>whnf
  refine ⟨E,by omega,h2,?_⟩
  conv=>whnf
  exact Ac E (.cons .tmp .nil) (congrArg Ad hu) E
theorem portsC (n:Net) (fw:List Bool) (at_ from_:Int) (ml:List Int) (p:Int) (h0:0 ≤ p) (hp:p < n.ports.length) (hl:(nth n.ports p).link < fw.length) :
  Sy.Spec Tryz.prog 289 [Aa p,.ref 1 (.ref 12 (Lx n fw at_ from_ ml) 0) 0] [] (Ad (decide (p = from_) || !(usableB n fw p))) []:=Ab Γ hm 100 F289 Tryz.ntmps289 rfl fun F hF=>by
 have q:=Ao6 n fw p h0 hp hl
 conv=>whnf
 refine ⟨fun h=>?_,fun h=>?_⟩
 ·have h1:p = from_:=by simpa using h
  refine rd (by kernel_rfl) ?_;conv=>whnf
  refine ⟨(by kernel_rfl),?_⟩
  conv=>whnf
  exact Ac E (.cons .tmp .nil) (congrArg Ad (by rw [decide_eq_true h1,Bool.true_or])) E
 ·have h1:¬ p = from_:=by simpa using h
  refine rd (by kernel_rfl) ?_;conv=>whnf
  refine At q F290 E E E (by kernel_rfl) E ?_
  refine rd (by kernel_rfl) ?_;conv=>whnf
  refine ⟨(by kernel_rfl),?_⟩
  conv=>whnf
  exact Ac E (.cons .tmp .nil) (congrArg Ad (by rw [decide_eq_false h1,Bool.false_or])) E
def Ajf (n:Net) (fw:List Bool) (l:List Int):Prop:=∀ p ∈ l,0 ≤ p ∧ p < n.ports.length ∧ (nth n.ports p).link < fw.length
theorem Agp (n:Net) (fw:List Bool) (at_ from_:Int) (ml l:List Int) (hl:Aq l) (hp:Ajf n fw l) :
  Sy.Spec Tryz.prog 241 [.ref 12 (Lx n fw at_ from_ ml) 0,.sl 1 Aa l] [] (.sl 1 Aa (Cc n fw from_ l)) []:=Ab Γ hm 100 F241 Tryz.ntmps241 rfl fun F hF=>by
 have q:=Wg l (fun p=>decide (p = from_) || !(usableB n fw p)) 289 [] [.ref 1 (.ref 12 (Lx n fw at_ from_ ml) 0) 0] rfl rfl (fun p h=>⟨⟨_,_,F289⟩,portsC n fw at_ from_ ml p (hp p h).1 (hp p h).2.1 (hp p h).2.2⟩) hl
 unfold Aq at hl
 conv=>whnf
 refine Bf 2 1 (.ref 12 (Lx n fw at_ from_ ml) 0) E E E ?_
 refine rg ?_;conv=>whnf
 refine Ai (Ak [(0,55)] E F95 (Ace l hl) E Y E ⟨.inr E,Y⟩) E E ?_
 refine rg ?_;conv=>whnf
 refine Ai (Ak [(0,55),(1,56)] E F291 q E ⟨E,Y⟩ E ⟨.inl E,.inr E,Y⟩) E E ?_
 refine rg ?_;conv=>whnf
 refine As 56 E ?_
 exact Ac E (.cons .tmp .nil) E E
theorem Air (n:Net) (hn:n.Fin) (fw:List Bool) (dom from_:Int) (ml:List Int) (hd:Am dom n.domains.length = true) :
  Sy.Spec Tryz.prog 242 [.ref 12 (Lx n fw dom from_ ml) 0] [] (.sl 1 Aa (peersOut n dom from_)) []:=Ab Γ hm 100 F242 Tryz.ntmps242 rfl fun F hF=>by
 have hdi:=Bn hd
 have hd0:0 ≤ dom:=hdi.1
 have hkd:dom.toNat < n.domains.length:=by omega
 have e2:nth n.domains dom = n.domains[dom.toNat]:=Ao hkd
 have hpe:=hn.peers _ (List.getElem_mem hkd)
 have hres:=peersOut.eq_1 n dom from_
 generalize peersOut n dom from_ = res at *
 rw [e2] at hres
 obtain ⟨d,hdd⟩:∃ d,n.domains[dom.toNat]'hkd = d:=⟨_,rfl⟩
 rw [hdd] at hres hpe
 have qc:=Lp d.peers hpe
 conv=>whnf
 refine ⟨fun h=>?_,fun h=>?_⟩
 ·rw [if_pos (by simpa using h)] at hres
  subst hres
  refine rg ?_;conv=>whnf
  refine An 2 1 Aa E ?_
  exact Ac E (.cons .tmp .nil) E E
 ·rw [if_neg (by simpa using h)] at hres
  subst hres
  refine rg ?_;conv=>whnf
  refine ⟨E,hd0,hkd,?_⟩
  rw [hdd]
  conv=>whnf
  refine At qc F95 E E E (by kernel_rfl) E ?_
  refine rd (by kernel_rfl) ?_;conv=>whnf
  refine ⟨(by kernel_rfl),?_⟩
  conv=>whnf
  exact Ac E (.cons .tmp .nil) E E
def Kb (n:Net) (fw:List Bool) (dom:Int):Bool:=Am dom n.domains.length && decide (fw.length = n.links.length) && Ah n
theorem Ain (n:Net) (hn:n.Fin) (fw:List Bool) (dom from_:Int) (h:Kb n fw dom = false) :
  Sy.Spec Tryz.prog 240 [Ap n,.sl 1 Ad fw,Aa dom,Aa from_] [] (.tup [.val (.pointer none),Ad false]) []:=Ab Γ hm 100 F240 Tryz.ntmps240 rfl fun F hF=>by
 have qr:=B4 n hn
 conv=>whnf
 refine ⟨fun h1=>?_,fun h1=>?_⟩
 ·(refine rg ?_;(conv=>whnf);refine aT ?_;refine rg ?_;(conv=>whnf);refine aT ?_;refine rg ?_;(conv=>whnf);refine aT ?_;refine rg ?_;conv=>whnf)
  exact Ac E (.cons .tmp (.cons .tmp .nil)) E E
 refine rg ?_;conv=>whnf
 refine ⟨fun h2=>?_,fun h2=>?_⟩
 ·(refine rg ?_;(conv=>whnf);refine aT ?_;refine rg ?_;(conv=>whnf);refine aT ?_;refine rg ?_;conv=>whnf)
  exact Ac E (.cons .tmp (.cons .tmp .nil)) E E
 refine rg ?_;conv=>whnf
 refine ⟨fun h3=>?_,fun h3=>?_⟩
 ·(refine rg ?_;(conv=>whnf);refine aT ?_;refine rg ?_;conv=>whnf)
  exact Ac E (.cons .tmp (.cons .tmp .nil)) E E
 refine rg ?_;conv=>whnf
 refine Ag qr F67 E E E E E ?_
 cases hbn:Ah n
 ·(refine rg ?_;(conv=>whnf);refine aT ?_;refine rg ?_;conv=>whnf)
  exact Ac E (.cons .tmp (.cons .tmp .nil)) E E
 ·exfalso
  have h4:Am dom n.domains.length = true:=Dy ⟨by simp at h1; omega,by simp at h2; omega⟩
  have h5:fw.length = n.links.length:=by simp at h3; omega
  simp [Kb,h4,h5,hbn] at h
theorem Amr (n:Net) (hn:n.Fin) (fw:List Bool) (dom from_:Int) (h:Kb n fw dom = true) :
  Sy.Spec Tryz.prog 240 [Ap n,.sl 1 Ad fw,Aa dom,Aa from_] [] (.tup [.ref 12 (Lx n fw dom from_ (Az n dom)) 0,Ad (decide (from_ = -1) || decide (from_ = -2) || inB (Az n dom) from_)]) []:=Ab Γ hm 100 F240 Tryz.ntmps240 rfl fun F hF=>by
 have qr:=B4 n hn
 simp only [Kb,Bool.and_eq_true,decide_eq_true_eq] at h
 obtain ⟨⟨hd,hfw⟩,hbn⟩:=h
 rw [hbn] at qr
 have hdi:=Bn hd
 have qm:=Za n hn dom
 have qc:=Dv (Cd n dom) from_ (Hx n hn dom)
 have hmt:Cd n dom = Az n dom:=by rw [Cd,if_pos ⟨⟨hdi.1,hdi.2⟩,hbn⟩]
 rw [hmt] at qm qc
 generalize Az n dom = ml at *
 conv=>whnf
 refine ⟨fun h1=>absurd h1 (by simp; omega),fun _=>?_⟩
 refine rg ?_;conv=>whnf
 refine ⟨fun h1=>absurd h1 (by simp; omega),fun _=>?_⟩
 refine rg ?_;conv=>whnf
 refine ⟨fun h1=>absurd h1 (by simp; omega),fun _=>?_⟩
 refine rg ?_;conv=>whnf
 refine Ag qr F67 E E E E E ?_
 (refine rg ?_;(conv=>whnf);refine aF ?_;refine rg ?_;conv=>whnf)
 refine At qm F288 E E E (by kernel_rfl) E ?_
 refine rd (by kernel_rfl) ?_;conv=>whnf
 refine ⟨(by kernel_rfl),?_⟩
 conv=>whnf
 refine ⟨fun h1=>?_,fun h1=>?_⟩
 ·have h2:from_ = -1:=by simpa using h1
  refine Bf 41 12 (Lx n fw dom from_ ml) E E E ?_
  (refine rg ?_;(conv=>whnf);refine aT ?_;refine rg ?_;conv=>whnf)
  exact Ac E (.cons .tmp (.cons .tmp .nil)) (congrArg (fun z=>SV.tup [_,Ad z]) (by simp [h2])) E
 have h2:¬ from_ = -1:=by simpa using h1
 refine Bf 41 12 (Lx n fw dom from_ ml) E E E ?_
 refine rg ?_;conv=>whnf
 refine ⟨fun h3=>?_,fun h3=>?_⟩
 ·have h4:from_ = -2:=by simpa using h3
  refine rg ?_;conv=>whnf
  exact Ac E (.cons .tmp (.cons .tmp .nil)) (congrArg (fun z=>SV.tup [_,Ad z]) (by simp [h4])) E
 have h4:¬ from_ = -2:=by simpa using h3
 refine rg ?_;conv=>whnf
 refine Ag qc F86 E E E E E ?_
 refine rg ?_;conv=>whnf
 exact Ac E (.cons .tmp (.cons .tmp .nil)) (congrArg (fun z=>SV.tup [_,Ad z]) (by simp [h2,h4])) E
theorem L3 {n:Net} (hb:Ah n = true) {p:Int} (h0:0 ≤ p) (hp:p < n.ports.length):(nth n.ports p).link < n.links.length:=by
 have hk:p.toNat < n.ports.length:=by omega
 have e1:nth n.ports p = n.ports[p.toNat]:=Ao hk
 rw [e1]
 by_cases hl:0 ≤ n.ports[p.toNat].link
 ·have:=Kq hb hk hl
  omega
 ·omega
theorem Xt {n:Net} {fw:List Bool} (hb:Ah n = true) (hf:fw.length = n.links.length) {l:List Int} (h:∀ p ∈ l,0 ≤ p ∧ p < n.ports.length):Ajf n fw l:=fun p hp =>
 ⟨(h p hp).1,(h p hp).2,by rw [hf]; exact L3 hb (h p hp).1 (h p hp).2⟩
theorem By {n:Net} {dom:Int}:∀ p ∈ Az n dom,0 ≤ p ∧ p < n.ports.length:=fun p hp=>by
 rw [Az,filtI_mem] at hp
 exact ⟨hp.1,hp.2.1⟩
theorem Iq {n:Net} (hn:n.Fin) (dom:Int):Aq (Az n dom):=by
 have h1:=Ea (I1 n (nth n.domains dom)) n.ports.length
 have h2:=hn.ports
 unfold Aq at *
 rw [Az]
 omega
theorem Iv (n:Net) (fw:List Bool) (dom from_:Int):roomB n fw dom from_ = (Kb n fw dom && (decide (from_ = -1) || decide (from_ = -2) || inB (Az n dom) from_)):=rfl
theorem floodS (n:Net) (hn:n.Fin) (fw:List Bool) (dom from_:Int) :
  Sy.Spec Tryz.prog 171 [Ap n,.sl 1 Ad fw,Aa dom,Aa from_] [] (.tup [.sl 1 Aa (floodT n fw dom from_).1,.sl 1 Aa (floodT n fw dom from_).2.1,Aa (floodT n fw dom from_).2.2]) []:=Ab Γ hm 100 F171 Tryz.ntmps171 rfl fun F hF=>by
 have hres:=floodT.eq_1 n fw dom from_
 generalize floodT n fw dom from_ = res at *
 rw [Iv] at hres
 cases hbase:Kb n fw dom
 ·rw [hbase,Bool.false_and,if_pos rfl] at hres
  subst hres
  have q:=Ain n hn fw dom from_ hbase
  conv=>whnf
  refine Ag q F240 E E E E E ?_
  (refine rg ?_;(conv=>whnf);refine aT ?_;refine rg ?_;conv=>whnf)
  refine An 8 1 Aa E ?_
  refine An 9 1 Aa E ?_
  exact Ac E (.cons .tmp (.cons .tmp (.cons .tmp .nil))) E E
 rw [hbase,Bool.true_and] at hres
 have q:=Amr n hn fw dom from_ hbase
 have hb2:=hbase
 simp only [Kb,Bool.and_eq_true,decide_eq_true_eq] at hb2
 obtain ⟨⟨hd,hfw⟩,hbn⟩:=hb2
 have qp:=Agp n fw dom from_ (Az n dom) (Az n dom) (Iq hn dom) (Xt hbn hfw By)
 have qe:=Air n hn fw dom from_ (Az n dom) hd
 generalize (decide (from_ = -1) || decide (from_ = -2) || inB (Az n dom) from_) = ok at *
 generalize Az n dom = ml at *
 conv=>whnf
 refine Ag q F240 E E E E E ?_
 cases ok
 ·rw [if_pos rfl] at hres
  subst hres
  (refine rg ?_;(conv=>whnf);refine aT ?_;refine rg ?_;conv=>whnf)
  refine An 8 1 Aa E ?_
  refine An 9 1 Aa E ?_
  exact Ac E (.cons .tmp (.cons .tmp (.cons .tmp .nil))) E E
 rw [if_neg (by decide)] at hres
 subst hres
 (refine rg ?_;(conv=>whnf);refine aF ?_;refine rg ?_;conv=>whnf)
 refine Ag qp F241 E E E E E ?_
 refine rg ?_;conv=>whnf
 refine Ag qe F242 E E E E E ?_
 refine rg ?_;conv=>whnf
 exact Ac E (.cons .tmp (.cons .tmp (.cons .tmp .nil))) E E
theorem Tu (l:List Static) (p:Static → Bool) (f:FuncId) (first cap:List SV) (hc:(SV.clo (.func f) first cap).inn [] = true) (hf:∀ x ∈ l,Jb Tryz.prog f (first ++ [Bp x] ++ cap) (Ad (p x))) (hl:Aq l) :
  Sy.Spec Tryz.prog 346 [.sl 4 Bp l,.clo (.func f) first cap] [] (Aa (C7 p l)) []:=Ab Γ hm 100 F346 Tryz.ntmps346 rfl fun F hF=>by
 unfold Aq at hl
 have hin:∀ x:Static,Cj [] (first ++ [Bp x] ++ cap) = true:=fun x=>Dd hc rfl
 conv=>whnf
 refine A2 l.length (fun j=>Da (fun _ x=>!(p x)) l j) (fun j=>[(0,.sl 4 Bp l),(1,.clo (.func f) first cap),(7,Aa l.length),(8,Aa j)]) (fun _=>[]) [] (A5 _ _) ⟨⟨E,E,Bm _,hc,E,E,E,E,Y⟩,Y,E,E⟩ ?_
 intro j hj hI
 refine rg ?_;conv=>whnf
 refine ⟨fun h=>?_,fun h=>?_⟩
 ·have h:=of_decide_eq_true h
  have hj2:j < l.length:=by omega
  refine rg ?_;conv=>whnf
  refine ⟨E,by omega,by omega,?_⟩
  conv=>whnf
  refine Ep (hf l[j] (List.getElem_mem hj2)) E E E (by simp only [hin]; rfl) E E ?_
  refine rg ?_;conv=>whnf
  refine ⟨fun h2=>?_,fun h2=>?_⟩
  ·refine rg ?_;conv=>whnf
   refine Ac E (.cons .tmp .nil) (congrArg Aa ?_) E
   exact Ct hj2 (fun i hi hij=>by simpa using hI i hi hij) h2
  ·refine rg ?_;conv=>whnf
   refine ⟨by unfold I64; omega,?_⟩
   conv=>whnf
   exact Ax [] hI hj2 (A3 hI hj2 (by simp [h2])) ⟨⟨E,E,Bm _,hc,E,E,E,E,Y⟩,Y,E,E⟩
 ·have h:=of_decide_eq_false h
  refine rg ?_;conv=>whnf
  refine Ac E (.cons .tmp .nil) (congrArg Aa ?_) E
  exact C3 (fun i hi=>by simpa using hI i hi (by omega))
theorem entryC (dom:Int) (m:Nat) (s:Static):Sy.Spec Tryz.prog 347 [Bp s,.ref 1 (Aa dom) 0,.ref 1 (Ay m) 0] [] (Ad (decide (s.domain = dom) && decide (s.mac = (m:Int)))) []:=Ab Γ hm 100 F347 Tryz.ntmps347 rfl fun F hF=>by
 conv=>whnf
 refine ⟨fun h=>?_,fun h=>?_⟩
 ·refine rg ?_;conv=>whnf
  refine Ac E (.cons .tmp .nil) (congrArg Ad ?_) E
  have h1:s.domain = dom:=by simpa using h
  rw [decide_eq_true h1,Bool.true_and,Bool.eq_iff_iff]
  simp
 ·refine rg ?_;conv=>whnf
  refine Ac E (.cons .tmp .nil) (congrArg Ad ?_) E
  have h1:¬ s.domain = dom:=by simpa using h
  rw [decide_eq_false h1,Bool.false_and]
theorem entryI (n:Net) (hn:n.Fin) (dom:Int) (m:Nat):Sy.Spec Tryz.prog 333 [Ap n,Aa dom,Ay m] [] (Aa (Db n dom m)) []:=Ab Γ hm 100 F333 Tryz.ntmps333 rfl fun F hF=>by
 have q:=Tu n.statics (fun s:Static=>decide (s.domain = dom) && decide (s.mac = (m:Int))) 347 [] [.ref 1 (Aa dom) 0,.ref 1 (Ay m) 0] rfl (fun x _=>⟨⟨_,_,F347⟩,entryC dom m x⟩) hn.statics
 conv=>whnf
 refine Bf 4 1 (Aa dom) E E E ?_
 refine Bf 5 1 (Ay m) E E E ?_
 refine rg ?_;conv=>whnf
 refine Ag q F346 E E E E E ?_
 refine rg ?_;conv=>whnf
 exact Ac E (.cons .tmp .nil) E E
def staticP (n:Net) (dom:Int) (m:Nat):Int:=if 0 ≤ Db n dom m then (nth n.statics (Db n dom m)).port else -1
theorem Ah1 (n:Net) (hn:n.Fin) (hb:Ah n = true) (dom:Int) (m:Nat):Sy.Spec Tryz.prog 306 [Ap n,Aa dom,Ay m] [] (Aa (staticP n dom m)) []:=Ab Γ hm 100 F306 Tryz.ntmps306 rfl fun F hF=>by
 have q:=entryI n hn dom m
 have qr:=B4 n hn
 rw [hb] at qr
 have hlt:Db n dom m < n.statics.length:=Ir _ _
 have hres:=staticP.eq_1 n dom m
 generalize staticP n dom m = res at *
 generalize Db n dom m = i at *
 conv=>whnf
 refine Ag q F333 E E E E E ?_
 refine rg ?_;conv=>whnf
 refine ⟨fun h=>?_,fun h=>?_⟩
 ·rw [if_neg (by simp at h; omega)] at hres
  subst hres
  (refine rg ?_;(conv=>whnf);refine aT ?_;refine rg ?_;conv=>whnf)
  exact Ac E (.cons .tmp .nil) E E
 ·have h0:0 ≤ i:=by simp at h; omega
  have hk:i.toNat < n.statics.length:=by omega
  have e1:nth n.statics i = n.statics[i.toNat]:=Ao hk
  rw [if_pos h0,e1] at hres
  refine rg ?_;conv=>whnf
  refine Ag qr F67 E E E E E ?_
  (refine rg ?_;(conv=>whnf);refine aF ?_;refine rg ?_;conv=>whnf)
  refine ⟨E,h0,hk,?_⟩
  conv=>whnf
  exact Ac E (.cons .tmp .nil) (congrArg Aa hres) E
def knownT (n:Net) (fw:List Bool) (t:List EntryM) (dom from_:Int) (m:Nat):List Int × List Int × Bool :=
 if 0 ≤ staticP n dom m then (Cc n fw from_ [staticP n dom m],[],true)
 else if (findE t m).2 = false then ([],[],false)
 else if 0 ≤ (findE t m).1 ∧ inB (Az n dom) (findE t m).1 = true then (Cc n fw from_ [(findE t m).1],[],true)
 else if (findE t m).1 < 0 ∧ inB (nth n.domains dom).peers (-1 - (findE t m).1) = true then (if from_ = -1 then ([],[],true) else ([],[-1 - (findE t m).1],true))
 else ([],[],false)
theorem Mt {n:Net} (hb:Ah n = true) (dom:Int) (m:Nat) (h:0 ≤ staticP n dom m):staticP n dom m < n.ports.length:=by
 unfold staticP at h ⊢
 split at h
 ·rename_i h0
  rw [if_pos h0]
  have hlt:Db n dom m < n.statics.length:=Ir _ _
  have hk:(Db n dom m).toNat < n.statics.length:=by omega
  simp only [Ah,Bool.and_eq_true] at hb
  have:=allB_iff.1 hb.1.1.1.2 _ hk
  simp only [E9,Bool.and_eq_true,Am,decide_eq_true_eq] at this
  rw [Ao hk]
  exact this.1.1.2.2
 ·omega
theorem knownS (n:Net) (hn:n.Fin) (fw:List Bool) (t:List EntryM) (dom from_:Int) (m:Nat) (hl:Aq t) (hw:I64 (-1 - (findE t m).1)) (hbase:Kb n fw dom = true) :
  Sy.Spec Tryz.prog 249 [.ref 12 (Lx n fw dom from_ (Az n dom)) 0,.sl 3 Al t,Ay m] [] (.tup [.sl 1 Aa (knownT n fw t dom from_ m).1,.sl 1 Aa (knownT n fw t dom from_ m).2.1,Ad (knownT n fw t dom from_ m).2.2]) []:=Ab Γ hm 100 F249 Tryz.ntmps249 rfl fun F hF=>by
 simp only [Kb,Bool.and_eq_true,decide_eq_true_eq] at hbase
 obtain ⟨⟨hd,hfw⟩,hbn⟩:=hbase
 have hdi:=Bn hd
 have hd0:0 ≤ dom:=hdi.1
 have hkd:dom.toNat < n.domains.length:=by omega
 have e2:nth n.domains dom = n.domains[dom.toNat]:=Ao hkd
 have hpe:=hn.peers _ (List.getElem_mem hkd)
 have hres:=knownT.eq_1 n fw t dom from_ m
 have qs:=Ah1 n hn hbn dom m
 have hsp:=Mt hbn dom m
 have qf:=Amd t m hl
 have qp:∀ p:Int,0 ≤ p → p < n.ports.length → _:=fun p h0 h1=>Agp n fw dom from_ (Az n dom) [p] (by unfold Aq; simp) (Xt hbn hfw (l:=[p]) (fun x hx=>by rw [List.mem_singleton] at hx; subst hx; exact ⟨h0,h1⟩))
 have hmem:∀ p,inB (Az n dom) p = true → 0 ≤ p ∧ p < n.ports.length:=fun p hp=>By p (inB_mem.1 hp)
 have qc:=fun x=>Dv (Az n dom) x (Iq hn dom)
 rw [e2] at hres
 obtain ⟨d,hdd⟩:∃ d,n.domains[dom.toNat]'hkd = d:=⟨_,rfl⟩
 rw [hdd] at hres hpe
 have qc2:=fun x=>Dv d.peers x hpe
 generalize knownT n fw t dom from_ m = res at *
 generalize staticP n dom m = sp at *
 generalize findE t m = fe at *
 obtain ⟨w,ok⟩:=fe
 dsimp only at hres hw qf
 generalize Az n dom = ml at *
 conv=>whnf
 refine At qs F306 E E E (by kernel_rfl) E ?_
 refine rd (by kernel_rfl) ?_;conv=>whnf
 refine ⟨(by kernel_rfl),?_⟩
 conv=>whnf
 refine ⟨fun h1=>?_,fun h1=>?_⟩
 ·have h2:0 ≤ sp:=by simpa using h1
  rw [if_pos h2] at hres
  subst hres
  refine rg ?_;conv=>whnf
  refine Eb 25 Aa [sp] E E ?_
  refine As 25 E ?_
  refine Ag (qp sp h2 (hsp h2)) F241 E E E E E ?_
  refine rg ?_;conv=>whnf
  refine An 7 1 Aa E ?_
  exact Ac E (.cons .tmp (.cons .tmp (.cons .tmp .nil))) E E
 have h2:¬ 0 ≤ sp:=by simp at h1; omega
 rw [if_neg h2] at hres
 refine rg ?_;conv=>whnf
 refine Ag qf F307 E E E E E ?_
 cases ok
 ·rw [if_pos rfl] at hres
  subst hres
  (refine rg ?_;(conv=>whnf);refine aT ?_;refine rg ?_;conv=>whnf)
  refine An 6 1 Aa E ?_
  refine An 7 1 Aa E ?_
  exact Ac E (.cons .tmp (.cons .tmp (.cons .tmp .nil))) E E
 rw [if_neg (by decide)] at hres
 (refine rg ?_;(conv=>whnf);refine aF ?_;refine rg ?_;conv=>whnf)
 refine ⟨fun h3=>?_,fun h3=>?_⟩
 ·have h4:0 ≤ w:=by simpa using h3
  refine rg ?_;conv=>whnf
  refine Ag (qc w) F86 E E E E E ?_
  cases hin:inB ml w
  ·rw [if_neg (by simp [hin]),if_neg (by omega)] at hres
   subst hres
   (refine rg ?_;(conv=>whnf);refine aF ?_;refine rg ?_;conv=>whnf)
   refine ⟨fun h5=>absurd h5 (by simp; omega),fun _=>?_⟩
   refine rd (by kernel_rfl) ?_;conv=>whnf
   refine ⟨(by kernel_rfl),?_⟩
   ((conv=>whnf);refine aF ?_;refine rg ?_;conv=>whnf)
   refine An 6 1 Aa E ?_
   refine An 7 1 Aa E ?_
   exact Ac E (.cons .tmp (.cons .tmp (.cons .tmp .nil))) E E
  ·rw [if_pos ⟨h4,hin⟩] at hres
   subst hres
   (refine rg ?_;(conv=>whnf);refine aT ?_;refine rg ?_;conv=>whnf)
   refine Eb 49 Aa [w] E E ?_
   refine As 49 E ?_
   refine Ag (qp w h4 (hmem w hin).2) F241 E E E E E ?_
   refine rg ?_;conv=>whnf
   refine An 7 1 Aa E ?_
   exact Ac E (.cons .tmp (.cons .tmp (.cons .tmp .nil))) E E
 have h4:¬ 0 ≤ w:=by simp at h3; omega
 rw [if_neg (by omega)] at hres
 (refine rg ?_;(conv=>whnf);refine aF ?_;refine rg ?_;conv=>whnf)
 refine ⟨fun h5=>?_,fun h5=>absurd h5 (by simp; omega)⟩
 refine rd (by kernel_rfl) ?_;conv=>whnf
 refine ⟨E,hd0,hkd,?_⟩
 rw [hdd]
 conv=>whnf
 refine ⟨hw,?_⟩
 conv=>whnf
 refine At (qc2 (-1 - w)) F86 E E E (by kernel_rfl) E ?_
 cases hin:inB d.peers (-1 - w)
 ·rw [if_neg (by simp [hin])] at hres
  subst hres
  refine rd (by kernel_rfl) ?_;conv=>whnf
  refine ⟨(by kernel_rfl),?_⟩
  ((conv=>whnf);refine aF ?_;refine rg ?_;conv=>whnf)
  refine An 6 1 Aa E ?_
  refine An 7 1 Aa E ?_
  exact Ac E (.cons .tmp (.cons .tmp (.cons .tmp .nil))) E E
 rw [if_pos ⟨by omega,hin⟩] at hres
 refine rd (by kernel_rfl) ?_;conv=>whnf
 refine ⟨(by kernel_rfl),?_⟩
 ((conv=>whnf);refine aT ?_;refine rg ?_;conv=>whnf)
 refine ⟨fun h6=>?_,fun h6=>?_⟩
 ·rw [if_pos (by simpa using h6)] at hres
  subst hres
  refine rg ?_;conv=>whnf
  refine An 6 1 Aa E ?_
  refine An 7 1 Aa E ?_
  exact Ac E (.cons .tmp (.cons .tmp (.cons .tmp .nil))) E E
 ·rw [if_neg (by simpa using h6)] at hres
  subst hres
  refine rg ?_;conv=>whnf
  refine ⟨hw,?_⟩
  conv=>whnf
  refine An 6 1 Aa E ?_
  refine Eb 78 Aa [-1 - w] E E ?_
  refine As 78 E ?_
  exact Ac E (.cons .tmp (.cons .tmp (.cons .tmp .nil))) E E
theorem Lv {n:Net} (hb:Ah n = true) (dom:Int) (m:Nat):(0 ≤ staticP n dom m ↔ 0 ≤ Db n dom m) ∧ (0 ≤ Db n dom m → staticP n dom m = (nth n.statics (Db n dom m)).port):=by
 refine ⟨⟨fun h=>?_,fun h=>?_⟩,fun h=>by rw [staticP,if_pos h]⟩
 ·unfold staticP at h
  split at h
  ·assumption
  ·omega
 ·rw [staticP,if_pos h]
  have hlt:Db n dom m < n.statics.length:=Ir _ _
  have hk:(Db n dom m).toNat < n.statics.length:=by omega
  simp only [Ah,Bool.and_eq_true] at hb
  have:=allB_iff.1 hb.1.1.1.2 _ hk
  simp only [E9,Bool.and_eq_true,Am,decide_eq_true_eq] at this
  rw [Ao hk]
  exact this.1.1.2.1
theorem Aqa {n:Net} {fw:List Bool} {t:List EntryM} {dom from_:Int} {m:Nat} (hb:Ah n = true) (hr:roomB n fw dom from_ = true) (hg:Du m = false) :
  decideT n fw t dom from_ m = if (knownT n fw t dom from_ m).2.2 = true then ((knownT n fw t dom from_ m).1,(knownT n fw t dom from_ m).2.1,0) else (Cc n fw from_ (Az n dom),peersOut n dom from_,0):=by
 obtain ⟨h1,h2⟩:=Lv hb dom m
 rw [decideT,if_neg (by rw [hr]; decide),if_neg (by rw [hg]; decide)]
 unfold knownT
 by_cases hs:0 ≤ Db n dom m
 ·rw [if_pos hs,if_pos (h1.2 hs),h2 hs]; rfl
 rw [if_neg hs,if_neg (fun h=>hs (h1.1 h))]
 generalize findE t m = fe
 obtain ⟨w,ok⟩:=fe
 cases ok
 ·simp
 simp only [Bool.true_eq_false,if_false,true_and]
 by_cases ha:0 ≤ w ∧ inB (Az n dom) w = true
 ·rw [if_pos ha,if_pos ha]; rfl
 rw [if_neg ha,if_neg ha]
 by_cases hc:w < 0 ∧ inB (nth n.domains dom).peers (-1 - w) = true
 ·rw [if_pos hc,if_pos hc]
  split <;> rfl
 ·rw [if_neg hc,if_neg hc]; rfl
theorem Aqb (n:Net) (hn:n.Fin) (fw:List Bool) (t:List EntryM) (dom from_:Int) (m:Nat) (hl:Aq t) (hw:I64 (-1 - (findE t m).1)) (hm64:m < 18446744073709551616) :
  Sy.Spec Tryz.prog 176 [Ap n,.sl 1 Ad fw,.sl 3 Al t,Aa dom,Aa from_,Ay m] [] (.tup [.sl 1 Aa (decideT n fw t dom from_ m).1,.sl 1 Aa (decideT n fw t dom from_ m).2.1,Aa (decideT n fw t dom from_ m).2.2]) []:=Ab Γ hm 100 F176 Tryz.ntmps176 rfl fun F hF=>by
 cases hbase:Kb n fw dom
 ·have hres:decideT n fw t dom from_ m = ([],[],2):=by
   rw [decideT,if_pos (by rw [Iv,hbase]; rfl)]
  rw [hres]
  have q:=Ain n hn fw dom from_ hbase
  conv=>whnf
  refine Ag q F240 E E E E E ?_
  (refine rg ?_;(conv=>whnf);refine aT ?_;refine rg ?_;conv=>whnf)
  refine An 12 1 Aa E ?_
  refine An 13 1 Aa E ?_
  exact Ac E (.cons .tmp (.cons .tmp (.cons .tmp .nil))) E E
 have q:=Amr n hn fw dom from_ hbase
 have qk:=knownS n hn fw t dom from_ m hl hw hbase
 have qg:=Le m hm64
 have hb2:=hbase
 simp only [Kb,Bool.and_eq_true,decide_eq_true_eq] at hb2
 obtain ⟨⟨hd,hfw⟩,hbn⟩:=hb2
 have qp:=Agp n fw dom from_ (Az n dom) (Az n dom) (Iq hn dom) (Xt hbn hfw By)
 have qe:=Air n hn fw dom from_ (Az n dom) hd
 have hroom:=Iv n fw dom from_
 rw [hbase,Bool.true_and] at hroom
 have hbad:roomB n fw dom from_ = false → decideT n fw t dom from_ m = ([],[],2):=fun h=>by rw [decideT,if_pos h]
 have hgrp:roomB n fw dom from_ = true → Du m = true → decideT n fw t dom from_ m = (Cc n fw from_ (Az n dom),peersOut n dom from_,0):=fun h h2=>by
  rw [decideT,if_neg (by rw [h]; decide),if_pos h2]
 have hkn:=fun h h2=>@Aqa n fw t dom from_ m hbn h h2
 generalize decideT n fw t dom from_ m = res at *
 generalize knownT n fw t dom from_ m = kn at *
 obtain ⟨kp,ke,ko⟩:=kn
 generalize roomB n fw dom from_ = rm at *
 generalize (decide (from_ = -1) || decide (from_ = -2) || inB (Az n dom) from_) = ok at *
 subst hroom
 generalize Az n dom = ml at *
 dsimp only at hkn qk
 conv=>whnf
 refine Ag q F240 E E E E E ?_
 cases rm
 ·rw [hbad rfl]
  (refine rg ?_;(conv=>whnf);refine aT ?_;refine rg ?_;conv=>whnf)
  refine An 12 1 Aa E ?_
  refine An 13 1 Aa E ?_
  exact Ac E (.cons .tmp (.cons .tmp (.cons .tmp .nil))) E E
 (refine rg ?_;(conv=>whnf);refine aF ?_;refine rg ?_;conv=>whnf)
 refine Ag qg F162 E E E E E ?_
 cases hg:Du m
 ·have hkn:=hkn rfl hg
  (refine rg ?_;(conv=>whnf);refine aT ?_;refine rg ?_;conv=>whnf)
  refine Ag qk F249 E E E E E ?_
  cases ko
  ·rw [if_neg (by decide)] at hkn
   subst hkn
   (refine rg ?_;(conv=>whnf);refine aF ?_;refine rg ?_;conv=>whnf)
   refine Ag qp F241 E E E E E ?_
   refine rg ?_;conv=>whnf
   refine Ag qe F242 E E E E E ?_
   refine rg ?_;conv=>whnf
   exact Ac E (.cons .tmp (.cons .tmp (.cons .tmp .nil))) E E
  ·rw [if_pos rfl] at hkn
   subst hkn
   (refine rg ?_;(conv=>whnf);refine aT ?_;refine rg ?_;conv=>whnf)
   exact Ac E (.cons .tmp (.cons .tmp (.cons .tmp .nil))) E E
 ·rw [hgrp rfl hg]
  (refine rg ?_;(conv=>whnf);refine aF ?_;refine rg ?_;conv=>whnf)
  refine Ag qp F241 E E E E E ?_
  refine rg ?_;conv=>whnf
  refine Ag qe F242 E E E E E ?_
  refine rg ?_;conv=>whnf
  exact Ac E (.cons .tmp (.cons .tmp (.cons .tmp .nil))) E E
theorem Td (n:Net) (fw:List Bool) (p:Int) (h0:0 ≤ p) (hp:p < n.ports.length) (hl:(nth n.ports p).link < fw.length) (hneg:(nth n.ports p).link = -1 ∨ 0 ≤ (nth n.ports p).link):Sy.Spec Tryz.prog 211 [Ap n,.sl 1 Ad fw,Aa p] [] (Ad (usableB n fw p)) []:=Ab Γ hm 100 F211 Tryz.ntmps211 rfl fun F hF=>by
 have q:=A9 p n.ports.length
 rw [Dy ⟨h0,hp⟩] at q
 have hk:p.toNat < n.ports.length:=by omega
 have e1:nth n.ports p = n.ports[p.toNat]:=Ao hk
 have hu:=usableB.eq_1 n fw p
 generalize usableB n fw p = res at *
 rw [e1] at hu hl hneg
 obtain ⟨x,hx⟩:∃ x,n.ports[p.toNat]'hk = x:=⟨_,rfl⟩
 rw [hx] at hu hl hneg
 conv=>whnf
 refine Ag q F35 E E E E E ?_
 (refine rg ?_;(conv=>whnf);refine aT ?_;refine rg ?_;conv=>whnf)
 refine ⟨E,h0,hk,?_⟩
 rw [hx]
 conv=>whnf
 refine ⟨fun h=>?_,fun h=>?_⟩
 ·have h1:x.link = -1:=by simpa using h
  rw [decide_eq_true (by omega),Bool.true_or] at hu
  subst hu
  refine rg ?_;conv=>whnf
  exact Ac E (.cons .tmp .nil) E E
 ·have h1:¬ x.link = -1:=by simpa using h
  have h2:x.link.toNat < fw.length:=by omega
  rw [decide_eq_false (by omega),Bool.false_or,List.getElem?_eq_getElem h2] at hu
  refine rg ?_;conv=>whnf
  refine ⟨E,h0,hk,?_⟩
  rw [hx]
  conv=>whnf
  refine ⟨E,by omega,h2,?_⟩
  conv=>whnf
  exact Ac E (.cons .tmp .nil) (congrArg Ad hu) E
theorem Aga (n:Net) (hn:n.Fin) (fw:List Bool) (dom from_:Int):Sy.Spec Tryz.prog 209 [Ap n,.sl 1 Ad fw,Aa dom,Aa from_] [] (Ad (roomB n fw dom from_)) []:=Ab Γ hm 100 F209 Tryz.ntmps209 rfl fun F hF=>by
 have hr:=Dw n hn
 have hpl:=A9 dom n.domains.length
 have hres:=roomB.eq_1 n fw dom from_
 generalize roomB n fw dom from_ = res at *
 conv=>whnf
 refine Ag hr F74 E E E E E ?_
 cases hbn:Ah n
 ·rw [hbn,Bool.and_false,Bool.false_and] at hres
  subst hres
  (refine rg ?_;(conv=>whnf);refine aT ?_;refine rg ?_;(conv=>whnf);refine aT ?_;refine rg ?_;(conv=>whnf);refine aT ?_;refine rg ?_;conv=>whnf)
  exact Ac E (.cons .tmp .nil) E E
 (refine rg ?_;(conv=>whnf);refine aF ?_;refine rg ?_;conv=>whnf)
 refine ⟨fun h=>?_,fun h=>?_⟩
 ·have h1:¬ fw.length = n.links.length:=by simp at h; omega
  rw [decide_eq_false h1,Bool.and_false,Bool.false_and,Bool.false_and] at hres
  subst hres
  (refine rg ?_;(conv=>whnf);refine aT ?_;refine rg ?_;conv=>whnf)
  exact Ac E (.cons .tmp .nil) E E
 have h1:fw.length = n.links.length:=by simp at h; omega
 refine rg ?_;conv=>whnf
 refine Ag hpl F35 E E E E E ?_
 cases hd:Am dom n.domains.length
 ·rw [hd,Bool.false_and,Bool.false_and,Bool.false_and] at hres
  subst hres
  (refine rg ?_;(conv=>whnf);refine aT ?_;refine rg ?_;conv=>whnf)
  exact Ac E (.cons .tmp .nil) E E
 have hdi:=Bn hd
 have qm:=Kh n hn hbn dom
 have qi:=El (Cd n dom) from_ (Hx n hn dom)
 have hmt:Cd n dom = Az n dom:=by rw [Cd,if_pos ⟨⟨hdi.1,hdi.2⟩,hbn⟩]
 rw [hmt] at qm qi
 rw [hd,hbn,decide_eq_true h1,Bool.true_and,Bool.true_and,Bool.true_and] at hres
 generalize Az n dom = ml at *
 (refine rg ?_;(conv=>whnf);refine aF ?_;refine rg ?_;conv=>whnf)
 refine ⟨fun h2=>?_,fun h2=>?_⟩
 ·have h3:from_ = -1:=by simpa using h2
  rw [decide_eq_true h3,Bool.true_or,Bool.true_or] at hres
  subst hres
  (refine rg ?_;(conv=>whnf);refine aT ?_;refine rg ?_;conv=>whnf)
  exact Ac E (.cons .tmp .nil) E E
 have h3:¬ from_ = -1:=by simpa using h2
 refine rg ?_;conv=>whnf
 refine ⟨fun h4=>?_,fun h4=>?_⟩
 ·have h5:from_ = -2:=by simpa using h4
  rw [decide_eq_true h5,Bool.or_true,Bool.true_or] at hres
  subst hres
  refine rg ?_;conv=>whnf
  exact Ac E (.cons .tmp .nil) E E
 have h5:¬ from_ = -2:=by simpa using h4
 rw [decide_eq_false h3,decide_eq_false h5,Bool.false_or,Bool.false_or] at hres
 subst hres
 refine rg ?_;conv=>whnf
 refine Ag qm F210 E E E E E ?_
 refine rg ?_;conv=>whnf
 refine Ag qi F142 E E E E E ?_
 refine rg ?_;conv=>whnf
 exact Ac E (.cons .tmp .nil) E E
theorem Qu {n:Net} (hb:Ah n = true) {p:Int} (h0:0 ≤ p) (hp:p < n.ports.length):(nth n.ports p).link = -1 ∨ 0 ≤ (nth n.ports p).link:=by
 have hk:p.toNat < n.ports.length:=by omega
 rw [Ao hk]
 simp only [Ah,Bool.and_eq_true] at hb
 have:=allB_iff.1 hb.1.1.1.1.1.2 _ hk
 simp only [Em,Bool.and_eq_true,Bool.or_eq_true,Am,decide_eq_true_eq,beq_iff_eq] at this
 rcases this.2 with h | h
 ·exact .inl h
 ·exact .inr h.1.1
theorem Y6 (n:Net) (fw:List Bool) (from_:Int) (l:List Int) {j:Nat} (h:j < l.length):Cc n fw from_ (l.take (j + 1)) = if (!(decide (l[j] = from_) || !(usableB n fw l[j]))) = true then Cc n fw from_ (l.take j) ++ [l[j]] else Cc n fw from_ (l.take j):=by
 simp only [Cc]
 rw [List.take_add_one,List.getElem?_eq_getElem h,List.filter_append,Option.toList_some]
 by_cases hc:(!(decide (l[j] = from_) || !(usableB n fw l[j]))) = true
 ·rw [if_pos hc,List.filter_cons,if_pos hc]; rfl
 ·rw [if_neg hc,List.filter_cons,if_neg hc]; simp
theorem Wa (n:Net) (fw:List Bool) (from_:Int) (l:List Int):(Cc n fw from_ l).length ≤ l.length:=List.length_filter_le _ _
theorem Vk (n:Net) (hn:n.Fin) (fw:List Bool) (dom from_:Int) :
  Sy.Spec Tryz.prog 143 [Ap n,.sl 1 Ad fw,Aa dom,Aa from_] [] (.tup [.sl 1 Aa (floodT n fw dom from_).1,.sl 1 Aa (floodT n fw dom from_).2.1,Aa (floodT n fw dom from_).2.2]) []:=Ab Γ hm 100 F143 Tryz.ntmps143 rfl fun F hF=>by
 have hres:=floodT.eq_1 n fw dom from_
 generalize floodT n fw dom from_ = res at *
 have qf:=Aga n hn fw dom from_
 cases hroom:roomB n fw dom from_
 ·rw [hroom] at qf
  rw [if_pos hroom] at hres
  subst hres
  conv=>whnf
  refine Ag qf F209 E E E E E ?_
  (refine rg ?_;(conv=>whnf);refine aT ?_;refine rg ?_;conv=>whnf)
  refine An 8 1 Aa E ?_
  refine An 9 1 Aa E ?_
  exact Ac E (.cons .tmp (.cons .tmp (.cons .tmp .nil))) E E
 rw [hroom] at qf
 rw [if_neg (by rw [hroom]; decide)] at hres
 have hb2:Kb n fw dom = true:=by rw [Iv,Bool.and_eq_true] at hroom; exact hroom.1
 simp only [Kb,Bool.and_eq_true,decide_eq_true_eq] at hb2
 obtain ⟨⟨hd,hfw⟩,hbn⟩:=hb2
 have hdi:=Bn hd
 have hd0:0 ≤ dom:=hdi.1
 have hkd:dom.toNat < n.domains.length:=by omega
 have e2:nth n.domains dom = n.domains[dom.toNat]:=Ao hkd
 have qm:=Kh n hn hbn dom
 have hmt:Cd n dom = Az n dom:=by rw [Cd,if_pos ⟨⟨hdi.1,hdi.2⟩,hbn⟩]
 rw [hmt] at qm
 have hml:=Iq hn dom
 have qu:∀ p ∈ Az n dom,_:=fun p hp=>Td n fw p (By p hp).1 (By p hp).2 (by rw [hfw]; exact L3 hbn (By p hp).1 (By p hp).2) (Qu hbn (By p hp).1 (By p hp).2)
 have hpo:=peersOut.eq_1 n dom from_
 rw [e2] at hpo
 obtain ⟨d,hdd⟩:∃ d,n.domains[dom.toNat]'hkd = d:=⟨_,rfl⟩
 rw [hdd] at hpo
 generalize Az n dom = ml at *
 generalize peersOut n dom from_ = po at *
 unfold Aq at hml
 conv=>whnf
 refine Ag qf F209 E E E E E ?_
 (refine rg ?_;(conv=>whnf);refine aF ?_;refine rg ?_;conv=>whnf)
 refine Ag qm F210 E E E E E ?_
 refine rg ?_;conv=>whnf
 refine Bt 11 1000 1 Aa E E ?_
 refine Bf 4 8 (Ap n) E E E ?_
 refine Au ml.length (fun j=>[(1,.sl 1 Ad fw),(2,Aa dom),(3,Aa from_),(4,.ref 8 (Ap n) 0),(11,.osl 1000),(12,.sl 1 Aa ml),(13,Aa j)]) (fun j=>[(1000,.row 1 Aa (Cc n fw from_ (ml.take j)))]) [] ⟨⟨E,E,E,E,E,E,E,E,E,E,E,E,E,E,Y⟩,⟨.inl E,E,Y⟩,E,E⟩ ?_
 intro j hj
 have hsucc:=fun h:j < ml.length=>Y6 n fw from_ ml h
 have hlen:=Wa n fw from_ (ml.take j)
 rw [List.length_take] at hlen
 obtain ⟨u,hu⟩:∃ u,Cc n fw from_ (ml.take j) = u:=⟨_,rfl⟩
 rw [hu] at hsucc hlen ⊢
 refine rg ?_;conv=>whnf
 refine ⟨fun h=>?_,fun h=>?_⟩
 ·have hlt:j < ml.length:=by have:=of_decide_eq_true h; omega
  have hs:=hsucc hlt
  have qx:=qu ml[j] (List.getElem_mem hlt)
  have hej:ml[((j:Nat):Int).toNat]'(by omega) = ml[j]:=rfl
  obtain ⟨x,hx⟩:∃ x,ml[j] = x:=⟨_,rfl⟩
  rw [hx] at hs qx hej
  refine rg ?_;conv=>whnf
  refine ⟨E,by omega,by omega,?_⟩
  rw [hej]
  conv=>whnf
  refine ⟨fun h2=>?_,fun h2=>?_⟩
  ·have h3:¬ x = from_:=by simpa using h2
   refine rd (by kernel_rfl) ?_;conv=>whnf
   refine ⟨E,by omega,by omega,?_⟩
   rw [hej]
   conv=>whnf
   refine At qx F211 E E E (by kernel_rfl) E ?_
   cases hub:usableB n fw x
   ·rw [if_neg (by simp [hub])] at hs
    refine rd (by kernel_rfl) ?_;conv=>whnf
    refine ⟨(by kernel_rfl),?_⟩
    ((conv=>whnf);refine aF ?_;refine rg ?_;conv=>whnf)
    refine ⟨by unfold I64; omega,?_⟩
    conv=>whnf
    exact Ar [] hlt ⟨⟨E,E,E,E,E,E,E,E,E,E,E,E,E,E,Y⟩,⟨.inl (congrArg (Ob.row 1 Aa) hs),E,Y⟩,E,E⟩
   ·rw [if_pos (by simp [hub,h3])] at hs
    refine rd (by kernel_rfl) ?_;conv=>whnf
    refine ⟨(by kernel_rfl),?_⟩
    ((conv=>whnf);refine aT ?_;refine rg ?_;conv=>whnf)
    refine ⟨E,by omega,by omega,?_⟩
    rw [hej]
    conv=>whnf
    refine Ai (Af Γ.toTy 60 rfl rfl rfl rfl rfl (.row rfl) (.lit (e:=Aa) (l:=[x]) rfl rfl) (fun j hj=>by cases hj; decide) (by simp; omega) (by simp; omega)) rfl rfl ?_
    refine rg ?_;conv=>whnf
    refine ⟨by unfold I64; omega,?_⟩
    conv=>whnf
    exact Ar [(1000,60)] hlt ⟨⟨E,E,E,E,E,E,E,E,E,E,E,E,E,E,Y⟩,⟨.inl (congrArg (Ob.row 1 Aa) hs),E,Y⟩,E,E⟩
  ·have h3:x = from_:=by simpa using h2
   rw [if_neg (by simp [h3])] at hs
   refine rd (by kernel_rfl) ?_;conv=>whnf
   refine ⟨(by kernel_rfl),?_⟩
   ((conv=>whnf);refine aF ?_;refine rg ?_;conv=>whnf)
   refine ⟨by unfold I64; omega,?_⟩
   conv=>whnf
   exact Ar [] hlt ⟨⟨E,E,E,E,E,E,E,E,E,E,E,E,E,E,Y⟩,⟨.inl (congrArg (Ob.row 1 Aa) hs),E,Y⟩,E,E⟩
 ·have:j = ml.length:=by have:=of_decide_eq_false h; omega
  subst this
  rw [List.take_length] at hu
  rw [hu] at hres
  refine As 1000 E ?_
  refine rg ?_;conv=>whnf
  refine ⟨fun h2=>?_,fun h2=>?_⟩
  ·rw [if_pos (by simpa using h2)] at hpo
   rw [hpo] at hres
   subst hres
   refine rg ?_;conv=>whnf
   refine An 9 1 Aa E ?_
   exact Ac E (.cons .tmp (.cons .tmp (.cons .tmp .nil))) E E
  ·rw [if_neg (by simpa using h2)] at hpo
   rw [hpo] at hres
   subst hres
   refine rg ?_;conv=>whnf
   refine ⟨E,hd0,hkd,?_⟩
   rw [hdd]
   conv=>whnf
   refine ⟨(by kernel_rfl),?_⟩
   conv=>whnf
   exact Ac E (.cons .tmp (.cons .tmp (.cons .tmp .nil))) E E
theorem Ad3 {b:Bool} (h:(!b) = true):b = false:=by simpa using h
theorem Abc (n:Net) (hn:n.Fin) (dom:Int) (m:Nat):Sy.Spec Tryz.prog 218 [Ap n,Aa dom,Ay m] [] (Aa (staticP n dom m)) []:=Ab Γ hm 100 F218 Tryz.ntmps218 rfl fun F hF=>by
 have hst:=hn.statics
 unfold Aq at hst
 conv=>whnf
 refine Bf 3 8 (Ap n) E E E ?_
 refine A2 n.statics.length (fun j=>Da (fun _ s=>!(decide (Static.domain s = dom) && decide (Static.mac s = (m:Int)))) n.statics j) (fun j=>[(1,Aa dom),(2,Ay m),(3,.ref 8 (Ap n) 0),(7,Aa j)]) (fun _=>[]) [] (A5 _ _) ⟨⟨E,E,E,E,E,E,E,E,Y⟩,Y,E,E⟩ ?_
 intro j hj hI
 refine rg ?_;conv=>whnf
 refine ⟨fun h=>?_,fun h=>?_⟩
 ·have hlt:j < n.statics.length:=by have:=of_decide_eq_true h; omega
  have hej:n.statics[((j:Nat):Int).toNat]'(by omega) = n.statics[j]:=rfl
  have hfound:(decide (n.statics[j].domain = dom) && decide (n.statics[j].mac = (m:Int))) = true → staticP n dom m = n.statics[j].port:=fun h=>by
   have:Db n dom m = j:=Ct hlt (fun i hi hij=>Ad3 (hI i hi hij)) h
   rw [staticP,this,if_pos (by omega),Ao (by simpa using hlt)]; rfl
  have hnext:(decide (n.statics[j].domain = dom) && decide (n.statics[j].mac = (m:Int))) = false → Da (fun _ s=>!(decide (Static.domain s = dom) && decide (Static.mac s = (m:Int)))) n.statics (j + 1):=fun h=>A3 hI hlt (by simp only [h]; rfl)
  obtain ⟨x,hx⟩:∃ x,n.statics[j] = x:=⟨_,rfl⟩
  rw [hx] at hej hfound hnext
  refine rg ?_;conv=>whnf
  refine ⟨E,by omega,by omega,?_⟩
  rw [hej]
  conv=>whnf
  refine ⟨fun h2=>?_,fun h2=>?_⟩
  ·have h3:x.domain = dom:=by simpa using h2
   refine rg ?_;conv=>whnf
   refine ⟨E,by omega,by omega,?_⟩
   rw [hej]
   conv=>whnf
   refine ⟨fun h4=>?_,fun h4=>?_⟩
   ·rw [hfound (by rw [decide_eq_true h3,decide_eq_true (by simpa using h4)]; rfl)]
    refine rg ?_;conv=>whnf
    refine ⟨E,by omega,by omega,?_⟩
    rw [hej]
    conv=>whnf
    exact Ac E (.cons .tmp .nil) E E
   ·have hI2:=hnext (by rw [decide_eq_false (p:=x.mac = (m:Int)) (by simpa using h4),Bool.and_false])
    refine rg ?_;conv=>whnf
    refine ⟨by unfold I64; omega,?_⟩
    conv=>whnf
    exact Ax [] hI (by omega) hI2 ⟨⟨E,E,E,E,E,E,E,E,Y⟩,Y,E,E⟩
  ·have hI2:=hnext (by rw [decide_eq_false (p:=x.domain = dom) (by simpa using h2),Bool.false_and])
   (refine rg ?_;(conv=>whnf);refine aF ?_;refine rg ?_;conv=>whnf)
   refine ⟨by unfold I64; omega,?_⟩
   conv=>whnf
   exact Ax [] hI (by omega) hI2 ⟨⟨E,E,E,E,E,E,E,E,Y⟩,Y,E,E⟩
 ·have hend:j = n.statics.length:=by have:=of_decide_eq_false h; omega
  subst hend
  have hno:Db n dom m = -1:=C3 fun i hi=>Ad3 (hI i hi hi)
  have hp:staticP n dom m = -1:=by rw [staticP,hno,if_neg (by decide)]
  rw [hp]
  refine rg ?_;conv=>whnf
  exact Ac E (.cons .tmp .nil) E E
theorem Akg (n:Net) (fw:List Bool) (p from_:Int) (hb:Ah n = true) (hfw:fw.length = n.links.length) (h0:0 ≤ p) (hp:p < n.ports.length) :
  Sy.Spec Tryz.prog 219 [Ap n,.sl 1 Ad fw,Aa p,Aa from_] [] (.sl 1 Aa (Cc n fw from_ [p])) []:=Ab Γ hm 100 F219 Tryz.ntmps219 rfl fun F hF=>by
 have q:=Td n fw p h0 hp (by rw [hfw]; exact L3 hb h0 hp) (Qu hb h0 hp)
 have hres:Cc n fw from_ [p] = if (!(decide (p = from_) || !(usableB n fw p))) = true then [p] else []:=by
  simp only [Cc,List.filter_cons,List.filter_nil]
 rw [hres]
 conv=>whnf
 refine ⟨fun h=>?_,fun h=>?_⟩
 ·have h1:p = from_:=by simpa using h
  rw [if_neg (by simp [h1])]
  (refine rg ?_;(conv=>whnf);refine aT ?_;refine rg ?_;conv=>whnf)
  refine An 8 1 Aa E ?_
  exact Ac E (.cons .tmp .nil) E E
 have h1:¬ p = from_:=by simpa using h
 refine rg ?_;conv=>whnf
 refine Ag q F211 E E E E E ?_
 cases hub:usableB n fw p
 ·rw [if_neg (by simp)]
  (refine rg ?_;(conv=>whnf);refine aT ?_;refine rg ?_;conv=>whnf)
  refine An 8 1 Aa E ?_
  exact Ac E (.cons .tmp .nil) E E
 ·rw [if_pos (by simp [h1])]
  (refine rg ?_;(conv=>whnf);refine aF ?_;refine rg ?_;conv=>whnf)
  refine Eb 20 Aa [p] E E ?_
  refine As 20 E ?_
  exact Ac E (.cons .tmp .nil) E E
theorem Y3 (x:Int) (g:Bool) (q:Sy.Spec Tryz.prog 77 [Ay x] [] (Ad g) []):Sy.Spec Tryz.prog 49 [Ay x] [] (Ad (decide (x < 281474976710656) && !g)) []:=Ab Γ hm 100 F49 Tryz.ntmps49 rfl fun F hF=>by
 conv=>whnf
 refine ⟨fun h1=>?_,fun h1=>?_⟩
 ·refine rg ?_;conv=>whnf
  refine Ag q F77 E E E E E ?_
  refine rg ?_;conv=>whnf
  exact Ac E (.cons .tmp .nil) (congrArg Ad (by rw [h1,Bool.true_and])) E
 ·refine rg ?_;conv=>whnf
  exact Ac E (.cons .tmp .nil) (congrArg Ad (by rw [h1,Bool.false_and])) E
theorem Qs (m:Nat) (h:m < 18446744073709551616):Sy.Spec Tryz.prog 49 [Ay m] [] (Ad (Ed m)) []:=by
 have q:=Y3 m _ (Iw m h)
 have e:decide ((m:Int) < 281474976710656) = decide (m ≤ 281474976710655):=by
  by_cases h:m ≤ 281474976710655
  ·rw [decide_eq_true h,decide_eq_true (by omega)]
  ·rw [decide_eq_false h,decide_eq_false (by omega)]
 rw [e] at q
 exact q
theorem Lz (i:Int):Sy.Spec Tryz.prog 50 [Aa i] [] (Ad (Ck i)) []:=Ab Γ hm 100 F50 Tryz.ntmps50 rfl fun F hF=>by
 conv=>whnf
 (repeat' (first | (refine ⟨fun h=>?_,fun h=>?_⟩ <;> (repeat (first | simp only [decide_eq_true_eq] at h | simp only [decide_eq_false_iff_not] at h)) <;> ((refine rg ?_);(conv=>whnf))) | (refine Ac rfl (.cons .tmp .nil) ?_ rfl)))
 all_goals (refine congrArg Ad ?_)
 all_goals grind [Ck]
theorem Og {t:List EntryM} {m:Nat} {j:Nat} (hj:j < t.length) (h1:∀ k (hk:k < t.length),k < j → t[k].mac ≠ m) (h2:t[j].mac = m):Co t m = j :=
 Ct hj (fun k hk hkj=>decide_eq_false (h1 k hk hkj)) (decide_eq_true h2)
theorem Xj (t:List EntryM) (m:Nat) (hl:Aq t):Sy.Spec Tryz.prog 212 [.sl 3 Al t,Ay m] [] (.tup [Aa (findE t m).1,Ad (findE t m).2]) []:=Ab Γ hm 100 F212 Tryz.ntmps212 rfl fun F hF=>by
 unfold Aq at hl
 conv=>whnf
 refine A2 t.length (fun j=>∀ k (hk:k < t.length),k < j → t[k].mac ≠ m) (fun j=>[(0,.sl 3 Al t),(1,Ay m),(6,Aa j)]) (fun _=>[]) [] (fun k _ h=>absurd h (by omega)) ⟨⟨E,E,E,E,E,E,Y⟩,Y,E,E⟩ ?_
 intro j hj hI
 refine rg ?_;conv=>whnf
 refine ⟨fun h=>?_,fun h=>?_⟩
 ·have hlt:j < t.length:=by have:=of_decide_eq_true h; omega
  refine rg ?_;conv=>whnf
  refine ⟨E,by omega,by omega,?_⟩
  rw [show t[((j:Nat):Int).toNat]'(by omega) = t[j] from rfl]
  conv=>whnf
  refine ⟨fun h2=>?_,fun h2=>?_⟩
  ·have h3:t[j].mac = m:=by simp at h2; omega
   have hix:=Og hlt hI h3
   have hfe:findE t m = (t[j].where_,true):=by
    rw [findE,hix,if_neg (by omega),Int.toNat_natCast,List.getElem?_eq_getElem hlt]; rfl
   rw [hfe]
   refine rg ?_;conv=>whnf
   refine ⟨E,by omega,by omega,?_⟩
   rw [show t[((j:Nat):Int).toNat]'(by omega) = t[j] from rfl]
   conv=>whnf
   exact Ac E (.cons .tmp (.cons .tmp .nil)) E E
  ·have h3:t[j].mac ≠ m:=by simp at h2; omega
   refine rg ?_;conv=>whnf
   refine ⟨by unfold I64; omega,?_⟩
   conv=>whnf
   exact Ax [] hI (by omega) (fun k hk hkj=>by
    by_cases hkj2:k < j
    ·exact hI k hk hkj2
    ·have:k = j:=by omega
     subst this
     exact h3) ⟨⟨E,E,E,E,E,E,Y⟩,Y,E,E⟩
 ·have hend:j = t.length:=by have:=of_decide_eq_false h; omega
  subst hend
  have hix:Co t m = -1:=C3 fun i hi=>decide_eq_false (hI i hi hi)
  have hfe:findE t m = (0,false):=by rw [findE,hix,if_pos (by decide)]
  rw [hfe]
  refine rg ?_;conv=>whnf
  exact Ac E (.cons .tmp (.cons .tmp .nil)) E E
theorem Aez {t:List EntryM} {j:Nat} (hj:j < t.length):Co t t[j].mac = j ↔ ∀ k (hk:k < t.length),k < j → t[k].mac ≠ t[j].mac:=by
 refine ⟨fun h k hk hkj he=>?_,fun h=>Og hj h E⟩
 rcases Ie (fun e=>decide (EntryM.mac e = t[j].mac)) t with ⟨h1,_⟩ | ⟨i,hi,h1,h2,h3⟩
 ·rw [Co,h1] at h; omega
 ·have:i = j:=by rw [Co,h1] at h; omega
  subst this
  have:=h3 k hk hkj
  rw [decide_eq_false_iff_not] at this
  exact this he
theorem Ki (t:List EntryM) (hl:Aq t) (hmac:∀ e ∈ t,e.mac < 18446744073709551616):Sy.Spec Tryz.prog 20 [.sl 3 Al t] [] (Ad (tableB t)) []:=Ab Γ hm 100 F20 Tryz.ntmps20 rfl fun F hF=>by
 unfold Aq at hl
 have hres:=tableB.eq_1 t
 generalize tableB t = res at *
 conv=>whnf
 refine ⟨fun h=>?_,fun h=>?_⟩
 ·have h8:¬ t.length ≤ 8:=by simp at h; omega
  rw [decide_eq_false h8,Bool.false_and] at hres
  subst hres
  refine rg ?_;conv=>whnf
  exact Ac E (.cons .tmp .nil) E E
 have h8:t.length ≤ 8:=by simp at h; omega
 rw [decide_eq_true h8,Bool.true_and] at hres
 refine rg ?_;conv=>whnf
 refine A2 t.length (fun j=>Da (Ii t) t j) (fun j=>[(0,.sl 3 Al t),(3,Aa j)]) (fun _=>[]) [] (A5 _ _) ⟨⟨E,E,E,E,Y⟩,Y,E,E⟩ ?_
 intro j hj hI
 refine rg ?_;conv=>whnf
 refine ⟨fun h=>?_,fun h=>?_⟩
 ·have hlt:j < t.length:=by have:=of_decide_eq_true h; omega
  have q1:=Qs t[j].mac (hmac _ (List.getElem_mem hlt))
  have q2:=Lz t[j].seen
  have hfirst:=Aez hlt
  have hent:Ii t j t[j] = (Ed t[j].mac && Ck t[j].seen && decide (Co t t[j].mac = j)):=rfl
  have hbad:Ii t j t[j] = false → res = false:=fun hf=>by rw [hres]; exact Bd hlt hf
  have hgood:Ii t j t[j] = true → Da (Ii t) t (j + 1):=fun ht=>A3 hI hlt ht
  have hej:t[((j:Nat):Int).toNat]'(by omega) = t[j]:=rfl
  obtain ⟨x,hx⟩:∃ x,t[j] = x:=⟨_,rfl⟩
  rw [hx] at q1 q2 hfirst hent hbad hgood hej
  refine rg ?_;conv=>whnf
  refine ⟨E,by omega,by omega,?_⟩
  rw [hej]
  conv=>whnf
  refine Ag q1 F49 E E E E E ?_
  cases h1:Ed x.mac
  ·rw [hbad (by rw [hent,h1]; rfl)]
   (refine rg ?_;(conv=>whnf);refine aT ?_;refine rg ?_;(conv=>whnf);refine aT ?_;refine rg ?_;conv=>whnf)
   exact Ac E (.cons .tmp .nil) E E
  (refine rg ?_;(conv=>whnf);refine aF ?_;refine rg ?_;conv=>whnf)
  refine ⟨E,by omega,by omega,?_⟩
  rw [hej]
  conv=>whnf
  refine Ag q2 F50 E E E E E ?_
  cases h2:Ck x.seen
  ·rw [hbad (by rw [hent,h1,h2]; rfl)]
   (refine rg ?_;(conv=>whnf);refine aT ?_;refine rg ?_;conv=>whnf)
   exact Ac E (.cons .tmp .nil) E E
  (refine rg ?_;(conv=>whnf);refine aF ?_;refine rg ?_;conv=>whnf)
  refine A2 j (fun i=>∀ k (hk:k < t.length),k < i → t[k].mac ≠ x.mac) (fun i=>[(0,.sl 3 Al t),(3,Aa j),(4,Aa i)]) (fun _=>[]) [] (fun k _ h=>absurd h (by omega)) ⟨⟨E,E,E,E,E,E,Y⟩,Y,E,E⟩ ?_
  intro i hi hJ
  refine rg ?_;conv=>whnf
  refine ⟨fun h=>?_,fun h=>?_⟩
  ·have hlt2:i < j:=by have:=of_decide_eq_true h; omega
   refine rg ?_;conv=>whnf
   refine ⟨E,by omega,by omega,?_⟩
   rw [show t[((i:Nat):Int).toNat]'(by omega) = t[i] from rfl]
   conv=>whnf
   refine ⟨E,by omega,by omega,?_⟩
   rw [hej]
   conv=>whnf
   refine ⟨(by kernel_rfl),?_⟩
   conv=>whnf
   refine ⟨fun h3=>?_,fun h3=>?_⟩
   ·have h4:t[i].mac = x.mac:=by simp at h3; omega
    have h5:¬ Co t x.mac = j:=fun h=>hfirst.1 h i (by omega) hlt2 h4
    rw [hbad (by rw [hent,h1,h2,decide_eq_false h5]; rfl)]
    refine rg ?_;conv=>whnf
    exact Ac E (.cons .tmp .nil) E E
   ·have h4:t[i].mac ≠ x.mac:=by simp at h3; omega
    refine rg ?_;conv=>whnf
    refine ⟨by unfold I64; omega,?_⟩
    conv=>whnf
    exact Ax [] hJ (by omega) (fun k hk hki=>by
     by_cases hki2:k < i
     ·exact hJ k hk hki2
     ·have:k = i:=by omega
      subst this
      exact h4) ⟨⟨E,E,E,E,E,E,Y⟩,Y,E,E⟩
  ·have:i = j:=by have:=of_decide_eq_false h; omega
   subst this
   have h4:=hgood (by rw [hent,h1,h2,decide_eq_true (hfirst.2 hJ)]; rfl)
   refine rg ?_;conv=>whnf
   refine ⟨by unfold I64; omega,?_⟩
   conv=>whnf
   exact Ax [] hI (by omega) h4 ⟨⟨E,E,E,E,Y⟩,Y,E,E⟩
 ·have hend:j = t.length:=by have:=of_decide_eq_false h; omega
  subst hend
  rw [hres.trans (Ca hI (Nat.le_refl _))]
  refine rg ?_;conv=>whnf
  exact Ac E (.cons .tmp .nil) E E
theorem Aqh (t:List EntryM) (now:Int):ageT t now = t.filter fun e=>!(tableB t) || !(Ck now) || decide (now - e.seen ≤ 4):=by
 unfold ageT
 split
 ·rename_i h
  refine (List.filter_eq_self.2 fun e _=>?_).symm
  rcases h with h | h <;> simp [h]
 ·rename_i h
  rw [not_or] at h
  refine List.filter_congr fun e _=>?_
  have h1:tableB t = true:=by simpa using h.1
  have h2:Ck now = true:=by simpa using h.2
  rw [h1,h2,Bool.eq_iff_iff]
  simp
  omega
theorem table_seen {t:List EntryM} (h:tableB t = true) {i:Nat} (hi:i < t.length):0 ≤ t[i].seen ∧ t[i].seen ≤ 1099511627776:=by
 simp only [tableB,Bool.and_eq_true] at h
 have h2:=allB_iff.1 h.2 i hi
 simp only [Ii,Bool.and_eq_true,Ck,decide_eq_true_eq] at h2
 exact h2.1.2
theorem Z1 (t:List EntryM) (now:Int) (hl:Aq t) (hmac:∀ e ∈ t,e.mac < 18446744073709551616):Sy.Spec Tryz.prog 40 [.sl 3 Al t,Aa now] [] (.sl 3 Al (ageT t now)) []:=Ab Γ hm 100 F40 Tryz.ntmps40 rfl fun F hF=>by
 have q1:=Ki t hl hmac
 have q2:=Lz now
 unfold Aq at hl
 have hseen:=@table_seen t
 rw [Aqh]
 obtain ⟨c,hc⟩:∃ c:EntryM → Bool,(fun e=>!(tableB t) || !(Ck now) || decide (now - e.seen ≤ 4)) = c:=⟨_,rfl⟩
 rw [hc]
 conv=>whnf
 refine Bt 5 1000 3 Al E E ?_
 refine Au t.length (fun j=>[(0,.sl 3 Al t),(1,Aa now),(5,.osl 1000),(6,Aa j)]) (fun j=>[(1000,.row 3 Al ((t.take j).filter c))]) [] ⟨⟨E,E,E,E,E,E,E,E,Y⟩,⟨.inl E,E,Y⟩,E,E⟩ ?_
 intro j hj
 have hfl:((t.take j).filter c).length ≤ j:=Nat.le_trans (List.length_filter_le _ _) (by rw [List.length_take]; omega)
 have hsucc:∀ h:j < t.length,(t.take (j + 1)).filter c = if c t[j] = true then (t.take j).filter c ++ [t[j]] else (t.take j).filter c:=fun h=>by
  rw [List.take_add_one,List.getElem?_eq_getElem h,List.filter_append]
  by_cases hct:c t[j] = true
  ·rw [if_pos hct]; simp [hct]
  ·rw [if_neg hct]; simp [hct]
 refine rg ?_;conv=>whnf
 refine ⟨fun h=>?_,fun h=>?_⟩
 ·have hlt:j < t.length:=by have:=of_decide_eq_true h; omega
  have hs:=hsucc hlt
  have hct:c t[j] = (!(tableB t) || !(Ck now) || decide (now - t[j].seen ≤ 4)):=by rw [← hc]
  have hsj:=fun h=>hseen h hlt
  have hej:t[((j:Nat):Int).toNat]'(by omega) = t[j]:=rfl
  obtain ⟨u,hu⟩:∃ u,(t.take j).filter c = u:=⟨_,rfl⟩
  obtain ⟨x,hx⟩:∃ x,t[j] = x:=⟨_,rfl⟩
  rw [hu] at hs hfl ⊢
  rw [hx] at hs hct hsj hej
  have fin:∀ b:Bool,c x = b → True:=fun _ _=>trivial
  refine rg ?_;conv=>whnf
  refine Ag q1 F20 E E E E E ?_
  cases h1:tableB t
  ·rw [h1] at hct
   have hcx:c x = true:=by rw [hct]; rfl
   rw [if_pos hcx] at hs
   (refine rg ?_;(conv=>whnf);refine aT ?_;refine rg ?_;(conv=>whnf);refine aT ?_;refine rg ?_;(conv=>whnf);refine aT ?_;refine rg ?_;conv=>whnf)
   refine ⟨E,by omega,by omega,?_⟩
   rw [hej]
   conv=>whnf
   refine Ai (Af Γ.toTy 60 rfl rfl rfl rfl rfl (.row rfl) (.lit (e:=Al) (l:=[x]) rfl rfl) (fun j hj=>by cases hj; decide) (by simp; omega) (by simp; omega)) rfl rfl ?_
   refine rg ?_;conv=>whnf
   refine ⟨by unfold I64; omega,?_⟩
   conv=>whnf
   exact Ar [(1000,60)] hlt ⟨⟨E,E,E,E,E,E,E,E,Y⟩,⟨.inl (congrArg (Ob.row 3 Al) hs),E,Y⟩,E,E⟩
  (refine rg ?_;(conv=>whnf);refine aF ?_;refine rg ?_;conv=>whnf)
  refine Ag q2 F50 E E E E E ?_
  cases h2:Ck now
  ·rw [h1,h2] at hct
   have hcx:c x = true:=by rw [hct]; rfl
   rw [if_pos hcx] at hs
   (refine rg ?_;(conv=>whnf);refine aT ?_;refine rg ?_;(conv=>whnf);refine aT ?_;refine rg ?_;conv=>whnf)
   refine ⟨E,by omega,by omega,?_⟩
   rw [hej]
   conv=>whnf
   refine Ai (Af Γ.toTy 60 rfl rfl rfl rfl rfl (.row rfl) (.lit (e:=Al) (l:=[x]) rfl rfl) (fun j hj=>by cases hj; decide) (by simp; omega) (by simp; omega)) rfl rfl ?_
   refine rg ?_;conv=>whnf
   refine ⟨by unfold I64; omega,?_⟩
   conv=>whnf
   exact Ar [(1000,60)] hlt ⟨⟨E,E,E,E,E,E,E,E,Y⟩,⟨.inl (congrArg (Ob.row 3 Al) hs),E,Y⟩,E,E⟩
  have hsj:=hsj h1
  have hnow:0 ≤ now ∧ now ≤ 1099511627776:=by simpa [Ck] using h2
  rw [h1,h2] at hct
  (refine rg ?_;(conv=>whnf);refine aF ?_;refine rg ?_;conv=>whnf)
  refine ⟨E,by omega,by omega,?_⟩
  rw [hej]
  conv=>whnf
  refine ⟨by unfold I64; omega,?_⟩
  conv=>whnf
  refine ⟨fun h3=>?_,fun h3=>?_⟩
  ·have hcx:c x = true:=by rw [hct,h3]; rfl
   rw [if_pos hcx] at hs
   refine rg ?_;conv=>whnf
   refine ⟨E,by omega,by omega,?_⟩
   rw [hej]
   conv=>whnf
   refine Ai (Af Γ.toTy 60 rfl rfl rfl rfl rfl (.row rfl) (.lit (e:=Al) (l:=[x]) rfl rfl) (fun j hj=>by cases hj; decide) (by simp; omega) (by simp; omega)) rfl rfl ?_
   refine rg ?_;conv=>whnf
   refine ⟨by unfold I64; omega,?_⟩
   conv=>whnf
   exact Ar [(1000,60)] hlt ⟨⟨E,E,E,E,E,E,E,E,Y⟩,⟨.inl (congrArg (Ob.row 3 Al) hs),E,Y⟩,E,E⟩
  ·have hcx:¬ c x = true:=by rw [hct,h3]; decide
   rw [if_neg hcx] at hs
   refine rg ?_;conv=>whnf
   refine ⟨by unfold I64; omega,?_⟩
   conv=>whnf
   exact Ar [] hlt ⟨⟨E,E,E,E,E,E,E,E,Y⟩,⟨.inl (congrArg (Ob.row 3 Al) hs),E,Y⟩,E,E⟩
 ·have:j = t.length:=by have:=of_decide_eq_false h; omega
  subst this
  rw [List.take_length]
  refine As 1000 E ?_
  refine rg ?_;conv=>whnf
  exact Ac E (.cons .tmp .nil) E E
def Hr (t:List EntryM) (m:Nat) (new:EntryM) (old:Int):Nat → List EntryM
 | 0=>[]
 | j + 1=>match t[j]? with
  | some x=>if x.mac = m then Hr t m new old j ++ [new] else if (j:Int) ≠ old then Hr t m new old j ++ [x] else Hr t m new old j
  | none=>Hr t m new old j
def Ad2 (t:List EntryM):Nat → Int
 | 0=>-1
 | j + 1=>(oldestU t (j + 1):Nat)
theorem Agt {t:List EntryM} {m:Nat} {new:EntryM} {i:Nat} (hi:i < t.length) (h:∀ j (hj:j < t.length),t[j].mac = m ↔ j = i) (j:Nat) (hj:j ≤ t.length):Hr t m new (-1) j = (t.set i new).take j:=by
 induction j with
 | zero=>rfl
 | succ j ih =>
  have hjl:j < t.length:=by omega
  rw [Hr,List.getElem?_eq_getElem hjl,ih (by omega)]
  have hsl:j < (t.set i new).length:=by rw [List.length_set]; omega
  rw [List.take_add_one,List.getElem?_eq_getElem hsl]
  dsimp only
  by_cases hm1:t[j].mac = m
  ·have:=(h j hjl).1 hm1
   subst this
   rw [if_pos hm1,List.getElem_set_self]; rfl
  ·have hne:i ≠ j:=fun e=>hm1 ((h j hjl).2 e.symm)
   rw [if_neg hm1,if_pos (by omega),List.getElem_set_ne hne]; rfl
theorem Akp {t:List EntryM} {m:Nat} {new:EntryM} (h:∀ j (hj:j < t.length),t[j].mac ≠ m) (j:Nat) (hj:j ≤ t.length):Hr t m new (-1) j = t.take j:=by
 induction j with
 | zero=>rfl
 | succ j ih =>
  have hjl:j < t.length:=by omega
  rw [Hr,List.getElem?_eq_getElem hjl,ih (by omega),List.take_add_one,List.getElem?_eq_getElem hjl]
  dsimp only
  rw [if_neg (h j hjl),if_pos (by omega)]; rfl
theorem Am5 {t:List EntryM} {m:Nat} {new:EntryM} (o:Nat) (h:∀ j (hj:j < t.length),t[j].mac ≠ m) (j:Nat) (hj:j ≤ t.length):Hr t m new o j = (t.take j).eraseIdx o:=by
 induction j with
 | zero=>rw [Hr,List.take_zero,List.eraseIdx_nil]
 | succ j ih =>
  have hjl:j < t.length:=by omega
  have hlen:(t.take j).length = j:=by rw [List.length_take]; omega
  rw [Hr,List.getElem?_eq_getElem hjl,ih (by omega),List.take_add_one,List.getElem?_eq_getElem hjl]
  dsimp only
  rw [if_neg (h j hjl),Option.toList_some]
  by_cases ho:o < j
  ·rw [if_pos (by omega),List.eraseIdx_append_of_lt_length (by omega)]
  ·rw [List.eraseIdx_append_of_length_le (by omega),hlen,List.eraseIdx_of_length_le (l:=t.take j) (by omega)]
   by_cases hoj:o = j
   ·subst hoj
    rw [if_neg (by omega),Nat.sub_self]; simp
   ·rw [if_pos (by omega),List.eraseIdx_of_length_le (by simp; omega)]
theorem find_none {t:List EntryM} {m:Nat} (h:(findE t m).2 = false):Co t m = -1 ∧ ∀ j (hj:j < t.length),t[j].mac ≠ m:=by
 rcases Ie (fun e=>decide (EntryM.mac e = m)) t with ⟨h1,h2⟩ | ⟨i,hi,h1,h2,h3⟩
 ·exact ⟨h1,fun j hj=>of_decide_eq_false (h2 t[j] (List.getElem_mem hj))⟩
 ·have h4:Co t m = i:=h1
  rw [findE,h4,if_neg (by omega)] at h
  cases h
theorem find_some {t:List EntryM} {m:Nat} (hr:tableB t = true) (h:(findE t m).2 = true):∃ (i:Nat) (hi:i < t.length),Co t m = i ∧ ∀ j (hj:j < t.length),t[j].mac = m ↔ j = i:=by
 rcases Ie (fun e=>decide (EntryM.mac e = m)) t with ⟨h1,h2⟩ | ⟨i,hi,h1,h2,h3⟩
 ·have h4:Co t m = -1:=h1
  rw [findE,h4,if_pos (by decide)] at h
  cases h
 ·have him:t[i].mac = m:=of_decide_eq_true h2
  refine ⟨i,hi,h1,fun j hj=>⟨fun hj2=>?_,fun e=>by subst e; exact him⟩⟩
  simp only [tableB,Bool.and_eq_true] at hr
  have he:=allB_iff.1 hr.2 j hj
  simp only [Ii,Bool.and_eq_true,decide_eq_true_eq] at he
  have:=he.2
  rw [hj2] at this
  have h4:Co t m = i:=h1
  omega
theorem O8 (t:List EntryM) (m:Nat) (new:EntryM) (old:Int) {j:Nat} (h:j < t.length):Hr t m new old (j + 1) = if t[j].mac = m then Hr t m new old j ++ [new] else if (j:Int) ≠ old then Hr t m new old j ++ [t[j]] else Hr t m new old j:=by
 rw [Hr,List.getElem?_eq_getElem h]
theorem Kj (t:List EntryM) (m:Nat) (new:EntryM) (old:Int) (j:Nat):(Hr t m new old j).length ≤ j:=by
 induction j with
 | zero=>exact Nat.le_refl _
 | succ j ih =>
  rw [Hr]
  split
  ·split
   ·rw [List.length_append]; simp; omega
   ·split
    ·rw [List.length_append]; simp; omega
    ·omega
  ·omega
theorem Vl (t:List EntryM) (m:Nat) (wh now:Int) (hl:Aq t) (hmac:∀ e ∈ t,e.mac < 18446744073709551616) (hm64:m < 18446744073709551616) :
  Sy.Spec Tryz.prog 144 [.sl 3 Al t,Ay m,Aa wh,Aa now] [] (.sl 3 Al (learnT t m wh now)) []:=Ab Γ hm 100 F144 Tryz.ntmps144 rfl fun F hF=>by
 have q1:=Ki t hl hmac
 have q2:=Qs m hm64
 have q3:=Lz now
 have q4:=Xj t m hl
 unfold Aq at hl
 have hres:=learnT.eq_1 t m wh now
 generalize learnT t m wh now = res at *
 conv=>whnf
 refine Ag q1 F20 E E E E E ?_
 cases h1:tableB t
 ·rw [if_pos (.inl h1)] at hres
  subst hres
  (refine rg ?_;(conv=>whnf);refine aT ?_;refine rg ?_;(conv=>whnf);refine aT ?_;refine rg ?_;(conv=>whnf);refine aT ?_;refine rg ?_;conv=>whnf)
  refine Ai (Af Γ.toTy 30 E E E E E (.lit (e:=Al) (l:=[]) E E) .sl (by simp) (by simp; omega) (by simp; omega)) E E ?_
  refine As 30 E ?_
  refine rg ?_;conv=>whnf
  exact Ac E (.cons .tmp .nil) E E
 (refine rg ?_;(conv=>whnf);refine aF ?_;refine rg ?_;conv=>whnf)
 refine Ag q2 F49 E E E E E ?_
 cases h2:Ed m
 ·rw [if_pos (.inr (.inl h2))] at hres
  subst hres
  (refine rg ?_;(conv=>whnf);refine aT ?_;refine rg ?_;(conv=>whnf);refine aT ?_;refine rg ?_;conv=>whnf)
  refine Ai (Af Γ.toTy 30 E E E E E (.lit (e:=Al) (l:=[]) E E) .sl (by simp) (by simp; omega) (by simp; omega)) E E ?_
  refine As 30 E ?_
  refine rg ?_;conv=>whnf
  exact Ac E (.cons .tmp .nil) E E
 (refine rg ?_;(conv=>whnf);refine aF ?_;refine rg ?_;conv=>whnf)
 refine Ag q3 F50 E E E E E ?_
 cases h3:Ck now
 ·rw [if_pos (.inr (.inr h3))] at hres
  subst hres
  (refine rg ?_;(conv=>whnf);refine aT ?_;refine rg ?_;conv=>whnf)
  refine Ai (Af Γ.toTy 30 E E E E E (.lit (e:=Al) (l:=[]) E E) .sl (by simp) (by simp; omega) (by simp; omega)) E E ?_
  refine As 30 E ?_
  refine rg ?_;conv=>whnf
  exact Ac E (.cons .tmp .nil) E E
 rw [if_neg (by simp [h1,h2,h3])] at hres
 have ht8:t.length ≤ 8:=by simp only [tableB,Bool.and_eq_true,decide_eq_true_eq] at h1; exact h1.1
 have hno:=@find_none t m
 have hso:=@find_some t m h1
 generalize findE t m = fe at *
 obtain ⟨fw,th⟩:=fe
 dsimp only at hno hso
 (refine rg ?_;(conv=>whnf);refine aF ?_;refine rg ?_;conv=>whnf)
 refine Ag q4 F212 E E E E E ?_
 by_cases hcase:t.length = 8 ∧ th = false
 ·obtain ⟨hc8,rfl⟩:=hcase
  obtain ⟨hi1,hi2⟩:=hno rfl
  obtain ⟨old,hold⟩:∃ old:Int,Ad2 t t.length = old:=⟨_,rfl⟩
  have hold2:old = (oldestU t t.length:Nat):=by rw [← hold,hc8]; rfl
  have hout:res = if (false:Bool) = true then Hr t m ⟨m,wh,now⟩ old t.length else Hr t m ⟨m,wh,now⟩ old t.length ++ [⟨m,wh,now⟩]:=by
   rw [if_neg (by decide),hres,hi1,if_neg (by decide),if_pos hc8,hold2,Am5 _ hi2 _ (Nat.le_refl _),List.take_length]
  refine rg ?_;conv=>whnf
  refine Au t.length (fun j=>[(0,.sl 3 Al t),(1,Ay m),(2,Aa wh),(3,Aa now),(10,Ad false),(11,Aa (Ad2 t j)),(12,Aa j)]) (fun _=>[]) [] ⟨⟨E,E,E,E,E,E,E,E,E,E,E,E,E,E,Y⟩,Y,E,E⟩ ?_
  intro j hj
  refine rg ?_;conv=>whnf
  refine ⟨fun h=>?_,fun h=>?_⟩
  ·have hlt:j < t.length:=by have:=of_decide_eq_true h; omega
   refine rg ?_;conv=>whnf
   refine ⟨fun _=>?_,fun h=>absurd h (by simp; omega)⟩
   cases j with
   | zero =>
    have h10:Ad2 t 1 = 0:=by rw [Ad2,oldestU]; split <;> rfl
    rw [show Ad2 t 0 = -1 from rfl]
    (refine rg ?_;(conv=>whnf);refine aT ?_;refine rg ?_;(conv=>whnf);refine aT ?_;refine rd (by kernel_rfl) ?_;conv=>whnf)
    refine ⟨(by kernel_rfl),?_⟩
    ((conv=>whnf);refine aT ?_;refine rg ?_;conv=>whnf)
    refine ⟨by unfold I64; omega,?_⟩
    conv=>whnf
    exact Ar (i:=0) [] hlt ⟨⟨E,E,E,E,E,E,E,E,E,E,congrArg Aa h10,E,E,E,Y⟩,Y,E,E⟩
   | succ j =>
    have hol:=Se t (j + 1) (by omega) (by omega)
    have hs:Ad2 t (j + 1 + 1) = ((oldestU t (j + 1 + 1):Nat):Int):=rfl
    rw [oldestU,List.getElem?_eq_getElem hlt,List.getElem?_eq_getElem hol] at hs
    have hs2:Ad2 t (j + 1 + 1) = if t[j + 1].seen < t[oldestU t (j + 1)].seen then ((j + 1:Nat):Int) else ((oldestU t (j + 1):Nat):Int):=by
     rw [hs]
     show ((if t[j + 1].seen < t[oldestU t (j + 1)].seen then j + 1 else oldestU t (j + 1):Nat):Int) = _
     split <;> rfl
    rw [show Ad2 t (j + 1) = ((oldestU t (j + 1):Nat):Int) from rfl]
    obtain ⟨o,ho⟩:∃ o,oldestU t (j + 1) = o:=⟨_,rfl⟩
    simp only [ho] at hs2 hol ⊢
    (refine rg ?_;(conv=>whnf);refine aT ?_;refine rg ?_;(conv=>whnf);refine aF ?_;refine rd (by kernel_rfl) ?_;conv=>whnf)
    refine ⟨E,by omega,by omega,?_⟩
    rw [show t[((j + 1:Nat):Int).toNat]'(by omega) = t[j + 1] from rfl]
    conv=>whnf
    refine ⟨E,by omega,by omega,?_⟩
    rw [show t[((o:Nat):Int).toNat]'(by omega) = t[o] from rfl]
    conv=>whnf
    refine ⟨(by kernel_rfl),?_⟩
    conv=>whnf
    refine ⟨fun h3=>?_,fun h3=>?_⟩
    ·rw [if_pos (of_decide_eq_true h3)] at hs2
     refine rg ?_;conv=>whnf
     refine ⟨by unfold I64; omega,?_⟩
     conv=>whnf
     exact Ar [] hlt ⟨⟨E,E,E,E,E,E,E,E,E,E,congrArg Aa hs2,E,E,E,Y⟩,Y,E,E⟩
    ·rw [if_neg (of_decide_eq_false h3)] at hs2
     refine rg ?_;conv=>whnf
     refine ⟨by unfold I64; omega,?_⟩
     conv=>whnf
     exact Ar [] hlt ⟨⟨E,E,E,E,E,E,E,E,E,E,congrArg Aa hs2,E,E,E,Y⟩,Y,E,E⟩
  ·have:j = t.length:=by have:=of_decide_eq_false h; omega
   subst this
   rw [hold]
   (refine rg ?_;(conv=>whnf);refine aF ?_;refine rg ?_;(conv=>whnf);refine aF ?_;refine rg ?_;conv=>whnf)
   refine Bt 13 1000 3 Al E E ?_
   refine Au t.length (fun j=>[(0,.sl 3 Al t),(1,Ay m),(2,Aa wh),(3,Aa now),(10,Ad false),(11,Aa old),(13,.osl 1000),(14,Aa j)]) (fun j=>[(1000,.row 3 Al (Hr t m ⟨m,wh,now⟩ old j))]) [] ⟨⟨E,E,E,E,E,E,E,E,E,E,E,E,E,E,E,E,Y⟩,⟨.inl E,E,Y⟩,E,E⟩ ?_
   intro j hj
   have hol:=Kj t m ⟨m,wh,now⟩ old j
   have hsucc:=fun h:j < t.length=>O8 t m ⟨m,wh,now⟩ old h
   obtain ⟨u,hu⟩:∃ u,Hr t m ⟨m,wh,now⟩ old j = u:=⟨_,rfl⟩
   rw [hu] at hol hsucc ⊢
   refine rg ?_;conv=>whnf
   refine ⟨fun h=>?_,fun h=>?_⟩
   ·have hlt:j < t.length:=by have:=of_decide_eq_true h; omega
    have hs:=hsucc hlt
    have hej:t[((j:Nat):Int).toNat]'(by omega) = t[j]:=rfl
    obtain ⟨x,hx⟩:∃ x,t[j] = x:=⟨_,rfl⟩
    rw [hx] at hs hej
    refine rg ?_;conv=>whnf
    refine ⟨E,by omega,by omega,?_⟩
    rw [hej]
    conv=>whnf
    refine ⟨fun h3=>?_,fun h3=>?_⟩
    ·rw [if_pos (show x.mac = m by simp at h3; omega)] at hs
     refine rg ?_;conv=>whnf
     refine Ai (Af Γ.toTy 60 rfl rfl rfl rfl rfl (.row rfl) (.lit (e:=Al) (l:=[⟨m,wh,now⟩]) rfl rfl) (fun j hj=>by cases hj; decide) (by simp; omega) (by simp; omega)) rfl rfl ?_
     refine rg ?_;conv=>whnf
     refine ⟨by unfold I64; omega,?_⟩
     conv=>whnf
     exact Ar [(1000,60)] hlt ⟨⟨E,E,E,E,E,E,E,E,E,E,E,E,E,E,E,E,Y⟩,⟨.inl (congrArg (Ob.row 3 Al) hs),E,Y⟩,E,E⟩
    ·rw [if_neg (show ¬ x.mac = m by simp at h3; omega)] at hs
     refine rg ?_;conv=>whnf
     refine ⟨fun h4=>?_,fun h4=>?_⟩
     ·rw [if_pos (show (j:Int) ≠ old by simpa using h4)] at hs
      refine rg ?_;conv=>whnf
      refine ⟨E,by omega,by omega,?_⟩
      rw [hej]
      conv=>whnf
      refine Ai (Af Γ.toTy 60 rfl rfl rfl rfl rfl (.row rfl) (.lit (e:=Al) (l:=[x]) rfl rfl) (fun j hj=>by cases hj; decide) (by simp; omega) (by simp; omega)) rfl rfl ?_
      refine rg ?_;conv=>whnf
      refine ⟨by unfold I64; omega,?_⟩
      conv=>whnf
      exact Ar [(1000,60)] hlt ⟨⟨E,E,E,E,E,E,E,E,E,E,E,E,E,E,E,E,Y⟩,⟨.inl (congrArg (Ob.row 3 Al) hs),E,Y⟩,E,E⟩
     ·rw [if_neg (show ¬ (j:Int) ≠ old by simpa using h4)] at hs
      refine rg ?_;conv=>whnf
      refine ⟨by unfold I64; omega,?_⟩
      conv=>whnf
      exact Ar [] hlt ⟨⟨E,E,E,E,E,E,E,E,E,E,E,E,E,E,E,E,Y⟩,⟨.inl (congrArg (Ob.row 3 Al) hs),E,Y⟩,E,E⟩
   ·have:j = t.length:=by have:=of_decide_eq_false h; omega
    subst this
    rw [hu] at hout
    rw [if_neg (by decide)] at hout
    (refine rg ?_;(conv=>whnf);refine aT ?_;refine rg ?_;conv=>whnf)
    refine Ai (Af Γ.toTy 61 rfl rfl rfl rfl rfl (.row rfl) (.lit (e:=Al) (l:=[⟨m,wh,now⟩]) rfl rfl) (fun j hj=>by cases hj; decide) (by simp; omega) (by simp; omega)) rfl rfl ?_
    refine As 61 E ?_
    refine rg ?_;conv=>whnf
    exact Ac E (.cons .tmp .nil) (congrArg (SV.sl 3 Al) hout) E
 ·have hout:res = if th = true then Hr t m ⟨m,wh,now⟩ (-1) t.length else Hr t m ⟨m,wh,now⟩ (-1) t.length ++ [⟨m,wh,now⟩]:=by
   cases th
   ·obtain ⟨hi1,hi2⟩:=hno rfl
    rw [if_neg (by decide),hres,hi1,if_neg (by decide),if_neg (fun h=>hcase ⟨h,rfl⟩),Akp hi2 _ (Nat.le_refl _),List.take_length]
   ·obtain ⟨i,hi,hi1,hi2⟩:=hso rfl
    rw [if_pos rfl,hres,hi1,if_pos (by omega),Agt hi hi2 _ (Nat.le_refl _),Int.toNat_natCast,List.take_of_length_le (by simp)]
  obtain ⟨old,hold⟩:∃ old:Int,-1 = old:=⟨_,rfl⟩
  rw [hold] at hout
  refine rg ?_;conv=>whnf
  refine Au 0 (fun j=>[(0,.sl 3 Al t),(1,Ay m),(2,Aa wh),(3,Aa now),(10,Ad th),(11,Aa old),(12,Aa j)]) (fun _=>[]) [] ⟨⟨E,E,E,E,E,E,E,E,E,E,congrArg Aa hold.symm,E,E,E,Y⟩,Y,E,E⟩ ?_
  intro j hj
  have hj0:j = 0:=by omega
  subst hj0
  refine rg ?_;conv=>whnf
  refine ⟨fun h=>?_,fun h=>?_⟩
  ·refine rg ?_;conv=>whnf
   refine ⟨fun h8=>?_,fun h8=>?_⟩
   ·have hth:th = true:=by
     cases th with
     | true=>rfl
     | false=>exact absurd ⟨by simp at h8; omega,rfl⟩ hcase
    refine rg ?_;conv=>whnf
    refine ⟨fun h=>absurd h (by simp [hth]),fun _=>?_⟩
    refine rg ?_;conv=>whnf
    refine Bt 13 1000 3 Al E E ?_
    refine Au t.length (fun j=>[(0,.sl 3 Al t),(1,Ay m),(2,Aa wh),(3,Aa now),(10,Ad th),(11,Aa old),(13,.osl 1000),(14,Aa j)]) (fun j=>[(1000,.row 3 Al (Hr t m ⟨m,wh,now⟩ old j))]) [] ⟨⟨E,E,E,E,E,E,E,E,E,E,E,E,E,E,E,E,Y⟩,⟨.inl E,E,Y⟩,E,E⟩ ?_
    intro j hj
    have hol:=Kj t m ⟨m,wh,now⟩ old j
    have hsucc:=fun h:j < t.length=>O8 t m ⟨m,wh,now⟩ old h
    obtain ⟨u,hu⟩:∃ u,Hr t m ⟨m,wh,now⟩ old j = u:=⟨_,rfl⟩
    rw [hu] at hol hsucc ⊢
    refine rg ?_;conv=>whnf
    refine ⟨fun h=>?_,fun h=>?_⟩
    ·have hlt:j < t.length:=by have:=of_decide_eq_true h; omega
     have hs:=hsucc hlt
     have hej:t[((j:Nat):Int).toNat]'(by omega) = t[j]:=rfl
     obtain ⟨x,hx⟩:∃ x,t[j] = x:=⟨_,rfl⟩
     rw [hx] at hs hej
     refine rg ?_;conv=>whnf
     refine ⟨E,by omega,by omega,?_⟩
     rw [hej]
     conv=>whnf
     refine ⟨fun h3=>?_,fun h3=>?_⟩
     ·rw [if_pos (show x.mac = m by simp at h3; omega)] at hs
      refine rg ?_;conv=>whnf
      refine Ai (Af Γ.toTy 60 rfl rfl rfl rfl rfl (.row rfl) (.lit (e:=Al) (l:=[⟨m,wh,now⟩]) rfl rfl) (fun j hj=>by cases hj; decide) (by simp; omega) (by simp; omega)) rfl rfl ?_
      refine rg ?_;conv=>whnf
      refine ⟨by unfold I64; omega,?_⟩
      conv=>whnf
      exact Ar [(1000,60)] hlt ⟨⟨E,E,E,E,E,E,E,E,E,E,E,E,E,E,E,E,Y⟩,⟨.inl (congrArg (Ob.row 3 Al) hs),E,Y⟩,E,E⟩
     ·rw [if_neg (show ¬ x.mac = m by simp at h3; omega)] at hs
      refine rg ?_;conv=>whnf
      refine ⟨fun h4=>?_,fun h4=>?_⟩
      ·rw [if_pos (show (j:Int) ≠ old by simpa using h4)] at hs
       refine rg ?_;conv=>whnf
       refine ⟨E,by omega,by omega,?_⟩
       rw [hej]
       conv=>whnf
       refine Ai (Af Γ.toTy 60 rfl rfl rfl rfl rfl (.row rfl) (.lit (e:=Al) (l:=[x]) rfl rfl) (fun j hj=>by cases hj; decide) (by simp; omega) (by simp; omega)) rfl rfl ?_
       refine rg ?_;conv=>whnf
       refine ⟨by unfold I64; omega,?_⟩
       conv=>whnf
       exact Ar [(1000,60)] hlt ⟨⟨E,E,E,E,E,E,E,E,E,E,E,E,E,E,E,E,Y⟩,⟨.inl (congrArg (Ob.row 3 Al) hs),E,Y⟩,E,E⟩
      ·rw [if_neg (show ¬ (j:Int) ≠ old by simpa using h4)] at hs
       refine rg ?_;conv=>whnf
       refine ⟨by unfold I64; omega,?_⟩
       conv=>whnf
       exact Ar [] hlt ⟨⟨E,E,E,E,E,E,E,E,E,E,E,E,E,E,E,E,Y⟩,⟨.inl (congrArg (Ob.row 3 Al) hs),E,Y⟩,E,E⟩
    ·have:j = t.length:=by have:=of_decide_eq_false h; omega
     subst this
     rw [hu] at hout
     cases th
     ·rw [if_neg (by decide)] at hout
      (refine rg ?_;(conv=>whnf);refine aT ?_;refine rg ?_;conv=>whnf)
      refine Ai (Af Γ.toTy 61 rfl rfl rfl rfl rfl (.row rfl) (.lit (e:=Al) (l:=[⟨m,wh,now⟩]) rfl rfl) (fun j hj=>by cases hj; decide) (by simp; omega) (by simp; omega)) rfl rfl ?_
      refine As 61 E ?_
      refine rg ?_;conv=>whnf
      exact Ac E (.cons .tmp .nil) (congrArg (SV.sl 3 Al) hout) E
     ·rw [if_pos rfl] at hout
      (refine rg ?_;(conv=>whnf);refine aF ?_;refine rg ?_;conv=>whnf)
      refine As 1000 E ?_
      exact Ac E (.cons .tmp .nil) (congrArg (SV.sl 3 Al) hout) E
   ·(refine rg ?_;(conv=>whnf);refine aF ?_;refine rg ?_;conv=>whnf)
    refine Bt 13 1000 3 Al E E ?_
    refine Au t.length (fun j=>[(0,.sl 3 Al t),(1,Ay m),(2,Aa wh),(3,Aa now),(10,Ad th),(11,Aa old),(13,.osl 1000),(14,Aa j)]) (fun j=>[(1000,.row 3 Al (Hr t m ⟨m,wh,now⟩ old j))]) [] ⟨⟨E,E,E,E,E,E,E,E,E,E,E,E,E,E,E,E,Y⟩,⟨.inl E,E,Y⟩,E,E⟩ ?_
    intro j hj
    have hol:=Kj t m ⟨m,wh,now⟩ old j
    have hsucc:=fun h:j < t.length=>O8 t m ⟨m,wh,now⟩ old h
    obtain ⟨u,hu⟩:∃ u,Hr t m ⟨m,wh,now⟩ old j = u:=⟨_,rfl⟩
    rw [hu] at hol hsucc ⊢
    refine rg ?_;conv=>whnf
    refine ⟨fun h=>?_,fun h=>?_⟩
    ·have hlt:j < t.length:=by have:=of_decide_eq_true h; omega
     have hs:=hsucc hlt
     have hej:t[((j:Nat):Int).toNat]'(by omega) = t[j]:=rfl
     obtain ⟨x,hx⟩:∃ x,t[j] = x:=⟨_,rfl⟩
     rw [hx] at hs hej
     refine rg ?_;conv=>whnf
     refine ⟨E,by omega,by omega,?_⟩
     rw [hej]
     conv=>whnf
     refine ⟨fun h3=>?_,fun h3=>?_⟩
     ·rw [if_pos (show x.mac = m by simp at h3; omega)] at hs
      refine rg ?_;conv=>whnf
      refine Ai (Af Γ.toTy 60 rfl rfl rfl rfl rfl (.row rfl) (.lit (e:=Al) (l:=[⟨m,wh,now⟩]) rfl rfl) (fun j hj=>by cases hj; decide) (by simp; omega) (by simp; omega)) rfl rfl ?_
      refine rg ?_;conv=>whnf
      refine ⟨by unfold I64; omega,?_⟩
      conv=>whnf
      exact Ar [(1000,60)] hlt ⟨⟨E,E,E,E,E,E,E,E,E,E,E,E,E,E,E,E,Y⟩,⟨.inl (congrArg (Ob.row 3 Al) hs),E,Y⟩,E,E⟩
     ·rw [if_neg (show ¬ x.mac = m by simp at h3; omega)] at hs
      refine rg ?_;conv=>whnf
      refine ⟨fun h4=>?_,fun h4=>?_⟩
      ·rw [if_pos (show (j:Int) ≠ old by simpa using h4)] at hs
       refine rg ?_;conv=>whnf
       refine ⟨E,by omega,by omega,?_⟩
       rw [hej]
       conv=>whnf
       refine Ai (Af Γ.toTy 60 rfl rfl rfl rfl rfl (.row rfl) (.lit (e:=Al) (l:=[x]) rfl rfl) (fun j hj=>by cases hj; decide) (by simp; omega) (by simp; omega)) rfl rfl ?_
       refine rg ?_;conv=>whnf
       refine ⟨by unfold I64; omega,?_⟩
       conv=>whnf
       exact Ar [(1000,60)] hlt ⟨⟨E,E,E,E,E,E,E,E,E,E,E,E,E,E,E,E,Y⟩,⟨.inl (congrArg (Ob.row 3 Al) hs),E,Y⟩,E,E⟩
      ·rw [if_neg (show ¬ (j:Int) ≠ old by simpa using h4)] at hs
       refine rg ?_;conv=>whnf
       refine ⟨by unfold I64; omega,?_⟩
       conv=>whnf
       exact Ar [] hlt ⟨⟨E,E,E,E,E,E,E,E,E,E,E,E,E,E,E,E,Y⟩,⟨.inl (congrArg (Ob.row 3 Al) hs),E,Y⟩,E,E⟩
    ·have:j = t.length:=by have:=of_decide_eq_false h; omega
     subst this
     rw [hu] at hout
     cases th
     ·rw [if_neg (by decide)] at hout
      (refine rg ?_;(conv=>whnf);refine aT ?_;refine rg ?_;conv=>whnf)
      refine Ai (Af Γ.toTy 61 rfl rfl rfl rfl rfl (.row rfl) (.lit (e:=Al) (l:=[⟨m,wh,now⟩]) rfl rfl) (fun j hj=>by cases hj; decide) (by simp; omega) (by simp; omega)) rfl rfl ?_
      refine As 61 E ?_
      refine rg ?_;conv=>whnf
      exact Ac E (.cons .tmp .nil) (congrArg (SV.sl 3 Al) hout) E
     ·rw [if_pos rfl] at hout
      (refine rg ?_;(conv=>whnf);refine aF ?_;refine rg ?_;conv=>whnf)
      refine As 1000 E ?_
      exact Ac E (.cons .tmp .nil) (congrArg (SV.sl 3 Al) hout) E
  ·(refine rg ?_;(conv=>whnf);refine aF ?_;refine rg ?_;(conv=>whnf);refine aF ?_;refine rg ?_;conv=>whnf)
   refine Bt 13 1000 3 Al E E ?_
   refine Au t.length (fun j=>[(0,.sl 3 Al t),(1,Ay m),(2,Aa wh),(3,Aa now),(10,Ad th),(11,Aa old),(13,.osl 1000),(14,Aa j)]) (fun j=>[(1000,.row 3 Al (Hr t m ⟨m,wh,now⟩ old j))]) [] ⟨⟨E,E,E,E,E,E,E,E,E,E,E,E,E,E,E,E,Y⟩,⟨.inl E,E,Y⟩,E,E⟩ ?_
   intro j hj
   have hol:=Kj t m ⟨m,wh,now⟩ old j
   have hsucc:=fun h:j < t.length=>O8 t m ⟨m,wh,now⟩ old h
   obtain ⟨u,hu⟩:∃ u,Hr t m ⟨m,wh,now⟩ old j = u:=⟨_,rfl⟩
   rw [hu] at hol hsucc ⊢
   refine rg ?_;conv=>whnf
   refine ⟨fun h=>?_,fun h=>?_⟩
   ·have hlt:j < t.length:=by have:=of_decide_eq_true h; omega
    have hs:=hsucc hlt
    have hej:t[((j:Nat):Int).toNat]'(by omega) = t[j]:=rfl
    obtain ⟨x,hx⟩:∃ x,t[j] = x:=⟨_,rfl⟩
    rw [hx] at hs hej
    refine rg ?_;conv=>whnf
    refine ⟨E,by omega,by omega,?_⟩
    rw [hej]
    conv=>whnf
    refine ⟨fun h3=>?_,fun h3=>?_⟩
    ·rw [if_pos (show x.mac = m by simp at h3; omega)] at hs
     refine rg ?_;conv=>whnf
     refine Ai (Af Γ.toTy 60 rfl rfl rfl rfl rfl (.row rfl) (.lit (e:=Al) (l:=[⟨m,wh,now⟩]) rfl rfl) (fun j hj=>by cases hj; decide) (by simp; omega) (by simp; omega)) rfl rfl ?_
     refine rg ?_;conv=>whnf
     refine ⟨by unfold I64; omega,?_⟩
     conv=>whnf
     exact Ar [(1000,60)] hlt ⟨⟨E,E,E,E,E,E,E,E,E,E,E,E,E,E,E,E,Y⟩,⟨.inl (congrArg (Ob.row 3 Al) hs),E,Y⟩,E,E⟩
    ·rw [if_neg (show ¬ x.mac = m by simp at h3; omega)] at hs
     refine rg ?_;conv=>whnf
     refine ⟨fun h4=>?_,fun h4=>?_⟩
     ·rw [if_pos (show (j:Int) ≠ old by simpa using h4)] at hs
      refine rg ?_;conv=>whnf
      refine ⟨E,by omega,by omega,?_⟩
      rw [hej]
      conv=>whnf
      refine Ai (Af Γ.toTy 60 rfl rfl rfl rfl rfl (.row rfl) (.lit (e:=Al) (l:=[x]) rfl rfl) (fun j hj=>by cases hj; decide) (by simp; omega) (by simp; omega)) rfl rfl ?_
      refine rg ?_;conv=>whnf
      refine ⟨by unfold I64; omega,?_⟩
      conv=>whnf
      exact Ar [(1000,60)] hlt ⟨⟨E,E,E,E,E,E,E,E,E,E,E,E,E,E,E,E,Y⟩,⟨.inl (congrArg (Ob.row 3 Al) hs),E,Y⟩,E,E⟩
     ·rw [if_neg (show ¬ (j:Int) ≠ old by simpa using h4)] at hs
      refine rg ?_;conv=>whnf
      refine ⟨by unfold I64; omega,?_⟩
      conv=>whnf
      exact Ar [] hlt ⟨⟨E,E,E,E,E,E,E,E,E,E,E,E,E,E,E,E,Y⟩,⟨.inl (congrArg (Ob.row 3 Al) hs),E,Y⟩,E,E⟩
   ·have:j = t.length:=by have:=of_decide_eq_false h; omega
    subst this
    rw [hu] at hout
    cases th
    ·rw [if_neg (by decide)] at hout
     (refine rg ?_;(conv=>whnf);refine aT ?_;refine rg ?_;conv=>whnf)
     refine Ai (Af Γ.toTy 61 rfl rfl rfl rfl rfl (.row rfl) (.lit (e:=Al) (l:=[⟨m,wh,now⟩]) rfl rfl) (fun j hj=>by cases hj; decide) (by simp; omega) (by simp; omega)) rfl rfl ?_
     refine As 61 E ?_
     refine rg ?_;conv=>whnf
     exact Ac E (.cons .tmp .nil) (congrArg (SV.sl 3 Al) hout) E
    ·rw [if_pos rfl] at hout
     (refine rg ?_;(conv=>whnf);refine aF ?_;refine rg ?_;conv=>whnf)
     refine As 1000 E ?_
     exact Ac E (.cons .tmp .nil) (congrArg (SV.sl 3 Al) hout) E
theorem Aba (n:Net) (hn:n.Fin) (fw:List Bool) (t:List EntryM) (dom from_:Int) (m:Nat) (hl:Aq t) (hw:I64 (findE t m).1) (hm64:m < 18446744073709551616) :
  Sy.Spec Tryz.prog 147 [Ap n,.sl 1 Ad fw,.sl 3 Al t,Aa dom,Aa from_,Ay m] [] (.tup [.sl 1 Aa (decideT n fw t dom from_ m).1,.sl 1 Aa (decideT n fw t dom from_ m).2.1,Aa (decideT n fw t dom from_ m).2.2]) []:=Ab Γ hm 100 F147 Tryz.ntmps147 rfl fun F hF=>by
 have qf:=Vk n hn fw dom from_
 have qg:=Iw m hm64
 cases hroom:roomB n fw dom from_
 ·have hres:decideT n fw t dom from_ m = ([],[],2):=by rw [decideT,if_pos hroom]
  have hfl:floodT n fw dom from_ = ([],[],2):=by rw [floodT,if_pos hroom]
  rw [hres]
  rw [hfl] at qf
  conv=>whnf
  refine Ag qf F143 E E E E E ?_
  (refine rg ?_;(conv=>whnf);refine aT ?_;refine rg ?_;(conv=>whnf);refine aT ?_;refine rg ?_;conv=>whnf)
  exact Ac E (.cons .tmp (.cons .tmp (.cons .tmp .nil))) E E
 have hb2:Kb n fw dom = true:=by rw [Iv,Bool.and_eq_true] at hroom; exact hroom.1
 simp only [Kb,Bool.and_eq_true,decide_eq_true_eq] at hb2
 obtain ⟨⟨hd,hfw⟩,hbn⟩:=hb2
 have hfl:floodT n fw dom from_ = (Cc n fw from_ (Az n dom),peersOut n dom from_,0):=by rw [floodT,if_neg (by rw [hroom]; decide)]
 rw [hfl] at qf
 have hres:=decideT.eq_1 n fw t dom from_ m
 rw [if_neg (by rw [hroom]; decide)] at hres
 cases hg:Du m
 rotate_left
 ·rw [if_pos hg] at hres
  rw [hres]
  rw [hg] at qg
  conv=>whnf
  refine Ag qf F143 E E E E E ?_
  (refine rg ?_;(conv=>whnf);refine aF ?_;refine rg ?_;conv=>whnf)
  refine Ag qg F77 E E E E E ?_
  (refine rg ?_;(conv=>whnf);refine aT ?_;refine rg ?_;conv=>whnf)
  exact Ac E (.cons .tmp (.cons .tmp (.cons .tmp .nil))) E E
 rw [if_neg (by rw [hg]; decide)] at hres
 rw [hg] at qg
 have hdi:=Bn hd
 have hd0:0 ≤ dom:=hdi.1
 have hkd:dom.toNat < n.domains.length:=by omega
 have e2:nth n.domains dom = n.domains[dom.toNat]:=Ao hkd
 have hpe:=hn.peers _ (List.getElem_mem hkd)
 have qs:=Abc n hn dom m
 obtain ⟨hs1,hs2⟩:=Lv hbn dom m
 have hsp:=Mt hbn dom m
 have qfd:=Xj t m hl
 have q1:∀ p:Int,0 ≤ p → p < n.ports.length → _:=fun p h0 h1=>Akg n fw p from_ hbn hfw h0 h1
 have hmem:∀ p,inB (Az n dom) p = true → 0 ≤ p ∧ p < n.ports.length:=fun p hp=>By p (inB_mem.1 hp)
 have qm:=Kh n hn hbn dom
 have qi:=fun x=>El (Cd n dom) x (Hx n hn dom)
 have hmt:Cd n dom = Az n dom:=by rw [Cd,if_pos ⟨⟨hdi.1,hdi.2⟩,hbn⟩]
 rw [hmt] at qm qi
 rw [e2] at hres
 obtain ⟨d,hdd⟩:∃ d,n.domains[dom.toNat]'hkd = d:=⟨_,rfl⟩
 rw [hdd] at hres hpe
 have qp:=fun x=>El d.peers x hpe
 generalize decideT n fw t dom from_ m = res at *
 generalize findE t m = fe at *
 obtain ⟨w,ok⟩:=fe
 dsimp only at hres hw qfd
 have hw2:I64 (-1 - w) ∨ 0 ≤ w:=by unfold I64 at *; omega
 conv=>whnf
 refine Ag qf F143 E E E E E ?_
 (refine rg ?_;(conv=>whnf);refine aF ?_;refine rg ?_;conv=>whnf)
 refine Ag qg F77 E E E E E ?_
 (refine rg ?_;(conv=>whnf);refine aF ?_;refine rg ?_;conv=>whnf)
 refine Ag qs F218 E E E E E ?_
 refine rg ?_;conv=>whnf
 refine ⟨fun h1=>?_,fun h1=>?_⟩
 ·have h2:0 ≤ staticP n dom m:=by simpa using h1
  rw [if_pos (hs1.1 h2),← hs2 (hs1.1 h2)] at hres
  subst hres
  refine rg ?_;conv=>whnf
  refine Ag (q1 _ h2 (hsp h2)) F219 E E E E E ?_
  refine rg ?_;conv=>whnf
  refine An 13 1 Aa E ?_
  exact Ac E (.cons .tmp (.cons .tmp (.cons .tmp .nil))) E E
 have h2:¬ 0 ≤ staticP n dom m:=by simp at h1; omega
 rw [if_neg (fun h=>h2 (hs1.2 h))] at hres
 refine rg ?_;conv=>whnf
 refine Ag qfd F212 E E E E E ?_
 cases ok
 ·simp only [Bool.false_eq_true,false_and,if_false] at hres
  subst hres
  (refine rg ?_;(conv=>whnf);refine aF ?_;refine rg ?_;(conv=>whnf);refine aF ?_;refine rg ?_;(conv=>whnf);refine aF ?_;refine rg ?_;(conv=>whnf);refine aF ?_;refine rg ?_;(conv=>whnf);refine aF ?_;refine rg ?_;conv=>whnf)
  exact Ac E (.cons .tmp (.cons .tmp (.cons .tmp .nil))) E E
 simp only [true_and] at hres
 (refine rg ?_;(conv=>whnf);refine aT ?_;refine rg ?_;conv=>whnf)
 refine Ag qm F210 E E E E E ?_
 refine rg ?_;conv=>whnf
 refine Ag (qi w) F142 E E E E E ?_
 cases hin:inB (Az n dom) w
 rotate_left
 ·have hwp:=hmem w hin
  rw [if_pos ⟨hwp.1,hin⟩] at hres
  subst hres
  (refine rg ?_;(conv=>whnf);refine aT ?_;refine rg ?_;conv=>whnf)
  refine Ag (q1 w hwp.1 hwp.2) F219 E E E E E ?_
  refine rg ?_;conv=>whnf
  refine An 13 1 Aa E ?_
  exact Ac E (.cons .tmp (.cons .tmp (.cons .tmp .nil))) E E
 rw [if_neg (by rw [hin]; simp)] at hres
 (refine rg ?_;(conv=>whnf);refine aF ?_;refine rg ?_;(conv=>whnf);refine aT ?_;refine rg ?_;conv=>whnf)
 refine ⟨fun h3=>?_,fun h3=>?_⟩
 rotate_left
 ·have h4:¬ w < 0:=by simpa using h3
  rw [if_neg (fun h=>h4 h.1)] at hres
  subst hres
  (refine rg ?_;(conv=>whnf);refine aF ?_;refine rg ?_;conv=>whnf)
  exact Ac E (.cons .tmp (.cons .tmp (.cons .tmp .nil))) E E
 have h4:w < 0:=by simpa using h3
 have hneg:-(w + 1) = -1 - w:=by omega
 refine rg ?_;conv=>whnf
 refine ⟨E,hd0,hkd,?_⟩
 rw [hdd]
 conv=>whnf
 refine ⟨by unfold I64 at *; omega,?_⟩
 conv=>whnf
 have hwr:IntKind.i64.wrap (0 - (w + 1)) = -1 - w:=by rw [IntKind.wrap_i64]; unfold I64 at *; omega
 rw [← hwr] at hres
 refine Ag (qp (IntKind.i64.wrap (0 - (w + 1)))) F142 E E E E E ?_
 cases hip:inB d.peers (IntKind.i64.wrap (0 - (w + 1)))
 ·rw [if_neg (by rw [hip]; simp)] at hres
  subst hres
  (refine rg ?_;(conv=>whnf);refine aF ?_;refine rg ?_;conv=>whnf)
  exact Ac E (.cons .tmp (.cons .tmp (.cons .tmp .nil))) E E
 rw [if_pos ⟨h4,hip⟩] at hres
 (refine rg ?_;(conv=>whnf);refine aT ?_;refine rg ?_;conv=>whnf)
 refine ⟨fun h5=>?_,fun h5=>?_⟩
 ·rw [if_pos (by simpa using h5)] at hres
  subst hres
  refine rg ?_;conv=>whnf
  refine An 12 1 Aa E ?_
  refine An 13 1 Aa E ?_
  exact Ac E (.cons .tmp (.cons .tmp (.cons .tmp .nil))) E E
 ·rw [if_neg (by simpa using h5)] at hres
  subst hres
  refine rg ?_;conv=>whnf
  refine ⟨by unfold I64 at *; omega,?_⟩
  conv=>whnf
  refine An 12 1 Aa E ?_
  refine Eb 91 Aa [IntKind.i64.wrap (0 - (w + 1))] E E ?_
  refine As 91 E ?_
  exact Ac E (.cons .tmp (.cons .tmp (.cons .tmp .nil))) E E
theorem Ach (t:List EntryM) (q:QueuedM) (now:Int) (ht:TabOK t) (hq:QueuedOK q):Sy.Spec Tryz.prog 172 [.sl 3 Al t,Aw q,Aa now] [] (.sl 3 Al (learnQ t q now)) []:=Ab Γ hm 100 F172 Tryz.ntmps172 rfl fun F hF=>by
 have hres:=learnQ.eq_1 t q now
 generalize learnQ t q now = res at *
 have hl:=ht.short
 have hl2:=hl
 unfold Aq at hl2
 have hs:=hq.frame.src
 have h1:=hq.peer
 conv=>whnf
 refine ⟨fun h=>?_,fun h=>?_⟩
 ·rw [if_pos (by simpa using h)] at hres
  subst hres
  refine rg ?_;conv=>whnf
  refine Ai (Ak [(0,55)] E F48 (Oo res hl2) E Y E ⟨.inr E,Y⟩) E E ?_
  refine As 55 E ?_
  refine rg ?_;conv=>whnf
  exact Ac E (.cons .tmp .nil) E E
 rw [if_neg (by simpa using h)] at hres
 clear h
 refine rg ?_;conv=>whnf
 refine ⟨fun h=>?_,fun h=>?_⟩
 ·rw [if_pos (by simpa using h)] at hres
  subst hres
  refine rg ?_;conv=>whnf
  refine ⟨by unfold I64; omega,?_⟩
  conv=>whnf
  refine Ag (Zs t q.frame.src (-1 - q.peer) now hl ht.mac (by omega)) F243 E E E E E ?_
  refine rg ?_;conv=>whnf
  exact Ac E (.cons .tmp .nil) E E
 rw [if_neg (by simpa using h)] at hres
 subst hres
 refine rg ?_;conv=>whnf
 refine Ag (Zs t q.frame.src q.from_ now hl ht.mac (by omega)) F243 E E E E E ?_
 refine rg ?_;conv=>whnf
 exact Ac E (.cons .tmp .nil) E E
def Jk (k p d:Int):OutM:=⟨k,p,d,[],noF,0⟩
theorem Aiu (k p d:Int) (b:List UInt8) (e:Int):Dz (Jk k p d) (b,e) = if e ≠ 0 then ⟨5,p,d,[],noF,e⟩ else ⟨k,p,d,b,noF,0⟩:=rfl
theorem Sx (l:List OutM) (k p d:Int) (b:List UInt8) (e:Int) (hl:l.length < 100000000000) :
  Sy.Spec Tryz.prog 175 [Bg (Jk k p d),.sl 1 Aj b,Aa e,.ptr 0 0] [(0,.box [.osl 1]),(1,.row 9 Bg l)] (.tup []) [(0,.box [.osl 2]),(1,.non),(2,.row 9 Bg (l ++ [Dz (Jk k p d) (b,e)]))]:=Ab Γ hm 100 F175 Tryz.ntmps175 rfl fun F hF=>by
 have hres:=Aiu k p d b e
 generalize Dz (Jk k p d) (b,e) = res at *
 conv=>whnf
 refine ⟨fun h=>?_,fun h=>?_⟩
 ·rw [if_pos (by simpa using h)] at hres
  refine rg ?_;conv=>whnf
  refine Oz 17 [Bg ⟨5,p,d,[],noF,e⟩] E (.cons (.agg (.cons (.refl _) (.cons (.refl _) (.cons (.refl _) (.cons .nil (.cons (.refl _) (.cons (.refl _) (.cons (.refl _) (.cons (.refl _) (.cons (.refl _) .nil)))))))))) .nil) E ?_
  refine Ai (Af Γ.toTy 18 E E E E E (.row E) (.lit (e:=Bg) (l:=[res]) E (by rw [hres]; rfl)) (by decide) (by simp; omega) (by simp; omega)) E E ?_
  refine rg ?_;conv=>whnf
  exact Bx E .nil [(2,18)] [(0,.box [.osl 2]),(1,.non),(2,.row 9 Bg (l ++ [res]))] (fun _ h=>h) E E ⟨Y,⟨.inl E,E,.inl E,E,.inl E,E,Y⟩,E,E⟩
 ·rw [if_neg (by simpa using h)] at hres
  refine rg ?_;conv=>whnf
  refine Ai (Af Γ.toTy 18 E E E E E (.row E) (.lit (e:=Bg) (l:=[res]) E (by rw [hres]; rfl)) (by decide) (by simp; omega) (by simp; omega)) E E ?_
  refine rg ?_;conv=>whnf
  exact Bx E .nil [(2,18)] [(0,.box [.osl 2]),(1,.non),(2,.row 9 Bg (l ++ [res]))] (fun _ h=>h) E E ⟨Y,⟨.inl E,E,.inl E,E,.inl E,E,Y⟩,E,E⟩
theorem D4 (k p d:Int) (b:List UInt8) (e:Int):Sy.Spec Tryz.prog 149 [Bg (Jk k p d),.sl 1 Aj b,Aa e] [] (Bg (Dz (Jk k p d) (b,e))) []:=Ab Γ hm 100 F149 Tryz.ntmps149 rfl fun F hF=>by
 have hres:=Aiu k p d b e
 generalize Dz (Jk k p d) (b,e) = res at *
 conv=>whnf
 refine ⟨fun h=>?_,fun h=>?_⟩
 ·rw [if_pos (by simpa using h)] at hres
  subst hres
  refine rg ?_;conv=>whnf
  refine Av 6 [Aa 5,Aa p,Aa d,.sl 1 Aj [],Ay 0,Ay 0,Aa 0,.sl 1 Aj [],Aa e] E (.cons (.refl _) (.cons (.refl _) (.cons (.refl _) (.cons .nil (.cons (.refl _) (.cons (.refl _) (.cons (.refl _) (.cons .nil (.cons (.refl _) .nil))))))))) ?_
  exact Ac E (.cons (.cell E E E E) .nil) E E
 ·rw [if_neg (by simpa using h)] at hres
  subst hres
  refine rg ?_;conv=>whnf
  exact Ac E (.cons (.cell E E E E) .nil) E E
theorem Ai6 {t:List EntryM} (ht:TabOK t) (m:Nat):I64 (findE t m).1:=by
 unfold findE
 split
 ·unfold I64; dsimp only; omega
 ·rename_i h
  have hlt:Co t m < t.length:=Ir _ _
  have hk:(Co t m).toNat < t.length:=by omega
  dsimp only
  rw [List.getElem?_eq_getElem hk]
  exact ht.wh _ (List.getElem_mem hk)
theorem Ji {n:Net} {fw:List Bool} {fr:Int} {l:List Int} {p:Int} (h:p ∈ Cc n fw fr l):p ∈ l:=(List.mem_filter.1 h).1
theorem Ub {n:Net} (hb:Ah n = true) (fw:List Bool) (t:List EntryM) (dom fr:Int) (m:Nat):∀ p ∈ (decideT n fw t dom fr m).1,0 ≤ p ∧ p < n.ports.length:=by
 intro p hp
 unfold decideT at hp
 split at hp
 ·cases hp
 split at hp
 ·exact By p (Ji hp)
 split at hp
 ·rename_i h1
  obtain ⟨hs1,hs2⟩:=Lv hb dom m
  have h2:=hs1.2 h1
  have h3:=Mt hb dom m h2
  have h4:=List.mem_singleton.1 (Ji hp)
  rw [h4,← hs2 h1]
  exact ⟨h2,h3⟩
 split at hp
 ·rename_i h1
  rw [List.mem_singleton.1 (Ji hp)]
  exact By _ (inB_mem.1 h1.2.2)
 split at hp
 ·cases hp
 ·exact By p (Ji hp)
theorem Abk (n:Net) (fw:List Bool) (fr:Int) (l:List Int):(Cc n fw fr l).length ≤ l.length:=List.length_filter_le _ _
theorem Abm {n:Net} (hn:n.Fin) (dom fr:Int) (hd:Am dom n.domains.length = true):(peersOut n dom fr).length < 2147483648:=by
 unfold peersOut
 split
 ·decide
 ·have h:=En hd
  rw [Ao h.2]
  exact hn.peers _ (List.getElem_mem h.2)
theorem Ss {n:Net} (hn:n.Fin) (fw:List Bool) (t:List EntryM) (dom fr:Int) (m:Nat):(decideT n fw t dom fr m).1.length < 2147483648 ∧ (decideT n fw t dom fr m).2.1.length < 2147483648:=by
 have h1:=Ad4 n dom
 have h2:=hn.ports
 unfold Aq at h2
 have h3:=fun l=>Abk n fw fr l
 unfold decideT
 split
 ·decide
 rename_i h
 have hd:Am dom n.domains.length = true:=by
  cases hx:Am dom n.domains.length
  ·exact absurd (by rw [roomB,hx]; rfl) h
  ·rfl
 have h4:=Abm hn dom fr hd
 split
 ·have:=h3 (Az n dom); exact ⟨by dsimp only; omega,h4⟩
 split
 ·have:=h3 [(nth n.statics (Db n dom m)).port]; simp only [List.length_cons,List.length_nil] at this; exact ⟨by dsimp only; omega,by show (0:Nat) < 2147483648; decide⟩
 split
 ·have:=h3 [(findE t m).1]; simp only [List.length_cons,List.length_nil] at this; exact ⟨by dsimp only; omega,by show (0:Nat) < 2147483648; decide⟩
 split
 ·refine ⟨by show (0:Nat) < 2147483648; decide,?_⟩
  dsimp only
  split <;> simp
 ·have:=h3 (Az n dom); exact ⟨by dsimp only; omega,h4⟩
theorem Afc (n:Net) (hn:n.Fin) (hm0:n.Num) (fw:List Bool) (t:List EntryM) (dom:Int) (q:QueuedM) (now:Int) (ht:TabOK t) (hq:QueuedOK q) :
  Sy.Spec Tryz.prog 102 [Ap n,.sl 1 Ad fw,.sl 3 Al t,Aa dom,Aw q,Aa now] [] (.tup [.sl 3 Al (bridgeT n fw t dom q now).1,.sl 9 Bg (bridgeT n fw t dom q now).2.1,Aa (bridgeT n fw t dom q now).2.2]) []:=Ab Γ hm 100 F102 Tryz.ntmps102 rfl fun F hF=>by
 have hres:=bridgeT.eq_1 n fw t dom q now
 generalize bridgeT n fw t dom q now = res at *
 have qf:=floodS n hn fw dom q.from_
 have qr:=O2 t ht.short ht.mac
 conv=>whnf
 refine Bf 6 8 (Ap n) E E E ?_
 refine Bf 10 7 (Aw q) E E E ?_
 refine rg ?_;conv=>whnf
 cases hroom:roomB n fw dom q.from_
 ·rw [if_pos (.inl hroom)] at hres
  subst hres
  rw [floodT,if_pos hroom] at qf
  refine Ag qf F171 E E E E E ?_
  (refine rg ?_;(conv=>whnf);refine aT ?_;refine rg ?_;(conv=>whnf);refine aT ?_;refine rg ?_;conv=>whnf)
  refine Av 13 [.sl 9 Bg []] E (.cons .nil .nil) ?_
  refine An 12 3 Al E ?_
  exact Ac E (.cons .tmp (.cons (.cell E E E E) (.cons .tmp .nil))) E E
 rw [floodT,if_neg (by rw [hroom]; decide)] at qf
 refine Ag qf F171 E E E E E ?_
 (refine rg ?_;(conv=>whnf);refine aF ?_;refine rg ?_;conv=>whnf)
 refine Ag qr F47 E E E E E ?_
 cases htb:tableB t
 ·rw [if_pos (.inr htb)] at hres
  subst hres
  (refine rg ?_;(conv=>whnf);refine aT ?_;refine rg ?_;conv=>whnf)
  refine Av 13 [.sl 9 Bg []] E (.cons .nil .nil) ?_
  refine An 12 3 Al E ?_
  exact Ac E (.cons .tmp (.cons (.cell E E E E) (.cons .tmp .nil))) E E
 rw [if_neg (by simp [hroom,htb])] at hres
 have ql:=Ach t q now ht hq
 have hu:=Lf ht hq now
 generalize learnQ t q now = u at *
 have qro:=Acm n hn hm0 dom q.frame.dst
 generalize routerT n dom q.frame.dst = ro at *
 obtain ⟨irb,ok⟩:=ro
 dsimp only at hres qro
 have hbn:Ah n = true:=by
  simp only [roomB,Bool.and_eq_true] at hroom
  exact hroom.1.2
 (refine rg ?_;(conv=>whnf);refine aF ?_;refine rg ?_;conv=>whnf)
 refine Ag ql F172 E E E E E ?_
 refine rg ?_;conv=>whnf
 refine Ag qro F173 E E E E E ?_
 cases ok
 rotate_left
 ·rw [if_pos rfl] at hres
  have qh:=Aj1 n hn hm0 irb q.frame hq.frame
  generalize hopT n irb q.frame = hp at *
  obtain ⟨to,g,e⟩:=hp
  dsimp only at hres qh
  (refine rg ?_;(conv=>whnf);refine aT ?_;refine rg ?_;conv=>whnf)
  refine Ag qh F174 E E E E E ?_
  refine rg ?_;conv=>whnf
  refine ⟨fun h=>?_,fun h=>?_⟩
  ·rw [if_pos (by simpa using h)] at hres
   subst hres
   refine rg ?_;conv=>whnf
   refine Av 13 [.sl 9 Bg []] E (.cons .nil .nil) ?_
   exact Ac E (.cons .tmp (.cons (.cell E E E E) (.cons .tmp .nil))) E E
  ·rw [if_neg (by simpa using h)] at hres
   subst hres
   refine rg ?_;conv=>whnf
   refine ⟨(by kernel_rfl),?_⟩
   conv=>whnf
   refine Oz 84 [Bg ⟨4,0,to,[],g,0⟩] E (.cons (.agg (.cons (.refl _) (.cons (.refl _) (.cons (.refl _) (.cons .nil (.cons (.refl _) (.cons (.refl _) (.cons (.refl _) (.cons (.refl _) (.cons (.refl _) .nil)))))))))) .nil) E ?_
   refine Eb 84 Bg [⟨4,0,to,[],g,0⟩] E E ?_
   refine As 84 E ?_
   exact Ac E (.cons .tmp (.cons (.cell E E E E) (.cons .tmp .nil))) E E
 rw [if_neg (by decide)] at hres
 have hs:=hq.frame.src
 have hd2:=hq.frame.dst
 have hfw:=Ai6 hu q.frame.dst
 have qd:=Aqb n hn fw u dom q.from_ q.frame.dst hu.short (by unfold I64 at *; omega) (by omega)
 have hports:=Ub hbn fw u dom q.from_ q.frame.dst
 have hfew:=Ss hn fw u dom q.from_ q.frame.dst
 generalize decideT n fw u dom q.from_ q.frame.dst = dc at *
 obtain ⟨ports,peers,e0⟩:=dc
 dsimp only at hres qd hports hfew
 obtain ⟨hf1,hf2⟩:=hfew
 (refine rg ?_;(conv=>whnf);refine aF ?_;refine rg ?_;conv=>whnf)
 refine Ag qd F176 E E E E E ?_
 refine rg ?_;conv=>whnf
 refine Ul 13 0 1000 9 Bg E E E E ?_
 refine Au ports.length (fun j=>[(3,Aa dom),(6,.ref 8 (Ap n) 0),(10,.ref 7 (Aw q) 0),(12,.sl 3 Al u),(13,.ptr 13 0),(23,.clo (.func 175) [] [.ptr 13 0]),(25,.sl 1 Aa peers),(100,.sl 1 Aa ports),(101,Aa ports.length),(102,Aa j)])
  (fun j=>[(13,.box [.osl 1000]),(1000,.row 9 Bg ((ports.take j).map (Et n dom q.frame)))]) [(13,13),(1000,1000)] ⟨⟨rfl,rfl,rfl,rfl,rfl,rfl,rfl,rfl,rfl,rfl,rfl,rfl,rfl,rfl,rfl,rfl,rfl,rfl,rfl,rfl,trivial⟩,⟨.inl rfl,rfl,.inl rfl,rfl,trivial⟩,rfl,rfl⟩ ?_
 intro j hj
 refine rg ?_;conv=>whnf
 refine ⟨fun h=>?_,fun h=>?_⟩
 ·have hlt:j < ports.length:=by have:=of_decide_eq_true h; omega
  have hj0:((j:Nat):Int).toNat < ports.length:=by simpa using hlt
  obtain ⟨p,hp⟩:∃ p,ports[j] = p:=⟨_,rfl⟩
  have e1:ports[((j:Nat):Int).toNat]'hj0 = p:=hp
  have hs:(ports.take (j + 1)).map (Et n dom q.frame) = (ports.take j).map (Et n dom q.frame) ++ [Et n dom q.frame p]:=by
   rw [List.take_succ_eq_append_getElem hlt,List.map_append,hp]; rfl
  have hal:((ports.take j).map (Et n dom q.frame)).length = j:=by rw [List.length_map,List.length_take]; omega
  have hpi:=hports p (by rw [← hp]; exact List.getElem_mem hlt)
  have hpk:p.toNat < n.ports.length:=by omega
  have ql:=Ann n hn p dom q.frame hq.frame
  have hop:Et n dom q.frame p = Dz (Jk (if (nth n.ports p).link < 0 then 1 else 2) p 0) ((leaveT n p dom q.frame).1,(leaveT n p dom q.frame).2):=rfl
  rw [hop,Ao hpk] at hs
  clear hop
  obtain ⟨acc,hacc⟩:∃ acc,(ports.take j).map (Et n dom q.frame) = acc:=⟨_,rfl⟩
  rw [hacc] at hs hal ⊢
  obtain ⟨x,hx⟩:∃ x,n.ports[p.toNat]'hpk = x:=⟨_,rfl⟩
  rw [hx] at hs
  clear h
  refine rg ?_;conv=>whnf
  refine ⟨E,by omega,hj0,?_⟩
  rw [e1]
  conv=>whnf
  refine ⟨E,hpi.1,hpk,?_⟩
  rw [hx]
  conv=>whnf
  refine ⟨fun h=>?_,fun h=>?_⟩
  ·rw [if_neg (by have:=of_decide_eq_true h; omega)] at hs
   refine rg ?_;conv=>whnf
   refine Ag ql F177 E E E E E ?_
   refine rg ?_;conv=>whnf
   refine Ai (Kp [(0,13),(1,1000),(2,1001)] [] (Ij E E F175) (Sx acc 2 p 0 (leaveT n p dom q.frame).1 (leaveT n p dom q.frame).2 (by omega)) (.cons (.agg (.cons (.refl _) (.cons (.refl _) (.cons (.refl _) (.cons .nil (.cons (.refl _) (.cons (.refl _) (.cons (.refl _) (.cons .nil (.cons (.refl _) .nil)))))))))) (.cons (.refl _) (.cons (.refl _) (.cons (.refl _) .nil)))) ⟨E,E,Y⟩ E ⟨.inl E,.inl E,.inr E,Y⟩ E) E E ?_
   refine rg ?_;conv=>whnf
   refine ⟨by unfold I64; omega,?_⟩
   conv=>whnf
   exact Ar [(13,13),(1000,1001)] hlt ⟨⟨E,E,E,E,E,E,E,E,E,E,E,E,E,E,E,E,E,E,E,E,Y⟩,⟨.inl E,E,.inl (congrArg (Ob.row 9 Bg) hs),E,Y⟩,E,E⟩
  ·rw [if_pos (by have:=of_decide_eq_false h; omega)] at hs
   refine rg ?_;conv=>whnf
   refine Ag ql F177 E E E E E ?_
   refine rg ?_;conv=>whnf
   refine Ai (Kp [(0,13),(1,1000),(2,1001)] [] (Ij E E F175) (Sx acc 1 p 0 (leaveT n p dom q.frame).1 (leaveT n p dom q.frame).2 (by omega)) (.cons (.agg (.cons (.refl _) (.cons (.refl _) (.cons (.refl _) (.cons .nil (.cons (.refl _) (.cons (.refl _) (.cons (.refl _) (.cons .nil (.cons (.refl _) .nil)))))))))) (.cons (.refl _) (.cons (.refl _) (.cons (.refl _) .nil)))) ⟨E,E,Y⟩ E ⟨.inl E,.inl E,.inr E,Y⟩ E) E E ?_
   refine rg ?_;conv=>whnf
   refine ⟨by unfold I64; omega,?_⟩
   conv=>whnf
   exact Ar [(13,13),(1000,1001)] hlt ⟨⟨E,E,E,E,E,E,E,E,E,E,E,E,E,E,E,E,E,E,E,E,Y⟩,⟨.inl E,E,.inl (congrArg (Ob.row 9 Bg) hs),E,Y⟩,E,E⟩
 have hjj:j = ports.length:=by have:=of_decide_eq_false h; omega
 subst hjj
 clear h
 rw [List.take_length]
 obtain ⟨acc0,hacc0⟩:∃ acc0,ports.map (Et n dom q.frame) = acc0:=⟨_,rfl⟩
 have hal0:acc0.length = ports.length:=by rw [← hacc0,List.length_map]
 rw [hacc0] at hres ⊢
 refine rg ?_;conv=>whnf
 refine Au peers.length (fun j=>[(3,Aa dom),(6,.ref 8 (Ap n) 0),(10,.ref 7 (Aw q) 0),(12,.sl 3 Al u),(13,.ptr 13 0),(23,.clo (.func 175) [] [.ptr 13 0]),(130,.sl 1 Aa peers),(131,Aa peers.length),(132,Aa j)])
  (fun j=>[(13,.box [.osl 1000]),(1000,.row 9 Bg (acc0 ++ (peers.take j).map (Hq n dom q.frame)))]) [(13,13),(1000,1000)] ⟨⟨rfl,rfl,rfl,rfl,rfl,rfl,rfl,rfl,rfl,rfl,rfl,rfl,rfl,rfl,rfl,rfl,rfl,rfl,trivial⟩,⟨.inl rfl,rfl,.inl (congrArg (Ob.row 9 Bg) (by simp)),rfl,trivial⟩,rfl,rfl⟩ ?_
 intro j hj
 refine rg ?_;conv=>whnf
 refine ⟨fun h=>?_,fun h=>?_⟩
 ·have hlt:j < peers.length:=by have:=of_decide_eq_true h; omega
  have hj0:((j:Nat):Int).toNat < peers.length:=by simpa using hlt
  obtain ⟨p,hp⟩:∃ p,peers[j] = p:=⟨_,rfl⟩
  have e1:peers[((j:Nat):Int).toNat]'hj0 = p:=hp
  have hs:acc0 ++ (peers.take (j + 1)).map (Hq n dom q.frame) = (acc0 ++ (peers.take j).map (Hq n dom q.frame)) ++ [Hq n dom q.frame p]:=by
   rw [List.take_succ_eq_append_getElem hlt,List.map_append,hp,List.append_assoc]; rfl
  have hal:(acc0 ++ (peers.take j).map (Hq n dom q.frame)).length ≤ ports.length + j:=by rw [List.length_append,List.length_map,List.length_take]; omega
  have ql:=Aha n hn hm0 dom p q.frame hq.frame
  have hop:Hq n dom q.frame p = Dz (Jk 3 0 p) ((meshT n dom p q.frame).1,(meshT n dom p q.frame).2):=rfl
  rw [hop] at hs
  clear hop
  obtain ⟨acc,hacc⟩:∃ acc,acc0 ++ (peers.take j).map (Hq n dom q.frame) = acc:=⟨_,rfl⟩
  rw [hacc] at hs hal ⊢
  clear h
  refine rg ?_;conv=>whnf
  refine ⟨E,by omega,hj0,?_⟩
  rw [e1]
  conv=>whnf
  refine Ag ql F178 E E E E E ?_
  refine rg ?_;conv=>whnf
  refine Ai (Kp [(0,13),(1,1000),(2,1001)] [] (Ij E E F175) (Sx acc 3 0 p (meshT n dom p q.frame).1 (meshT n dom p q.frame).2 (by omega)) (.cons (.agg (.cons (.refl _) (.cons (.refl _) (.cons (.refl _) (.cons .nil (.cons (.refl _) (.cons (.refl _) (.cons (.refl _) (.cons .nil (.cons (.refl _) .nil)))))))))) (.cons (.refl _) (.cons (.refl _) (.cons (.refl _) .nil)))) ⟨E,E,Y⟩ E ⟨.inl E,.inl E,.inr E,Y⟩ E) E E ?_
  refine rg ?_;conv=>whnf
  refine ⟨by unfold I64; omega,?_⟩
  conv=>whnf
  exact Ar [(13,13),(1000,1001)] hlt ⟨⟨E,E,E,E,E,E,E,E,E,E,E,E,E,E,E,E,E,E,Y⟩,⟨.inl E,E,.inl (congrArg (Ob.row 9 Bg) hs),E,Y⟩,E,E⟩
 have hjj:j = peers.length:=by have:=of_decide_eq_false h; omega
 subst hjj
 clear h
 rw [List.take_length]
 subst hres
 refine rg ?_;conv=>whnf
 refine ⟨(by kernel_rfl),?_⟩
 conv=>whnf
 refine As 1000 E ?_
 exact Ac E (.cons .tmp (.cons (.cell E E E E) (.cons .tmp .nil))) E E
theorem Hw {l:List QueuedM} (h:Dp l):l.length < 1000000 ∧ O0 l:=⟨by have:=h.1; omega,fun q hq=>by have:=(h.2 q hq).frame.body; omega⟩
theorem H4 {α:Type} {l:List α} {i:Nat} (h:i < l.length) (d:α):(l[i]?).getD d = l[i]:=by
 rw [List.getElem?_eq_getElem h]; rfl
theorem placeB_iff {d:Int} {k:Nat}:Am d k = true ↔ 0 ≤ d ∧ d.toNat < k:=by
 simp only [Am,Bool.and_eq_true,decide_eq_true_eq]; omega
theorem Ue (l:List EntryM) (hl:l.length < 2147483648):Sy.Spec Tryz.prog 48 [.sl 3 Al l] [] (.sl 3 Al l) []:=Ab Γ hm 100 F48 Tryz.ntmps48 rfl fun F hF=>by
 conv=>whnf
 refine D1 E (.inl E) E E E .sl E E ?_
 intro b hb
 cases b
 ·(refine rg ?_;(conv=>whnf);refine aF ?_;refine rg ?_;conv=>whnf)
  refine Ai (Af Γ.toTy 7 E E E E E (.lit (e:=Al) (l:=[]) E E) .sl (by simp) (by simp; omega) (by simp; omega)) E E ?_
  refine As 7 E ?_
  refine rg ?_;conv=>whnf
  exact Ac E (.cons .tmp .nil) E E
 ·have h0:l = []:=List.eq_nil_of_length_eq_zero (hb rfl)
  subst h0
  (refine rg ?_;(conv=>whnf);refine aT ?_;refine rg ?_;conv=>whnf)
  refine An 2 3 Al E ?_
  exact Ac E (.cons .tmp .nil) E E
def loadT (m:MacM) (dom:Int) (t:List EntryM):MacM × Int:=if Am dom m.queues.length = true ∧ tableB t = true then (Bu m dom t,0) else (m,2)
theorem Aml (n:Net) (m:MacM) (d:Bool) (dom:Int) (t:List EntryM) (hq:m.tables.length = m.queues.length) (hl:Aq t) (hmac:∀ e ∈ t,e.mac < 18446744073709551616) :
  Sy.Spec Tryz.prog 19 [.ptr 0 0,Aa dom,.sl 3 Al t] (B8 n m d) (Aa (loadT m dom t).2) (B8 n (loadT m dom t).1 d):=Ab Γ hm 100 F19 Tryz.ntmps19 rfl fun F hF=>by
 have hl2:=hl
 unfold Aq at hl2
 have hres:=loadT.eq_1 m dom t
 generalize loadT m dom t = res at *
 have h1:=Wi n m d dom
 have hpl:=placeB_iff (d:=dom) (k:=m.queues.length)
 generalize Am dom m.queues.length = b at *
 ((conv=>whnf);refine aF ?_;refine rg ?_;conv=>whnf)
 refine Ai (Ak [] E F46 h1 E ⟨E,E,E,E,Y⟩ E ⟨.inl E,.inl E,.inl E,.inl E,Y⟩) E E ?_
 refine rg ?_;conv=>whnf
 cases b
 ·rw [if_neg (by simp)] at hres
  subst hres
  (refine ⟨fun _=>?_,fun h=>False.elim (absurd h (by decide))⟩;refine rg ?_;(conv=>whnf);refine aT ?_;refine rg ?_;conv=>whnf)
  exact done E (.cons .tmp .nil) [] (B8 n m d) (fun _ h=>h) E E ⟨Y,⟨.inl E,E,.inl E,E,.inl E,E,.inl E,E,Y⟩,E,E⟩
 have hd:=hpl.1 rfl
 (refine ⟨fun h=>False.elim (absurd h (by decide)),fun _=>?_⟩;refine rg ?_;conv=>whnf)
 refine Ag (O2 t hl hmac) F47 E E E E E ?_
 generalize tableB t = c at *
 refine rg ?_;conv=>whnf
 cases c
 ·rw [if_neg (by simp)] at hres
  subst hres
  (refine ⟨fun _=>?_,fun h=>False.elim (absurd h (by decide))⟩;refine rg ?_;conv=>whnf)
  exact done E (.cons .tmp .nil) [] (B8 n m d) (fun _ h=>h) E E ⟨Y,⟨.inl E,E,.inl E,E,.inl E,E,.inl E,E,Y⟩,E,E⟩
 rw [if_pos ⟨rfl,rfl⟩] at hres
 subst hres
 (refine ⟨fun h=>False.elim (absurd h (by decide)),fun _=>?_⟩;refine rg ?_;conv=>whnf)
 refine At (Ue t hl2) F48 E E E (by kernel_rfl) E ?_
 refine rd (by kernel_rfl) ?_;conv=>whnf
 refine ⟨hd.1,by omega,?_⟩
 conv=>whnf
 refine ⟨E,by omega,t,E,E,?_⟩
 conv=>whnf
 refine ⟨(by kernel_rfl),?_⟩
 conv=>whnf
 exact done E (.cons .tmp .nil) [] (B8 n (Bu m dom t) d) (fun _ h=>h) E E ⟨Y,⟨.inl E,E,.inl E,E,.inl E,E,.inl E,E,Y⟩,E,E⟩
theorem Ajs (n:Net) (m:MacM) (d:Bool) (dom:Int) (hq:m.tables.length = m.queues.length) (hl:(tableL m dom).length < 2147483648) :
  Sy.Spec Tryz.prog 59 [.ptr 0 0,Aa dom] (B8 n m d) (.sl 3 Al (if Am dom m.queues.length then tableL m dom else [])) (B8 n m d):=Ab Γ hm 100 F59 Tryz.ntmps59 rfl fun F hF=>by
 have h1:=Wi n m d dom
 have hpl:=placeB_iff (d:=dom) (k:=m.queues.length)
 generalize Am dom m.queues.length = b at *
 have hres:=tableL.eq_1 m dom
 generalize tableL m dom = res at *
 conv=>whnf
 refine Ai (Ak [] E F46 h1 E ⟨E,E,E,E,Y⟩ E ⟨.inl E,.inl E,.inl E,.inl E,Y⟩) E E ?_
 refine rg ?_;conv=>whnf
 cases b
 ·(refine ⟨fun _=>?_,fun h=>False.elim (absurd h (by decide))⟩;refine rg ?_;conv=>whnf)
  refine An 4 3 Al E ?_
  exact done E (.cons .tmp .nil) [] (B8 n m d) (fun _ h=>h) E E ⟨Y,⟨.inl E,E,.inl E,E,.inl E,E,.inl E,E,Y⟩,E,E⟩
 have hd:=hpl.1 rfl
 have hlt:dom.toNat < m.tables.length:=by have:=hd.2; rw [hq]; exact this
 rw [H4 hlt] at hres
 subst hres
 (refine ⟨fun h=>False.elim (absurd h (by decide)),fun _=>?_⟩;refine rg ?_;conv=>whnf)
 refine ⟨hd.1,by omega,?_⟩
 conv=>whnf
 refine ⟨E,hlt,?_⟩
 conv=>whnf
 refine Ag (Ue _ hl) F48 E E E E E ?_
 refine rg ?_;conv=>whnf
 exact done E (.cons .tmp .nil) [] (B8 n m d) (fun _ h=>h) E E ⟨Y,⟨.inl E,E,.inl E,E,.inl E,E,.inl E,E,Y⟩,E,E⟩
theorem Ajt (n:Net) (m:MacM) (d:Bool) (dom:Int) (hl:Dp (queueL m dom)) :
  Sy.Spec Tryz.prog 57 [.ptr 0 0,Aa dom] (B8 n m d) (.sl 7 Aw (if Am dom m.queues.length then queueL m dom else [])) (B8 n m d):=Ab Γ hm 100 F57 Tryz.ntmps57 rfl fun F hF=>by
 have h1:=Wi n m d dom
 have hpl:=placeB_iff (d:=dom) (k:=m.queues.length)
 generalize Am dom m.queues.length = b at *
 have hb:=Hw hl
 have h2:=Xr _ (-1) hb.1 hb.2
 have h3:takeT (queueL m dom) (-1) = (noQ,queueL m dom,false):=by rw [takeT]; exact if_pos (.inl (by decide))
 rw [h3] at h2
 clear h3 hb hl
 have hres:=queueL.eq_1 m dom
 generalize queueL m dom = res at *
 conv=>whnf
 refine Ai (Ak [] E F46 h1 E ⟨E,E,E,E,Y⟩ E ⟨.inl E,.inl E,.inl E,.inl E,Y⟩) E E ?_
 refine rg ?_;conv=>whnf
 cases b
 ·(refine ⟨fun _=>?_,fun h=>False.elim (absurd h (by decide))⟩;refine rg ?_;conv=>whnf)
  refine An 4 7 Aw E ?_
  exact done E (.cons .tmp .nil) [] (B8 n m d) (fun _ h=>h) E E ⟨Y,⟨.inl E,E,.inl E,E,.inl E,E,.inl E,E,Y⟩,E,E⟩
 have hd:=hpl.1 rfl
 have hlt:dom.toNat < m.queues.length:=hd.2
 rw [H4 hlt] at hres
 subst hres
 (refine ⟨fun h=>False.elim (absurd h (by decide)),fun _=>?_⟩;refine rg ?_;conv=>whnf)
 refine ⟨hd.1,by omega,?_⟩
 conv=>whnf
 refine ⟨E,hlt,?_⟩
 conv=>whnf
 refine Ag h2 F106 E E E E E ?_
 refine rg ?_;conv=>whnf
 exact done E (.cons .tmp .nil) [] (B8 n m d) (fun _ h=>h) E E ⟨Y,⟨.inl E,E,.inl E,E,.inl E,E,.inl E,E,Y⟩,E,E⟩
theorem Apg (n:Net) (m:MacM) (d:Bool) :
  Sy.Spec Tryz.prog 62 [.ptr 0 0] (B8 n m d) (Aa m.now) (B8 n m d):=Ab Γ hm 100 F62 Tryz.ntmps62 rfl fun F hF=>by
 ((conv=>whnf);refine aF ?_;refine rg ?_;conv=>whnf)
 exact done E (.cons .tmp .nil) [] (B8 n m d) (fun _ h=>h) E E ⟨Y,⟨.inl E,E,.inl E,E,.inl E,E,.inl E,E,Y⟩,E,E⟩
def He (m:MacM):Prop:=∀ i,0 ≤ m.drops i ∧ m.drops i ≤ 1000000000000
theorem S6 (n:Net) (m:MacM) (d:Bool) (dom:Int) (q:QueuedM) (e:Int) (he:0 ≤ e ∧ e < 64) (hd:e = 0 → 0 ≤ dom ∧ dom.toNat < m.queues.length) (hb:He m) (hl:Dp (queueL m dom)) (hq:QueuedOK q) :
  Sy.Spec Tryz.prog 101 [.ptr 0 0,Aa dom,Aw q,Aa e] (B8 n m d) (.tup []) (B8 n (comeM m dom q e) d):=Ab Γ hm 100 F101 Tryz.ntmps101 rfl fun F hF=>by
 have hqb:=Hw hl
 have hp:=Adv _ q hqb.1 hqb.2 (by have:=hq.frame.body; omega)
 have h1:=Ae4 n m d e he.1 he.2 (hb _)
 have h3:=Ae4 n m d 3 (by decide) (by decide) (hb _)
 have hres:=comeM.eq_1 m dom q e
 generalize comeM m dom q e = res at *
 conv=>whnf
 refine ⟨fun h=>?_,fun h=>?_⟩
 ·rw [if_pos (by simpa using h)] at hres
  subst hres
  refine rg ?_;conv=>whnf
  refine Ai (Ak [] E F104 h1 E ⟨E,E,E,E,Y⟩ E ⟨.inl E,.inl E,.inl E,.inl E,Y⟩) E E ?_
  refine rg ?_;conv=>whnf
  exact done E .nil [] (B8 n (Be m e) d) (fun _ h=>h) E E ⟨Y,⟨.inl E,E,.inl E,E,.inl E,E,.inl E,E,Y⟩,E,E⟩
 have h0:e = 0:=by simpa using h
 have hd:=hd h0
 rw [if_neg (by rw [h0]; decide)] at hres
 clear h hqb h1 hl he
 have hq0:=queueL.eq_1 m dom
 rw [H4 hd.2] at hq0
 generalize queueL m dom = l at *
 generalize pushT l q = r at *
 obtain ⟨l2,ok⟩:=r
 subst hq0
 refine rg ?_;conv=>whnf
 refine ⟨hd.1,hd.2,?_⟩
 conv=>whnf
 refine ⟨E,hd.2,?_⟩
 conv=>whnf
 refine At hp F170 E E E (by kernel_rfl) E ?_
 refine rd (by kernel_rfl) ?_;conv=>whnf
 refine ⟨(by kernel_rfl),?_⟩
 conv=>whnf
 cases ok
 ·rw [if_neg (by simp)] at hres
  subst hres
  (refine ⟨fun _=>?_,fun h=>False.elim (by simp at h)⟩;refine rg ?_;conv=>whnf)
  refine Ai (Ak [] E F104 h3 E ⟨E,E,E,E,Y⟩ E ⟨.inl E,.inl E,.inl E,.inl E,Y⟩) E E ?_
  refine rg ?_;conv=>whnf
  exact done E .nil [] (B8 n (Be m 3) d) (fun _ h=>h) E E ⟨Y,⟨.inl E,E,.inl E,E,.inl E,E,.inl E,E,Y⟩,E,E⟩
 ·rw [if_pos rfl] at hres
  subst hres
  (refine ⟨fun h=>False.elim (by simp at h),fun _=>?_⟩;refine rg ?_;conv=>whnf)
  refine ⟨hd.1,hd.2,?_⟩
  conv=>whnf
  refine ⟨E,hd.2,l2,E,E,?_⟩
  conv=>whnf
  exact Bx E .nil [] (B8 n (Ac9 m dom l2) d) (fun _ h=>h) E E ⟨Y,⟨.inl E,E,.inl E,E,.inl E,E,.inl E,E,Y⟩,E,E⟩
theorem Ac5 (n:Net) (m:MacM) (d:Bool) (dom at_:Int) (hl:Dp (queueL m dom)) :
  Sy.Spec Tryz.prog 53 [.ptr 0 0,Aa dom,Aa at_] (B8 n m d) (.tup [Aw (takeM m dom at_).2.1,Ad (takeM m dom at_).2.2]) (B8 n (takeM m dom at_).1 d):=Ab Γ hm 100 F53 Tryz.ntmps53 rfl fun F hF=>by
 have hqb:=Hw hl
 have hp:=Xr _ at_ hqb.1 hqb.2
 have h1:=Wi n m d dom
 have hpl:=placeB_iff (d:=dom) (k:=m.queues.length)
 have hres:=takeM.eq_1 m dom at_
 generalize takeM m dom at_ = res at *
 generalize Am dom m.queues.length = b at *
 have hq0:=queueL.eq_1 m dom
 clear hl hqb
 generalize queueL m dom = l at *
 generalize takeT l at_ = r at *
 obtain ⟨q,l2,ok⟩:=r
 conv=>whnf
 refine Ai (Ak [] E F46 h1 E ⟨E,E,E,E,Y⟩ E ⟨.inl E,.inl E,.inl E,.inl E,Y⟩) E E ?_
 refine rg ?_;conv=>whnf
 cases b
 ·rw [if_pos rfl] at hres
  subst hres
  (refine ⟨fun _=>?_,fun h=>False.elim (absurd h (by decide))⟩;refine rg ?_;conv=>whnf)
  refine Av 6 [Aa 0,Aa 0,Aa 0,Ay 0,Ay 0,Aa 0,.sl 1 Aj []] E (.cons (.refl _) (.cons (.refl _) (.cons (.refl _) (.cons (.refl _) (.cons (.refl _) (.cons (.refl _) (.cons .nil .nil))))))) ?_
  exact done E (.cons (.cell E E E E) (.cons .tmp .nil)) [] (B8 n m d) (fun _ h=>h) E E ⟨Y,⟨.inl E,E,.inl E,E,.inl E,E,.inl E,E,Y⟩,E,E⟩
 have hd:=hpl.1 rfl
 rw [H4 hd.2] at hq0
 subst hq0
 rw [if_neg (by simp)] at hres
 subst hres
 (refine ⟨fun h=>False.elim (absurd h (by decide)),fun _=>?_⟩;refine rg ?_;conv=>whnf)
 refine ⟨hd.1,hd.2,?_⟩
 conv=>whnf
 refine ⟨E,hd.2,?_⟩
 conv=>whnf
 refine Ag hp F106 E E E E E ?_
 refine rg ?_;conv=>whnf
 refine ⟨hd.1,hd.2,?_⟩
 conv=>whnf
 refine ⟨E,hd.2,l2,E,E,?_⟩
 conv=>whnf
 exact done E (.cons (.cell E E E E) (.cons .tmp .nil)) [] (B8 n (Ac9 m dom l2) d) (fun _ h=>h) E E ⟨Y,⟨.inl E,E,.inl E,E,.inl E,E,.inl E,E,Y⟩,E,E⟩
theorem Afs (n:Net) (hn:n.Fin) (m:MacM) (d:Bool) (J D:Int) (hm0:MacOK n m J D) (hJ:J < 1000000000000) (hD:D ≤ 1000000000000) (port:Int) (b:List UInt8) (hb:b.length < 100000) :
  Sy.Spec Tryz.prog 51 [.ptr 0 0,Aa port,.sl 1 Aj b] (B8 n m d) (.tup []) (B8 n (injectT n m port b) d):=Ab Γ hm 100 F51 Tryz.ntmps51 rfl fun F hF=>by
 have hres:=injectT.eq_1 n m port b
 generalize injectT n m port b = res at *
 have hpl:=placeB_iff (d:=port) (k:=n.ports.length)
 have hinj:=hm0.inj
 have hok:MacOK n ⟨m.up,m.tables,m.queues,m.now,m.injected + 1,m.drops⟩ (J + 1) D:=⟨hm0.up,hm0.tabs,hm0.ques,hm0.tab,hm0.que,hm0.now,⟨by dsimp only; omega,by dsimp only; omega⟩,hm0.drp⟩
 have hdr:He ⟨m.up,m.tables,m.queues,m.now,m.injected + 1,m.drops⟩:=fun i=>⟨(hm0.drp i).1,by have:=(hm0.drp i).2; dsimp only at *; omega⟩
 have he:=Sn n port b
 have hdom:=So (n:=n) (port:=port) (b:=b)
 have q1:=Ae0 n hn port b hb
 have hfr:=Qf n port b
 generalize enterT n port b = r at *
 have q2:=fun (hp:0 ≤ port ∧ port.toNat < n.ports.length)=>S6 n ⟨m.up,m.tables,m.queues,m.now,m.injected + 1,m.drops⟩ d r.1 ⟨port,0,m.injected + 1,r.2.1⟩ r.2.2 ⟨he.1,by have:=he.2; omega⟩ (fun h=>by
  have:=hdom h
  exact ⟨this.1,by show r.1.toNat < m.queues.length; rw [hm0.ques]; exact this.2⟩) hdr (Cw hok _) (De hfr _ ⟨by omega,by have:=hn.ports; unfold Aq at this; omega⟩ (by decide))
 conv=>whnf
 refine ⟨fun h=>?_,fun h=>?_⟩
 ·have h:=of_decide_eq_true h
  rw [if_pos (.inl (by cases hx:Am port n.ports.length; rfl; exact absurd (hpl.1 hx) (by omega)))] at hres
  subst hres
  (refine rg ?_;(conv=>whnf);refine aT ?_;refine rg ?_;(conv=>whnf);refine aT ?_;refine rg ?_;conv=>whnf)
  (skip)
  exact done E .nil [] (B8 n res d) (fun _ h=>h) E E ⟨Y,⟨.inl E,E,.inl E,E,.inl E,E,.inl E,E,Y⟩,E,E⟩
 have h0:=of_decide_eq_false h
 clear h
 refine rg ?_;conv=>whnf
 refine ⟨fun h=>?_,fun h=>?_⟩
 ·have h:=of_decide_eq_true h
  rw [if_pos (.inl (by cases hx:Am port n.ports.length; rfl; exact absurd (hpl.1 hx) (by omega)))] at hres
  subst hres
  (refine rg ?_;(conv=>whnf);refine aT ?_;refine rg ?_;conv=>whnf)
  (skip)
  exact done E .nil [] (B8 n res d) (fun _ h=>h) E E ⟨Y,⟨.inl E,E,.inl E,E,.inl E,E,.inl E,E,Y⟩,E,E⟩
 have h1:=of_decide_eq_false h
 clear h
 have hp:0 ≤ port ∧ port.toNat < n.ports.length:=by omega
 rw [hpl.2 hp,Ao hp.2] at hres
 obtain ⟨p,hpp⟩:∃ p,n.ports[port.toNat]'hp.2 = p:=⟨_,rfl⟩
 rw [hpp] at hres
 refine rg ?_;conv=>whnf
 refine ⟨E,hp.1,hp.2,?_⟩
 rw [hpp]
 conv=>whnf
 refine ⟨fun h=>?_,fun h=>?_⟩
 ·have h:=of_decide_eq_true h
  rw [if_pos (.inr h)] at hres
  subst hres
  refine rg ?_;conv=>whnf
  exact done E .nil [] (B8 n res d) (fun _ h=>h) E E ⟨Y,⟨.inl E,E,.inl E,E,.inl E,E,.inl E,E,Y⟩,E,E⟩
 have h2:=of_decide_eq_false h
 clear h
 rw [if_neg (by simp; omega)] at hres
 subst hres
 refine rg ?_;conv=>whnf
 refine ⟨by unfold I64; omega,?_⟩
 conv=>whnf
 refine Ag q1 F100 E E E E E ?_
 refine rg ?_;conv=>whnf
 refine Bi (Ak [] E F101 (q2 hp) E ⟨E,E,E,E,Y⟩ E ⟨.inl E,.inl E,.inl E,.inl E,Y⟩) (by kernel_rfl) E ?_
 refine rd (by kernel_rfl) ?_;conv=>whnf
 refine ⟨(by kernel_rfl),?_⟩
 conv=>whnf
 refine Bx E .nil [] (B8 n (comeM _ _ _ _) d) (fun _ h=>h) E E ⟨Y,⟨.inl E,E,.inl E,E,.inl E,E,.inl E,E,Y⟩,E,E⟩
theorem W9 (n:Net) (hn:n.Fin) (m:MacM) (d:Bool) (J D:Int) (hm0:MacOK n m J D) (hD:D ≤ 1000000000000) (o:OutM) (ho:OutOK n o) (origin:Int) :
  Sy.Spec Tryz.prog 105 [.ptr 0 0,Bg o,Aa origin] (B8 n m d) (.sl 3 Bl (goesM n m o origin).2) (B8 n (goesM n m o origin).1 d):=Ab Γ hm 100 F105 Tryz.ntmps105 rfl fun F hF=>by
 have hres:=goesM.eq_1 n m o origin
 generalize goesM n m o origin = res at *
 have hdr:He m:=fun i=>⟨(hm0.drp i).1,by have:=(hm0.drp i).2; omega⟩
 have hbl:o.bytes.length < 100000:=by have:=ho.bytes; omega
 have hin:∀ {x:Int},DomIn n x → 0 ≤ x ∧ x.toNat < m.queues.length:=fun h=>by rw [hm0.ques]; exact h
 conv=>whnf
 refine ⟨fun h=>?_,fun h=>?_⟩
 ·have h1:o.kind = 1:=by simpa using h
  rw [if_pos h1] at hres
  subst hres
  refine rg ?_;conv=>whnf
  refine Eb 34 Bl [⟨o.port,origin,o.bytes⟩] E E ?_
  refine As 34 E ?_
  exact done E (.cons .tmp .nil) [] (B8 n m d) (fun _ h=>h) E E ⟨Y,⟨.inl E,E,.inl E,E,.inl E,E,.inl E,E,Y⟩,E,E⟩
 have h1:¬ o.kind = 1:=by simpa using h
 rw [if_neg h1] at hres
 clear h
 refine rg ?_;conv=>whnf
 refine ⟨fun h=>?_,fun h=>?_⟩
 ·have h2:o.kind = 2:=by simpa using h
  rw [if_pos h2] at hres
  have q1:=Ahb n hn o.port o.bytes hbl
  have he:=Z7 n o.port o.bytes
  have hd:=fun h=>hin (Z8 (n:=n) (port:=o.port) (b:=o.bytes) h)
  have hf:=X0 n o.port o.bytes
  have ht:=Xz hn o.port o.bytes
  generalize linkT n o.port o.bytes = r at *
  have q2:=S6 n m d r.2.1 ⟨r.1,0,origin,r.2.2.1⟩ r.2.2.2 he hd hdr (Cw hm0 _) (De hf _ (by omega) (by decide))
  subst hres
  refine rg ?_;conv=>whnf
  refine At q1 F182 E E E (by kernel_rfl) E ?_
  refine rd (by kernel_rfl) ?_;conv=>whnf
  refine ⟨(by kernel_rfl),?_⟩
  conv=>whnf
  refine ⟨(by kernel_rfl),?_⟩
  conv=>whnf
  refine Ai (Ak [] E F101 q2 E ⟨E,E,E,E,Y⟩ E ⟨.inl E,.inl E,.inl E,.inl E,Y⟩) E E ?_
  refine rg ?_;conv=>whnf
  refine An 6 3 Bl E ?_
  exact done E (.cons .tmp .nil) [] (B8 n (comeM _ _ _ _) d) (fun _ h=>h) E E ⟨Y,⟨.inl E,E,.inl E,E,.inl E,E,.inl E,E,Y⟩,E,E⟩
 have h2:¬ o.kind = 2:=by simpa using h
 rw [if_neg h2] at hres
 clear h
 refine rg ?_;conv=>whnf
 refine ⟨fun h=>?_,fun h=>?_⟩
 ·have h2:o.kind = 3:=by simpa using h
  rw [if_pos h2] at hres
  have q1:=Ahc n hn o.bytes hbl
  have he:=Aas n o.bytes
  have hd:=fun h=>hin (Vc (n:=n) (b:=o.bytes) h).2
  have hf:=Yw n o.bytes
  have ht:=Sw hn o.bytes
  generalize comeT n o.bytes = r at *
  have q2:=S6 n m d r.2.1 ⟨-1,r.1,origin,r.2.2.1⟩ r.2.2.2 he hd hdr (Cw hm0 _) (De hf _ (by decide) ht)
  subst hres
  refine rg ?_;conv=>whnf
  refine At q1 F183 E E E (by kernel_rfl) E ?_
  refine rd (by kernel_rfl) ?_;conv=>whnf
  refine ⟨(by kernel_rfl),?_⟩
  conv=>whnf
  refine ⟨(by kernel_rfl),?_⟩
  conv=>whnf
  refine Ai (Ak [] E F101 q2 E ⟨E,E,E,E,Y⟩ E ⟨.inl E,.inl E,.inl E,.inl E,Y⟩) E E ?_
  refine rg ?_;conv=>whnf
  refine An 6 3 Bl E ?_
  exact done E (.cons .tmp .nil) [] (B8 n (comeM _ _ _ _) d) (fun _ h=>h) E E ⟨Y,⟨.inl E,E,.inl E,E,.inl E,E,.inl E,E,Y⟩,E,E⟩
 have h3:¬ o.kind = 3:=by simpa using h
 rw [if_neg h3] at hres
 clear h
 refine rg ?_;conv=>whnf
 refine ⟨fun h=>?_,fun h=>?_⟩
 ·have h4:o.kind = 4:=by simpa using h
  rw [if_pos h4] at hres
  have hf:=ho.frame h4
  have q2:=S6 n m d o.domain ⟨-2,0,origin,o.frame⟩ 0 (by decide) (fun _=>hin hf.2) hdr (Cw hm0 _) (De hf.1 _ (by decide) (by decide))
  subst hres
  refine rg ?_;conv=>whnf
  refine Ai (Ak [] E F101 q2 E ⟨E,E,E,E,Y⟩ E ⟨.inl E,.inl E,.inl E,.inl E,Y⟩) E E ?_
  refine rg ?_;conv=>whnf
  refine An 6 3 Bl E ?_
  exact done E (.cons .tmp .nil) [] (B8 n (comeM _ _ _ _) d) (fun _ h=>h) E E ⟨Y,⟨.inl E,E,.inl E,E,.inl E,E,.inl E,E,Y⟩,E,E⟩
 have h4:¬ o.kind = 4:=by simpa using h
 rw [if_neg h4] at hres
 have h5:o.kind = 5:=by have:=ho.kind; omega
 have he:=ho.err h5
 have q2:=Ae4 n m d o.error he.1 he.2 (hdr _)
 subst hres
 clear h
 refine rg ?_;conv=>whnf
 refine Ai (Ak [] E F104 q2 E ⟨E,E,E,E,Y⟩ E ⟨.inl E,.inl E,.inl E,.inl E,Y⟩) E E ?_
 refine rg ?_;conv=>whnf
 refine An 6 3 Bl E ?_
 exact done E (.cons .tmp .nil) [] (B8 n (Be m o.error) d) (fun _ h=>h) E E ⟨Y,⟨.inl E,E,.inl E,E,.inl E,E,.inl E,E,Y⟩,E,E⟩
def Ad1 (up:List Bool) (dn lk:Int) (fw:List Bool):List SV:=[.sl 1 Ad up,.val (.int .u32 dn),.val (.int .i32 lk),.val (.int .u32 0),.sl 1 Ad fw]
def Qm (n:Net) (up:List Bool) (dn lk:Int) (fw:List Bool):Obs:=[(1,.box (Ad1 up dn lk fw)),(2,.box [.ptr 1 0]),(3,.box (Aky n))]
theorem Akw (n:Net) (hn:n.Fin) (up fw:List Bool) (dn lk:Int) :
  Sy.Spec Tryz.prog 180 [.ptr 3 0,.ptr 2 0] (Qm n up dn lk fw) (.tup []) (Qm n up dn lk (Hs n up)):=Ab Γ hm 100 F180 Tryz.ntmps180 rfl fun F hF=>by
 have hf:∃ e,Sy.Spec Tryz.prog 44 [Ap n,.sl 1 Ad up] [] (.tup [.sl 1 Ad (Hs n up),Aa e]) []:=by
  unfold Hs
  split
  ·rename_i h; exact ⟨0,Aal n up hn h⟩
  ·rename_i h; exact ⟨2,Yl n up hn (by simpa using h)⟩
 obtain ⟨e,hf⟩:=hf
 generalize Hs n up = r at *
 conv=>whnf
 refine At hf F44 E E E (by kernel_rfl) E ?_
 refine rd (by kernel_rfl) ?_;conv=>whnf
 refine ⟨(by kernel_rfl),?_⟩
 conv=>whnf
 exact Bx E .nil [] (Qm n up dn lk r) (fun _ h=>h) E E ⟨Y,⟨.inl E,E,.inl E,E,.inl E,E,Y⟩,E,E⟩
theorem Anl (a:Addr) (x:Int) (w:World) (hc:w.cell? a = some (.int .u32 x)):(callFunc 312 #[.pointer (some a)]).run Tryz.prog w = .ok (.value (.int .u32 x)) w :=
 run_call_load Tryz.func312 (by kernel_rfl) (by kernel_rfl) (by kernel_rfl) .u32 (by kernel_rfl) hc
theorem Z5 (n:Net) (up fw:List Bool) (dn lk:Int):Sy.Spec Tryz.prog 255 [.ptr 1 1] (Qm n up dn lk fw) (Ad (dn != 0)) (Qm n up dn lk fw):=Ab Γ hm 100 F255 Tryz.ntmps255 rfl fun F hF=>by
 conv=>whnf
 refine Ai (Q0 Anl E E E E) E E ?_
 refine rg ?_;conv=>whnf
 exact done E (.cons .tmp .nil) [] (Qm n up dn lk fw) (fun _ h=>h) E E ⟨Y,⟨.inl E,E,.inl E,E,.inl E,E,Y⟩,E,E⟩
theorem Tg (w:World):(callFunc 348 #[]).run Tryz.prog w = .ok (.value (.tuple #[])) w:=run_call_mark0 Tryz.func348 (by kernel_rfl) (by kernel_rfl) (by kernel_rfl) .disable (by kernel_rfl) w
theorem Vp (w:World):(callFunc 350 #[]).run Tryz.prog w = .ok (.value (.tuple #[])) w:=run_call_mark0 Tryz.func350 (by kernel_rfl) (by kernel_rfl) (by kernel_rfl) .enable (by kernel_rfl) w
theorem Abj (a:Addr) (w:World):(callFunc 351 #[.pointer (some a)]).run Tryz.prog w = .ok (.value (.tuple #[])) w:=run_call_marked Tryz.func351 (by kernel_rfl) (by kernel_rfl) (by kernel_rfl) .acquire (by kernel_rfl) a w
theorem Abi (a:Addr) (w:World):(callFunc 353 #[.pointer (some a)]).run Tryz.prog w = .ok (.value (.tuple #[])) w:=run_call_marked Tryz.func353 (by kernel_rfl) (by kernel_rfl) (by kernel_rfl) .releaseMerge (by kernel_rfl) a w
theorem W0 (a:Addr) (x:Value) (u:FrameMode) (w:World) (hc:w.cell? a = some x) (hz:w.frozen? a = false) :
  CallsD Tryz.prog 315 #[.pointer (some a),.bool true] u w fun e u' w'=>u' = u ∧ (e = .returned (.tuple #[]) ∧ w' = w.drew.setCell a (.int .u32 1)):=by
 have hc':w.drew.cell? a = some x:=by go_simp
 have hz':w.drew.frozen? a = false:=by go_simp
 have hst:=run_call_store (P:=Tryz.prog) Tryz.func336 (by kernel_rfl) (by kernel_rfl) (by kernel_rfl) (by kernel_rfl) (k:=.u32) (y:=1) hc' hz'
 go_enter_d Tryz.func315,Tryz.ntmps315
 go_wp2
 go_region_calls
 all_goals (go_end0; exact ⟨rfl,rfl⟩)
theorem V8 (a:Addr) (u:FrameMode) (w:World) (hc:w.cell? a = some (.int .i32 1)) (hz:w.frozen? a = false) :
  CallsD Tryz.prog 314 #[.pointer (some a)] u w fun e u' w'=>u' = u ∧ (e = .returned (.tuple #[]) ∧ w' = w.setCell a (.int .i32 0)):=by
 have hd:=Tg
 have he:=Vp
 have hr:=Abi
 have hadd:=run_call_add (P:=Tryz.prog) Tryz.func354 (by kernel_rfl) (by kernel_rfl) (by kernel_rfl) .i32 (by kernel_rfl) (y:=-1) (s:=0) hc hz (by simp [go_sem]; rfl)
 have hcv:=run_convert_to_unsafe (P:=Tryz.prog) (src:=440) (dst:=444) Tryz.underlying440 Tryz.underlying444 (by kernel_rfl) hc
 go_enter_d Tryz.func314,Tryz.ntmps314
 go_wp2
 go_end0
 go_wp2
 go_end0
 exact ⟨E,E⟩
theorem Ak1 (a:Addr) (w:World) (hc:w.cell? a = some (.int .i32 0)) (hz:w.frozen? a = false) :
  Calls Tryz.prog 313 #[.pointer (some a)] w fun e w'=>e = .returned (.tuple #[]) ∧ w' = w.setCell a (.int .i32 1):=by
 have hd:=Tg
 have he:=Vp
 have ha:=Abj
 have hcas:=run_call_cas_hit (P:=Tryz.prog) Tryz.func349 (by kernel_rfl) (by kernel_rfl) (by kernel_rfl) .i32 (by kernel_rfl) (y:=1) hc hz
 have hc':(w.setCell a (.int .i32 1)).cell? a = some (.int .i32 1):=World.cell?_setCell_same w a _ hc
 have hcv:=run_convert_to_unsafe (P:=Tryz.prog) (src:=440) (dst:=444) Tryz.underlying440 Tryz.underlying444 (by kernel_rfl) hc'
 go_enter Tryz.func313,Tryz.ntmps313
 go_wp2
 first | go_end0 | (simp only [Exit.inBlock,Exit.then]; refine bodyPost_ret (results_none rfl _ _ _) rfl ?_) | refine bodyPost_ret (results_none rfl _ _ _) rfl ?_
 go_wp2
 go_end0
 exact ⟨E,E⟩
end Go.Sy.YtmelpejjondedaaGreat
namespace Go.Sy.YtmelpejjondedaaGreat
open Go.Proofs
set_option maxRecDepth 100000
set_option maxHeartbeats 4000000
theorem Ctx.behind {K:Nat → Prop} {κ κ2:Ka} {w w1 w2:World} (s:Step K κ w κ w1) (c:Ctx ⟨w1,κ⟩ κ2 w2):Ctx ⟨w,κ⟩ κ2 w2 where
 size:=Nat.le_trans s.size c.size
 os:=c.os.trans s.os
 tape:=c.tape.trans s.tape
 output:=c.output.trans s.output
 M:=c.M
 old:=fun b hb h=>by
  refine (c.old b (Nat.lt_of_lt_of_le hb s.size) h).trans ?_
  by_cases hm:κ.M b
  ·exact s.mkeep b hm
  ·exact s.blk b hb (fun ho=>by
    rcases ho with ⟨k,hk⟩ | ho
    ·exact h k hk
    ·exact hm ho)
 own:=fun k b hk=>by
  rcases c.own k b hk with h | h
  ·exact .inl (Nat.le_trans s.size h)
  ·exact .inr h
 nam:=c.nam
theorem Alh {κ:Ka} {w:World} (hi:Inv κ w):Step (fun _=>False) κ w κ w.drew ∧ Inv κ w.drew:=by
 have g:=Grew.drew w
 exact ⟨⟨g.size,g.os,g.tape,g.output,E,fun b _=>rfl,fun b _ _=>rfl,fun _ _ _ _=>rfl,fun _ _=>rfl,fun _ h=>h.elim,fun _ h=>.inl h⟩,⟨hi.inj,hi.bnd,hi.apart,hi.mbnd⟩⟩
theorem Akv (n:Net) (hn:n.Fin) (up fw:List Bool) :
  Sy.Spec Tryz.prog 256 [.ptr 1 1,.clo (.func 180) [] [.ptr 3 0,.ptr 2 0]] (Qm n up 0 0 fw) (.tup []) (Qm n up 1 0 (Hs n up)):=by
 intro κ w vs hi hnew hvs hok
 have o1:=hok (1,.box (Ad1 up 0 0 fw)) (by simp [Qm])
 have o2:=hok (2,.box [.ptr 1 0]) (by simp [Qm])
 have o3:=hok (3,.box (Aky n)) (by simp [Qm])
 obtain ⟨b,e1,c1,c2,st1,inv1,ob1⟩:=I5 (off:=2) (x:=.val (.int .i32 1)) (v:=.int .i32 1) hi o1 rfl (fun _ _=>by simp only [Rd]) rfl
 obtain ⟨b2,_,_,_,e2,_⟩:=id o2
 obtain ⟨b3,_,_,_,e3,_⟩:=id o3
 simp only [RdL,Rd,e1,e2,e3] at hvs
 obtain ⟨v0,r0,rfl,rfl,v1,r1,rfl,⟨fs,cs,rfl,hfs,hcs⟩,rfl⟩:=hvs
 subst hfs
 obtain ⟨p3,q3,rfl,rfl,p2,q2,rfl,rfl,rfl⟩:=hcs
 have hcl:=Akw n hn up fw 0 1 κ (w.setCell ⟨b,2,none⟩ (.int .i32 1)) [.pointer (some ⟨b3,0,none⟩),.pointer (some ⟨b2,0,none⟩)] inv1 hnew (by simp only [RdL,Rd,e2,e3]; exact ⟨_,_,rfl,rfl,_,_,rfl,rfl,rfl⟩) (fun p hp=>by
  simp only [Qm,List.mem_cons,List.not_mem_nil,or_false] at hp
  rcases hp with rfl | rfl | rfl
  ·exact ob1
  ·exact ObOK.step st1 (show ¬ (2:Nat) = 1 by decide) _ o2
  ·exact ObOK.step st1 (show ¬ (3:Nat) = 1 by decide) _ o3)
 obtain ⟨u1,hu1,hr1⟩:=c1 1 (.val (.int .u32 0)) rfl
 obtain ⟨u2,hu2,hr2⟩:=c1 2 (.val (.int .i32 0)) rfl
 rw [hr1.val] at hu1
 rw [hr2.val] at hu2
 have f1:=c2 1 (show 1 < 5 by decide)
 have f2:=c2 2 (show 2 < 5 by decide)
 have hl:=Anl ⟨b,1,none⟩ 0 (w.setCell ⟨b,2,none⟩ (.int .i32 1)) ((World.cell?_setCell_other _ ⟨b,2,none⟩ ⟨b,1,none⟩ _ (by simp)).trans hu1)
 have hnot:∀ (x:Bool) (w:World),(Op.unary .not (.bool x)).run Tryz.prog w = .ok (.bool (!x)) w:=fun _ _=>rfl
 go_enter_defers Tryz.func256,Tryz.ntmps256
 go_wp2_with (first | (go_at_call 313; refine (Ak1 ⟨b,2,none⟩ _ (by assumption) (by assumption)).mono ?_; rintro e w' ⟨rfl,rfl⟩) | (go_at_call 180; refine hcl.mono ?_; rintro e w' ⟨v,κ2,rfl,hc2,hi2,hv2,ok2⟩) | (go_at_call 255; go_in))
 have p1:=ok2 (1,.box (Ad1 up 0 1 (Hs n up))) (by simp [Qm])
 have k1:κ2 1 = .blk b:=by
  obtain ⟨bb,_,_,_,q1,_⟩:=id p1
  rcases hc2.nam 1 (by rw [e1]; intro h; cases h) with h | h
  ·rw [h]; exact e1
  ·rw [h] at q1; cases q1
 obtain ⟨ba,a1,a2,a3,_,_,_⟩:=I5 (off:=1) (x:=.val (.int .u32 1)) (v:=.int .u32 1) hi2 p1 rfl (fun _ _=>by simp only [Rd]) rfl
 rw [k1] at a1
 cases a1
 obtain ⟨std,invd⟩:=Alh hi2
 have p2:=ObOK.step std (k:=1) (fun h=>h) _ p1
 obtain ⟨ba,a1,_,_,st3,inv3,ob3⟩:=I5 (off:=1) (x:=.val (.int .u32 1)) (v:=.int .u32 1) invd p2 rfl (fun _ _=>by simp only [Rd]) rfl
 rw [k1] at a1
 cases a1
 have ob3:ObOK κ2 (w'.drew.setCell ⟨b,1,none⟩ (.int .u32 1)) 1 (.box (Ad1 up 1 1 (Hs n up))):=ob3
 obtain ⟨ba,a1,a4,a5,st4,inv4,ob4⟩:=I5 (off:=2) (x:=.val (.int .i32 0)) (v:=.int .i32 0) inv3 ob3 rfl (fun _ _=>by simp only [Rd]) rfl
 rw [k1] at a1
 cases a1
 have ob4:ObOK κ2 ((w'.drew.setCell ⟨b,1,none⟩ (.int .u32 1)).setCell ⟨b,2,none⟩ (.int .i32 0)) 1 (.box (Ad1 up 1 0 (Hs n up))):=ob4
 obtain ⟨v1,hv1,hr1⟩:=a2 1 (.val (.int .u32 0)) rfl
 rw [hr1.val] at hv1
 obtain ⟨v2,hv2,hr2⟩:=a4 2 (.val (.int .i32 1)) rfl
 rw [hr2.val] at hv2
 refine leaves_cons (f:=315) (args:=#[.pointer (some ⟨b,1,none⟩),.bool true]) (by simp) (by simp [go_sem]) ?_
 refine (W0 ⟨b,1,none⟩ (.int .u32 0) .returning _ hv1 (a3 1 (show 1 < 5 by decide))).mono ?_
 rintro e u' w'' ⟨rfl,rfl,rfl⟩
 refine leaves_cons (f:=314) (args:=#[.pointer (some ⟨b,2,none⟩)]) (by simp [settle]) (by simp [go_sem]) ?_
 refine (V8 ⟨b,2,none⟩ _ _ hv2 (a5 2 (show 2 < 5 by decide))).mono ?_
 rintro e u' w'' ⟨rfl,rfl,rfl⟩
 have hst:Step (· = 1) κ2 w' κ2 ((w'.drew.setCell ⟨b,1,none⟩ (.int .u32 1)).setCell ⟨b,2,none⟩ (.int .i32 0)):=(std.weaken (fun _ h=>h.elim)).trans (st3.trans st4)
 refine ⟨.tuple #[],by simp [results,Tryz.results256],.tuple #[],κ2,E,Ctx.behind st1 (hc2.step inv4 hst),inv4,⟨[],E,E⟩,fun p hp=>?_⟩
 simp only [Qm,List.mem_cons,List.not_mem_nil,or_false] at hp
 rcases hp with rfl | rfl | rfl
 ·exact ob4
 ·exact ObOK.step hst (show ¬ (2:Nat) = 1 by decide) _ (ok2 (2,.box [.ptr 1 0]) (by simp [Qm]))
 ·exact ObOK.step hst (show ¬ (3:Nat) = 1 by decide) _ (ok2 (3,.box (Aky n)) (by simp [Qm]))
end Go.Sy.YtmelpejjondedaaGreat
namespace Go.Sy.YtmelpejjondedaaGreat
open Go.Proofs
attribute [local irreducible] Go.Sy.G Go.Sy.DR
set_option maxRecDepth 100000
set_option maxHeartbeats 4000000
def Uf (n:Net) (up:List Bool) (d:Bool):Obs:=[(1,.box (Mj n up d)),(2,.box [.ptr 1 0]),(3,.box (Aky n))]
theorem Apw (n:Net) (hn:n.Fin) (up:List Bool) :
  Sy.Spec Tryz.prog 179 [.ptr 1 1,.clo (.func 180) [] [.ptr 3 0,.ptr 2 0]] (Uf n up false) (.tup []) (Uf n up true):=Ab Γ hm 100 F179 Tryz.ntmps179 rfl fun F hF=>by
 have q1:Sy.Spec Tryz.prog 255 [.ptr 1 1] (Uf n up false) (Ad false) (Uf n up false):=Z5 n up [] 0 0
 have q2:Sy.Spec Tryz.prog 256 [.ptr 1 1,.clo (.func 180) [] [.ptr 3 0,.ptr 2 0]] (Uf n up false) (.tup []) (Uf n up true):=Akv n hn up []
 conv=>whnf
 refine Ai (Ak [] E F255 q1 E ⟨E,E,E,Y⟩ E ⟨.inl E,.inl E,.inl E,Y⟩) E E ?_
 (refine rg ?_;(conv=>whnf);refine aT ?_;refine rg ?_;conv=>whnf)
 refine Ai (Ak [] E F256 q2 E ⟨E,E,E,Y⟩ E ⟨.inl E,.inl E,.inl E,Y⟩) E E ?_
 refine rg ?_;conv=>whnf
 exact Bx E .nil [] (Uf n up true) (fun _ h=>h) E E ⟨Y,⟨.inl E,E,.inl E,E,.inl E,E,Y⟩,E,E⟩
theorem Apv (n:Net) (up:List Bool) :
  Sy.Spec Tryz.prog 179 [.ptr 1 1,.clo (.func 180) [] [.ptr 3 0,.ptr 2 0]] (Uf n up true) (.tup []) (Uf n up true):=Ab Γ hm 100 F179 Tryz.ntmps179 rfl fun F hF=>by
 have q1:Sy.Spec Tryz.prog 255 [.ptr 1 1] (Uf n up true) (Ad true) (Uf n up true):=Z5 n up (Hs n up) 1 0
 conv=>whnf
 refine Ai (Ak [] E F255 q1 E ⟨E,E,E,Y⟩ E ⟨.inl E,.inl E,.inl E,Y⟩) E E ?_
 (refine rg ?_;(conv=>whnf);refine aF ?_;refine rg ?_;conv=>whnf)
 exact Bx E .nil [] (Uf n up true) (fun _ h=>h) E E ⟨Y,⟨.inl E,E,.inl E,E,.inl E,E,Y⟩,E,E⟩
theorem Apu (n:Net) (hn:n.Fin) (up:List Bool) (d:Bool) :
  Sy.Spec Tryz.prog 179 [.ptr 1 1,.clo (.func 180) [] [.ptr 3 0,.ptr 2 0]] (Uf n up d) (.tup []) (Uf n up true):=by
 cases d
 ·exact Apw n hn up
 ·exact Apv n up
theorem Ajv (n:Net) (hn:n.Fin) (up:List Bool) (d:Bool) :
  Sy.Spec Tryz.prog 103 [.ptr 1 0,Ap n] [(1,.box (Mj n up d))] (.sl 1 Ad (Hs n up)) [(1,.box (Mj n up true))]:=Ab Γ hm 100 F103 Tryz.ntmps103 rfl fun F hF=>by
 conv=>whnf
 refine Ai (Ak [] E F179 (Apu n hn up d) E ⟨E,E,E,Y⟩ E ⟨.inl E,.inl E,.inl E,Y⟩) E E ?_
 refine rg ?_;conv=>whnf
 exact done E (.cons .tmp .nil) [] [(1,.box (Mj n up true))] (fun _ h=>h) E E ⟨Y,⟨.inl E,E,Y⟩,E,E⟩
end Go.Sy.YtmelpejjondedaaGreat
namespace Go.Sy.YtmelpejjondedaaGreat
open Go.Proofs
theorem Or {n:Net} {fw:List Bool} {t:List EntryM} {dom:Int} {q:QueuedM} {now:Int} (ht:TabOK t) (hq:QueuedOK q):TabOK (bridgeT n fw t dom q now).1:=by
 unfold bridgeT
 split
 ·exact U0
 split
 ·split
  ·exact Lf ht hq now
  ·exact Lf ht hq now
 ·exact Lf ht hq now
theorem Ot {n:Net} (hn:n.Fin) (hm0:n.Num) {fw:List Bool} {t:List EntryM} {dom:Int} {q:QueuedM} {now:Int} (hq:QueuedOK q):∀ o ∈ (bridgeT n fw t dom q now).2.1,OutOK n o:=by
 intro o ho
 unfold bridgeT at ho
 split at ho
 ·cases ho
 rename_i h0
 have hb:Ah n = true:=by
  cases hx:Ah n
  ·exact absurd (.inl (by unfold roomB; rw [hx]; simp)) h0
  ·rfl
 split at ho
 ·split at ho
  ·cases ho
  ·rename_i h1
   have h1:=Decidable.not_not.1 h1
   have hin:∀ (d:Int),(lookT n (routerT n dom q.frame.dst).1 d).2 = true → 0 ≤ (lookT n (routerT n dom q.frame.dst).1 d).1 ∧ (lookT n (routerT n dom q.frame.dst).1 d).1.toNat < n.irbs.length:=fun d h=>Aea h
   rw [List.mem_singleton.1 ho]
   exact ⟨by dsimp only; omega,by simp,fun _=>⟨Ap3 n hm0 _ _ hin,Anv hin h1⟩,fun h=>by dsimp only at h; omega⟩
 ·rcases List.mem_append.1 ho with h | h
  ·obtain ⟨p,_,rfl⟩:=List.mem_map.1 h
   unfold Et
   exact Ad9 (by dsimp only; split <;> omega) (Zb _ _ _ _ hq.frame) (Ag9 _ _ _ _)
  ·obtain ⟨p,_,rfl⟩:=List.mem_map.1 h
   unfold Hq
   exact Ad9 (by dsimp only; omega) (by have:=Abs n dom p q.frame; omega) (Ak0 _ _ _ _)
theorem Ks {n:Net} (hn:n.Fin) (fw:List Bool) (t:List EntryM) (dom:Int) (q:QueuedM) (now:Int):(bridgeT n fw t dom q now).2.1.length < 4294967296:=by
 unfold bridgeT
 split
 ·show (0:Nat) < 4294967296; decide
 split
 ·split
  ·show (0:Nat) < 4294967296; decide
  ·show (1:Nat) < 4294967296; decide
 ·have:=Ss hn fw (learnQ t q now) dom q.from_ q.frame.dst
  simp only [List.length_append,List.length_map]
  omega
theorem T3 (n:Net) (origin:Int):∀ (a b:List OutM) (m:MacM),Ba n m origin (a ++ b) = ((Ba n (Ba n m origin a).1 origin b).1,(Ba n m origin a).2 ++ (Ba n (Ba n m origin a).1 origin b).2)
 | [],b,m=>by simp [Ba]
 | o :: a,b,m=>by
  rw [List.cons_append,Ba,Ba,T3 n origin a b]
  simp
theorem Ih (n:Net) (m:MacM) (origin:Int) (l:List OutM) (j:Nat) (hj:j < l.length) :
  Ba n m origin (l.take (j + 1)) = ((goesM n (Ba n m origin (l.take j)).1 l[j] origin).1,(Ba n m origin (l.take j)).2 ++ (goesM n (Ba n m origin (l.take j)).1 l[j] origin).2):=by
 rw [List.take_succ_eq_append_getElem hj,T3]
 simp [Ba]
theorem Ig (n:Net) (m:MacM) (o:OutM) (origin:Int):(goesM n m o origin).2.length ≤ 1:=by
 unfold goesM
 split
 ·simp
 split
 ·simp
 split
 ·simp
 split <;> simp
theorem Hn (n:Net) (origin:Int):∀ (l:List OutM) (m:MacM),(Ba n m origin l).2.length ≤ l.length
 | [],m=>by simp [Ba]
 | o :: l,m=>by
  rw [Ba]
  have h1:=Hn n origin l (goesM n m o origin).1
  have h2:=Ig n m o origin
  simp only [List.length_append,List.length_cons]
  omega
end Go.Sy.YtmelpejjondedaaGreat
