/-
  K8 K9 K10 K11 K15 K16 K17 K18 K19 K20 K21 K22 K23 K12 K13 K14 K24 K43 K44 Z5 Z6 Z7 Z8 Z9 Z10 Z11 Z12 Z13 Z14 Z15 Z16 Z17 K45 Sy39 Y1 Y2 T18 T20 T22 T23 T24 T26 T27 T28 T29 T30 T31 Y3 Y4 Y5 X2 Sy23: parts of a proof, joined by program.
-/
import Derived.Test.YtmelpejjondedaaGreatW4
import Derived.Test.YtmelpejjondedaaGreatW6
import Derived.Test.YtmelpejjondedaaGreatW3
import Derived.Test.YtmelpejjondedaaGreatW5
import Derived.Tactics
import Derived.Tactics2
import Derived.Defers
import Derived.Laws.Pointers
import Derived.Laws.LoneSync
import Derived.RegionTactic
import Derived.RegionCalls
import Derived.ChangeAlike
import Derived.Laws.NewBlocks
import Derived.Test.YtmelpejjondedaaGreatW2
namespace Go.Sy.YtmelpejjondedaaGreat
open Go.Proofs
attribute [local irreducible] Go.Sy.G Go.Sy.DR
set_option maxRecDepth 100000
set_option maxHeartbeats 4000000
def Dz {α:Type} (q:α→Bool) (l:List α):Nat→Nat
 | 0=>0
 | j+1=>match l[j]? with
  | some x=>if q x=true then Dz q l j+1 else Dz q l j
  | none=>Dz q l j
def dfC {α:Type} (q:α→Bool) (l:List α):Nat→List α
 | 0=>l
 | j+1=>match l[j]? with
  | some x=>if q x=true then (dfC q l j).set (Dz q l j) x else dfC q l j
  | none=>dfC q l j
theorem Tn {α:Type} (q:α→Bool) (l:List α) (j:Nat):Dz q l j≤j:=by
 induction j with
 | zero=>exact Nat.le_refl _
 | succ j ih =>
  simp only[Dz]
  split
  ·split<;>omega
  ·omega
theorem M0 {α:Type} (q:α→Bool) (l:List α) (j:Nat):(dfC q l j).length=l.length:=by
 induction j with
 | zero=>rfl
 | succ j ih =>
  simp only[dfC]
  split
  ·split
   ·rw[List.length_set];exact ih
   ·exact ih
  ·exact ih
theorem Aeo {α:Type} (q:α→Bool) (l:List α) (j k:Nat) (h:j≤k):(dfC q l j)[k]? = l[k]?:=by
 induction j with
 | zero=>rfl
 | succ j ih =>
  simp only[dfC]
  split
  ·split
   ·rw[List.getElem?_set_ne (by have:=Tn q l j;omega)];exact ih qn
   ·exact ih qn
  ·exact ih qn
theorem Aa7 {α:Type} (q:α→Bool) (l:List α) (j:Nat) (h:j≤l.length):(dfC q l j).take (Dz q l j)=(l.take j).filter q:=by
 induction j with
 | zero=>rfl
 | succ j ih =>
  have hj:j<l.length:=by omega
  have ih:=ih qn
  have hc:=Tn q l j
  simp only[dfC,Dz,List.getElem?_eq_getElem hj]
  rw[List.take_add_one,List.getElem?_eq_getElem hj,List.filter_append]
  by_cases hq:q l[j]=true
  ·rw[if_pos hq,if_pos hq]
   have hlt:Dz q l j<((dfC q l j).set (Dz q l j) l[j]).length:=by rw[List.length_set,M0];omega
   rw[List.take_add_one,List.getElem?_eq_getElem hlt,List.getElem_set_self]
   rw[List.take_set_of_le (Nat.le_refl _),ih]
   simp[hq]
  ·rw[if_neg hq,if_neg hq,ih]
   simp[hq]
theorem W9 {α:Type} (q:α→Bool) (l:List α) (i:Nat) (hi:i≤l.length) (h:∀ k (hk:k<l.length),k<i→q l[k]=true):dfC q l i=l∧Dz q l i=i:=by
 induction i with
 | zero=>exact⟨rfl,rfl⟩
 | succ i ih =>
  obtain ⟨h1,h2⟩:=ih qn (fun k hk hki=>h k hk qn)
  have hil:i<l.length:=by omega
  simp only[dfC,Dz,List.getElem?_eq_getElem hil]
  rw[if_pos (h i hil qn),if_pos (h i hil qn),h1,h2]
  exact⟨List.set_getElem_self hil,E⟩
theorem Mu {α:Type} (p:α→Bool) (l:List α):(Dl p l=-1∧∀ x∈l,p x=false)∨∃ (i:Nat) (hi:i<l.length),Dl p l=i∧p l[i]=true∧∀ k (hk:k<l.length),k<i→p l[k]=false:=by
 unfold Dl
 cases h:l.findIdx? p with
 | none=>exact .inl ⟨rfl,by simpa using h⟩
 | some i =>
  rw[List.findIdx?_eq_some_iff_getElem]at h
  obtain ⟨hi,h1,h2⟩:=h
  exact .inr ⟨i,hi,E,h1,fun k hk hki=>by simpa using h2 k hki⟩
theorem K4 (l:List EntryM) (hl:l.length<2147483648):Sy.Spec Tryz.prog 48 [.sl 3 As l] [] (.osl 0) [(0,.row 3 As l)]:=Ab Γ hm 100 F48 Tryz.ntmps48 rfl fun F hF=>by
 conv=>whnf
 refine C9 E (.inl E) E E E .sl E E ?_
 intro b hb
 cases b
 ·(refine rg ?_;(conv=>whnf);refine aF ?_;refine rg ?_;conv=>whnf)
  refine Ah (Al Γ.toTy 7 E E E E E (.lit (e:=As) (l:=[]) E E) .sl qy (by simp;omega) (by simp;omega)) E E ?_
  refine rg ?_;conv=>whnf
  exact done E (.cons .tmp .nil) [(0,7)] [(0,.row 3 As l)] (fun _ h=>h) E E ⟨Y,⟨.inl E,E,Y⟩,E,E⟩
 ·have h0:l=[]:=List.eq_nil_of_length_eq_zero (hb rfl)
  subst h0
  (refine rg ?_;(conv=>whnf);refine aT ?_;refine rg ?_;conv=>whnf)
  refine Ca 2 1000 3 As E E ?_
  exact done E (.cons .tmp .nil) [(0,1000)] [(0,.row 3 As [])] (fun _ h=>h) E E ⟨Y,⟨.inl E,E,Y⟩,E,E⟩
theorem Jb (l:List EntryM) (p:EntryM→Bool) (f:FuncId) (first cap:List SV) (hc:(SV.clo (.func f) first cap).inn []=true) (hf:∀ x∈l,Hj Tryz.prog f (first++[As x]++cap) (Ad (p x))) (hl:Am l) :
  Sy.Spec Tryz.prog 163 [.sl 3 As l,.clo (.func f) first cap] [] (Aa (Dl p l)) []:=Ab Γ hm 100 F163 Tryz.ntmps163 rfl fun F hF=>by
 unfold Am at hl
 have hin:∀ x:EntryM,B1 [] (first++[As x]++cap)=true:=fun x=>Cn hc rfl
 conv=>whnf
 refine Bc l.length (fun j=>Em (fun _ x=>!(p x)) l j) (fun j=>[(0,.sl 3 As l),(1,.clo (.func f) first cap),(7,Aa l.length),(8,Aa j)]) (fun _=>[]) [] (Be _ _) ⟨⟨E,E,A2 _,hc,E,E,E,E,Y⟩,Y,E,E⟩ ?_
 intro j hj hI
 refine rg ?_;conv=>whnf
 refine⟨fun h=>?_,fun h=>?_⟩
 ·have h:=of_decide_eq_true h
  have hj2:j<l.length:=by omega
  refine rg ?_;conv=>whnf
  refine⟨E,by omega,by omega,?_⟩
  conv=>whnf
  refine Dv (hf l[j] (List.getElem_mem hj2)) E E E (by simp only[hin];rfl) E E ?_
  refine rg ?_;conv=>whnf
  refine⟨fun h2=>?_,fun h2=>?_⟩
  ·refine rg ?_;conv=>whnf
   refine Ac E (.cons .tmp .nil) (congrArg Aa ?_) E
   exact Ed hj2 (fun i hi hij=>by simpa using hI i hi hij) h2
  ·refine rg ?_;conv=>whnf
   refine⟨by unfold I64;omega,?_⟩
   conv=>whnf
   exact Ba [] hI hj2 (Bb hI hj2 (by simp[h2])) ⟨⟨E,E,A2 _,hc,E,E,E,E,Y⟩,Y,E,E⟩
 ·have h:=of_decide_eq_false h
  refine rg ?_;conv=>whnf
  refine Ac E (.cons .tmp .nil) (congrArg Aa ?_) E
  exact Ez (fun i hi=>by simpa using hI i hi qn)
theorem Qd (l:List EntryM) (p:EntryM→Bool) (f:FuncId) (first cap:List SV) (hc:(SV.clo (.func f) first cap).inn []=true) (hc0:(SV.clo (.func f) first cap).inn [0]=true) (hf:∀ x∈l,Hj Tryz.prog f (first++[As x]++cap) (Ad (p x))) (hl:Am l) :
  Sy.Spec Tryz.prog 186 [.osl 0,.clo (.func f) first cap] [(0,.row 3 As l)] (.osl 1) [(0,.non),(1,.row 3 As (l.filter fun x=>!(p x)))]:=Ab Γ hm 100 F186 Tryz.ntmps186 rfl fun F hF=>by
 have qi:=Jb l p f first cap hc hf hl
 unfold Am at hl
 have hin:∀ x:EntryM,B1 [] (first++[As x]++cap)=true:=fun x=>Cn hc rfl
 conv=>whnf
 refine Aep [0] qi F163 E (.cons (.row E E) (.cons (.refl _) .nil)) (by simp only[B1,hc,Bool.and_true];rfl) E E ?_
 rcases Mu p l with ⟨h1,h2⟩ | ⟨i,hi,h1,h2,h3⟩
 ·rw[h1]
  have e1:(l.filter fun x=>!(p x))=l:=List.filter_eq_self.2 (fun x hx=>by simp[h2 x hx])
  rw[e1]
  (refine rg ?_;(conv=>whnf);refine aT ?_;refine rg ?_;conv=>whnf)
  refine Adu 0 1000 [0,4] E E qx (by simp;exact⟨E,E⟩) ?_
  exact done E (.cons .tmp .nil) [(0,0),(1,1000)] _ (fun _ h=>h) E E ⟨Y,⟨.inl E,E,.inl E,E,Y⟩,E,E⟩
 obtain ⟨f1,f2⟩:=W9 (fun x=>!(p x)) l i qn (fun k hk hki=>by simp[h3 k hk hki])
 have g1:dfC (fun x=>!(p x)) l (i+1+0)=l:=by
  show dfC (fun x=>!(p x)) l (i+1)=l
  simp only[dfC,List.getElem?_eq_getElem hi]
  rw[if_neg (by simp[h2]),f1]
 have g2:Dz (fun x=>!(p x)) l (i+1+0)=i:=by
  show Dz (fun x=>!(p x)) l (i+1)=i
  simp only[Dz,List.getElem?_eq_getElem hi]
  rw[if_neg (by simp[h2]),f2]
 rw[h1]
 (refine rg ?_;(conv=>whnf);refine aF ?_;refine rg ?_;conv=>whnf)
 refine⟨by unfold I64;omega,?_⟩
 conv=>whnf
 refine A1 (l.length-(i+1)) (fun j=>[(0,.osl 0),(1,.clo (.func f) first cap),(5,Aa (Dz (fun x=>!(p x)) l (i+1+j))),(6,Aa ((i+1+j:Nat)))]) (fun j=>[(0,.row 3 As (dfC (fun x=>!(p x)) l (i+1+j)))]) []
  ⟨⟨rfl,rfl,A2 _,hc0,congrArg Aa (congrArg Int.ofNat g2),rfl,congrArg (fun z=>SV.val (.int .i64 z)) qn,rfl,trivial⟩,⟨.inl (congrArg (Ob.row 3 As) g1),rfl,trivial⟩,rfl,rfl⟩ ?_
 intro j hj
 have hcl:=Tn (fun x=>!(p x)) l (i+1+j)
 have hdl:=M0 (fun x=>!(p x)) l (i+1+j)
 have hget:=Aeo (fun x=>!(p x)) l (i+1+j) (i+1+j) (Nat.le_refl _)
 have s1:∀ h:i+1+j<l.length,Dz (fun x=>!(p x)) l (i+1+(j+1))=if (!(p l[i+1+j]))=true then Dz (fun x=>!(p x)) l (i+1+j)+1 else Dz (fun x=>!(p x)) l (i+1+j):=fun hlt=>by
  show Dz (fun x=>!(p x)) l (i+1+j+1)=_
  simp only[Dz,List.getElem?_eq_getElem hlt]
 have s2:∀ h:i+1+j<l.length,dfC (fun x=>!(p x)) l (i+1+(j+1))=if (!(p l[i+1+j]))=true then (dfC (fun x=>!(p x)) l (i+1+j)).set (Dz (fun x=>!(p x)) l (i+1+j)) l[i+1+j] else dfC (fun x=>!(p x)) l (i+1+j):=fun hlt=>by
  show dfC (fun x=>!(p x)) l (i+1+j+1)=_
  simp only[dfC,List.getElem?_eq_getElem hlt]
 have htk:=fun h=>Aa7 (fun x=>!(p x)) l (i+1+j) h
 obtain ⟨D,hD⟩:∃ D,dfC (fun x=>!(p x)) l (i+1+j)=D:=⟨_,rfl⟩
 obtain ⟨K,hK⟩:∃ K,Dz (fun x=>!(p x)) l (i+1+j)=K:=⟨_,rfl⟩
 rw[hD]at hdl hget s2 htk ⊢
 rw[hK]at hcl s1 s2 htk ⊢
 refine rg ?_;conv=>whnf
 refine⟨fun h=>?_,fun h=>?_⟩
 ·have hlt:i+1+j<l.length:=by have:=of_decide_eq_true h;omega
  have hfx:=hf l[i+1+j] (List.getElem_mem hlt)
  have s1:=s1 hlt
  have s2:=s2 hlt
  rw[List.getElem?_eq_getElem hlt,List.getElem?_eq_getElem qn]at hget
  have hget:=Option.some.inj hget
  obtain ⟨x,hx⟩:∃ x,l[i+1+j]=x:=⟨_,rfl⟩
  rw[hx]at hfx s1 s2 hget
  refine rg ?_;conv=>whnf
  refine⟨by omega,by simp;omega,?_⟩
  conv=>whnf
  refine⟨E,by omega,?_⟩
  rw[show D[((i+1+j:Nat):Int).toNat]'qn=x from hget]
  conv=>whnf
  refine Dv hfx E E E (by simp only[hin];rfl) E E ?_
  cases hpx:p x
  ·rw[hpx]at s1 s2
   (refine rg ?_;(conv=>whnf);refine aT ?_;refine rg ?_;conv=>whnf)
   refine⟨by omega,by simp;omega,?_⟩
   conv=>whnf
   refine⟨E,by omega,x,E,E,?_⟩
   conv=>whnf
   refine⟨by unfold I64;omega,?_⟩
   conv=>whnf
   refine⟨by unfold I64;omega,?_⟩
   conv=>whnf
   exact Ar [] qn ⟨⟨E,E,A2 _,hc0,congrArg Aa (congrArg Int.ofNat s1),E,congrArg (fun z=>SV.val (.int .i64 z)) qn,E,Y⟩,⟨.inl (congrArg (Ob.row 3 As) s2),E,Y⟩,E,E⟩
  ·rw[hpx]at s1 s2
   (refine rg ?_;(conv=>whnf);refine aF ?_;refine rg ?_;conv=>whnf)
   refine⟨by unfold I64;omega,?_⟩
   conv=>whnf
   exact Ar [] qn ⟨⟨E,E,A2 _,hc0,congrArg Aa (congrArg Int.ofNat s1),E,congrArg (fun z=>SV.val (.int .i64 z)) qn,E,Y⟩,⟨.inl (congrArg (Ob.row 3 As) s2),E,Y⟩,E,E⟩
 ·have hend:i+1+j=l.length:=by have:=of_decide_eq_false h;omega
  have hne:D≠[]:=fun h=>by rw[h]at hdl;simp at hdl;omega
  have htk:=htk qn
  rw[show l.take (i+1+j)=l from List.take_of_length_le qn]at htk
  refine Aex 0 [0] E hne (by simp;rfl) ?_
  intro b cap' hcap
  refine rg ?_;conv=>whnf
  refine Ah (Cg Γ.toTy E E E E (.inr ⟨_,_,E,E⟩) (.inl ⟨E,E⟩) qn qn) E E ?_
  refine rg ?_;conv=>whnf
  refine Ah (Ia Γ.toTy 0 (k:=K) E E E E qx E E E qn qn) E E ?_
  refine rg ?_;conv=>whnf
  refine Ah (Cg Γ.toTy E E E E (.inl ⟨E,E⟩) (.inr ⟨_,_,E,E⟩) qn qn) E E ?_
  refine rg ?_;conv=>whnf
  refine To 0 1000 [4] K E E (by rw[List.length_take];omega) (fun i hi=>?_) ?_
  ·rw[List.mem_singleton]at hi
   subst hi
   show SV.val (.slice (some (if cap'=0 then ⟨b,0,none⟩ else ⟨b,0 * 3,none⟩)) (K-0) (cap'-0))=_
   split<;>simp
  refine done E (.cons .tmp .nil) [(0,0),(1,1000)] _ (fun _ h=>h) E E ⟨Y,⟨.inl E,E,.inl ?_,E,Y⟩,E,E⟩
  rw[← htk]
  exact congrArg (Ob.row 3 As) (by rw[List.take_take,Nat.min_self])
theorem Wb (l:List EntryM) (i:Nat) (hi:i<l.length) (hl:Am l) :
  Sy.Spec Tryz.prog 293 [.osl 0,Aa i,Aa ((i+1:Nat):Int)] [(0,.row 3 As l)] (.osl 1) [(0,.non),(1,.row 3 As (l.take i++l.drop (i+1)))]:=Ab Γ hm 100 F293 Tryz.ntmps293 rfl fun F hF=>by
 unfold Am at hl
 have hne:l≠[]:=fun h=>by rw[h]at hi;simp at hi
 conv=>whnf
 refine Aex 0 [0,8] E hne (by simp;exact⟨E,E⟩) ?_
 intro b cap hcap
 refine rg ?_;conv=>whnf
 refine Ah (V3 Γ.toTy E E E E E E E qn qn hcap) E E ?_
 refine rg ?_;conv=>whnf
 refine⟨fun h=>absurd h (by simp;omega),fun _=>?_⟩
 refine rg ?_;conv=>whnf
 refine Bs (Cg Γ.toTy E E E E (.inl ⟨E,E⟩) (.inr ⟨_,_,E,E⟩) qn qn) qq E ?_
 refine rd qq ?_;conv=>whnf
 refine Bs (Cg (hi:=l.length) Γ.toTy E E E E (.inr ⟨_,_,E,E⟩) (.inl ⟨E,E⟩) qn qn) qq E ?_
 refine rd qq ?_;conv=>whnf
 have hif:(if cap=0 then (⟨b,0,none⟩:Addr) else ⟨b,0 * 3,none⟩)=⟨b,0,none⟩:=by split<;>simp
 refine Bs (Tf Γ.toTy 0 (n:=l.length) (i:=i) (j:=i+1) E E E (congrArg (fun z=>SV.val (.slice (some z) i cap)) hif) E E E E qn qn) qq E ?_
 refine rd qq ?_;conv=>whnf
 refine⟨qq,?_⟩
 conv=>whnf
 refine Ah (Cg (lo:=i+(l.length-(i+1))) (hi:=l.length) Γ.toTy E E E E (.inr ⟨_,_,E,E⟩) (.inr ⟨_,_,E,E⟩) qn qn) E E ?_
 refine rg ?_;conv=>whnf
 have hll:(l.take i++l.drop (i+1)).length=i+(l.length-(i+1)):=by rw[List.length_append,List.length_take,List.length_drop];omega
 refine Ah (Ia Γ.toTy 0 (k:=i+(l.length-(i+1))) E E E E qx E E E qn qn) E E ?_
 refine rg ?_;conv=>whnf
 refine To 0 1000 [6] (i+(l.length-(i+1))) E E (by rw[List.length_take];omega) (by simp;rfl) ?_
 refine done E (.cons .tmp .nil) [(0,0),(1,1000)] _ (fun _ h=>h) E E ⟨Y,⟨.inl E,E,.inl ?_,E,Y⟩,E,E⟩
 exact congrArg (Ob.row 3 As) (by rw[List.take_take,Nat.min_self];exact(List.take_of_length_le qn).symm)
theorem Sc (m:Nat) (h:m<18446744073709551616):Sy.Spec Tryz.prog 97 [A7 m] [] (Ad (Ha m)) []:=Ab Γ hm 100 F97 Tryz.ntmps97 rfl fun F hF=>by
 have q:=I9 m h
 conv=>whnf
 refine⟨fun h1=>?_,fun h1=>?_⟩
 ·have h2:m≤281474976710655:=by simp at h1;omega
  refine rg ?_;conv=>whnf
  refine Ag q F162 E E E E E ?_
  refine rg ?_;conv=>whnf
  exact Ac E (.cons .tmp .nil) (congrArg Ad (by rw[Ha,decide_eq_true h2,Bool.true_and])) E
 ·have h2:¬ m≤281474976710655:=by simp at h1;omega
  refine rg ?_;conv=>whnf
  exact Ac E (.cons .tmp .nil) (congrArg Ad (by rw[Ha,decide_eq_false h2,Bool.false_and])) E
theorem Mn (i:Int):Sy.Spec Tryz.prog 98 [Aa i] [] (Ad (En i)) []:=Ab Γ hm 100 F98 Tryz.ntmps98 rfl fun F hF=>by
 conv=>whnf
 (repeat' (first | (refine⟨fun h=>?_,fun h=>?_⟩<;>(repeat (first | simp only[decide_eq_true_eq]at h | simp only[decide_eq_false_iff_not]at h))<;>((refine rg ?_);(conv=>whnf))) | (refine Ac rfl (.cons .tmp .nil) ?_ rfl)))
 all_goals (refine congrArg Ad ?_)
 all_goals grind [En]
theorem Ae4 (m:Nat) (e:EntryM):Sy.Spec Tryz.prog 164 [As e,.ref 1 (A7 m) 0] [] (Ad (decide (e.mac=m))) []:=Ab Γ hm 100 F164 Tryz.ntmps164 rfl fun F hF=>by
 conv=>whnf
 refine Ac E (.cons .tmp .nil) ?_ E
 refine congrArg Ad ?_
 rw[Bool.eq_iff_iff];simp;omega
theorem Qr (t:List EntryM) (m:Nat) (hl:Am t):Sy.Spec Tryz.prog 99 [.sl 3 As t,A7 m] [] (Aa (Dt t m)) []:=Ab Γ hm 100 F99 Tryz.ntmps99 rfl fun F hF=>by
 have q:=Jb t (fun e=>decide (e.mac=m)) 164 [] [.ref 1 (A7 m) 0] rfl (fun x _=>⟨⟨_,_,F164⟩,Ae4 m x⟩) hl
 conv=>whnf
 refine B0 3 1 (A7 m) E E E ?_
 refine rg ?_;conv=>whnf
 refine Ag q F163 E E E E E ?_
 refine rg ?_;conv=>whnf
 exact Ac E (.cons .tmp .nil) E E
theorem Ahi (t:List EntryM) (m:Nat) (hl:Am t):Sy.Spec Tryz.prog 307 [.sl 3 As t,A7 m] [] (.tup [Aa (findE t m).1,Ad (findE t m).2]) []:=Ab Γ hm 100 F307 Tryz.ntmps307 rfl fun F hF=>by
 have q:=Qr t m hl
 have hlt:Dt t m<t.length:=E7 _ _
 have hres:=findE.eq_1 t m
 generalize findE t m=res at *
 generalize Dt t m=i at *
 conv=>whnf
 refine Ag q F99 E E E E E ?_
 refine rg ?_;conv=>whnf
 refine⟨fun h=>?_,fun h=>?_⟩
 ·rw[if_pos (by simpa using h)]at hres
  subst hres
  refine rg ?_;conv=>whnf
  exact Ac E (.cons .tmp (.cons .tmp .nil)) E E
 ·have h0:¬ i<0:=by simpa using h
  have hi:i.toNat<t.length:=by omega
  rw[if_neg h0,List.getElem?_eq_getElem hi]at hres
  subst hres
  refine rg ?_;conv=>whnf
  refine⟨E,by omega,by omega,?_⟩
  conv=>whnf
  exact Ac E (.cons .tmp (.cons .tmp .nil)) E E
theorem Le (t:List EntryM) (hl:Am t) (hmac:∀ e∈t,e.mac<18446744073709551616):Sy.Spec Tryz.prog 47 [.sl 3 As t] [] (Ad (tableB t)) []:=Ab Γ hm 100 F47 Tryz.ntmps47 rfl fun F hF=>by
 unfold Am at hl
 have hres:=tableB.eq_1 t
 generalize tableB t=res at *
 conv=>whnf
 refine⟨fun h=>?_,fun h=>?_⟩
 ·have h8:¬ t.length≤8:=by simp at h;omega
  rw[decide_eq_false h8,Bool.false_and]at hres
  subst hres
  refine rg ?_;conv=>whnf
  exact Ac E (.cons .tmp .nil) E E
 have h8:t.length≤8:=by simp at h;omega
 rw[decide_eq_true h8,Bool.true_and]at hres
 refine rg ?_;conv=>whnf
 refine Bc t.length (fun j=>Em (Q7 t) t j) (fun j=>[(0,.sl 3 As t),(8,.sl 3 As t),(9,Aa t.length),(10,Aa j)]) (fun _=>[]) [] (Be _ _) ⟨⟨E,E,E,E,E,E,E,E,Y⟩,Y,E,E⟩ ?_
 intro j hj hI
 refine rg ?_;conv=>whnf
 refine⟨fun h=>?_,fun h=>?_⟩
 ·have hlt:j<t.length:=by have:=of_decide_eq_true h;omega
  have q1:=Sc t[j].mac (hmac _ (List.getElem_mem hlt))
  have q2:=Mn t[j].seen
  have q3:=Qr t t[j].mac hl
  have hent:Q7 t j t[j]=(Ha t[j].mac && En t[j].seen && decide (Dt t t[j].mac=j)):=rfl
  have hbad:Q7 t j t[j]=false→res=false:=fun hf=>by rw[hres];exact B5 hlt hf
  have hgood:Q7 t j t[j]=true→Em (Q7 t) t (j+1):=fun ht=>Bb hI hlt ht
  refine rg ?_;conv=>whnf
  refine⟨E,by omega,by omega,?_⟩
  rw[show t[((j:Nat):Int).toNat]'qn=t[j] from rfl]
  generalize t[j]=x at *
  conv=>whnf
  refine Ag q1 F97 E E E E E ?_
  cases h1:Ha x.mac
  ·rw[hbad (by rw[hent,h1];rfl)]
   (refine rg ?_;(conv=>whnf);refine aT ?_;refine rg ?_;(conv=>whnf);refine aT ?_;refine rg ?_;(conv=>whnf);refine aT ?_;refine rg ?_;conv=>whnf)
   exact Ac E (.cons .tmp .nil) E E
  (refine rg ?_;(conv=>whnf);refine aF ?_;refine rg ?_;conv=>whnf)
  refine Ag q2 F98 E E E E E ?_
  cases h2:En x.seen
  ·rw[hbad (by rw[hent,h1,h2];rfl)]
   (refine rg ?_;(conv=>whnf);refine aT ?_;refine rg ?_;(conv=>whnf);refine aT ?_;refine rg ?_;conv=>whnf)
   exact Ac E (.cons .tmp .nil) E E
  (refine rg ?_;(conv=>whnf);refine aF ?_;refine rg ?_;conv=>whnf)
  refine Ag q3 F99 E E E E E ?_
  refine rg ?_;conv=>whnf
  refine⟨fun h3=>?_,fun h3=>?_⟩
  ·rw[hbad (by rw[hent,h1,h2,decide_eq_false (by simpa using h3)];rfl)]
   refine rg ?_;conv=>whnf
   exact Ac E (.cons .tmp .nil) E E
  ·have h4:=hgood (by rw[hent,h1,h2,decide_eq_true (by simpa using h3)];rfl)
   refine rg ?_;conv=>whnf
   refine⟨by unfold I64;omega,?_⟩
   conv=>whnf
   exact Ba [] hI qn h4 ⟨⟨E,E,E,E,E,E,E,E,Y⟩,Y,E,E⟩
 ·have hend:j=t.length:=by have:=of_decide_eq_false h;omega
  subst hend
  rw[hres.trans (Dp hI (Nat.le_refl _))]
  refine rg ?_;conv=>whnf
  exact Ac E (.cons .tmp .nil) E E
theorem Akm (now:Int) (hn:En now=true) (e:EntryM):Sy.Spec Tryz.prog 187 [As e,.ref 1 (Aa now) 0] [] (Ad (decide (e.seen<now-4))) []:=Ab Γ hm 100 F187 Tryz.ntmps187 rfl fun F hF=>by
 have hn2:0≤now∧now≤1099511627776:=by simpa [En] using hn
 conv=>whnf
 refine⟨by unfold I64;omega,?_⟩
 conv=>whnf
 exact Ac E (.cons .tmp .nil) E E
theorem Akl (t:List EntryM) (now:Int) (hl:Am t) (hmac:∀ e∈t,e.mac<18446744073709551616):Sy.Spec Tryz.prog 107 [.sl 3 As t,Aa now] [] (.sl 3 As (ageT t now)) []:=Ab Γ hm 100 F107 Tryz.ntmps107 rfl fun F hF=>by
 have hl2:=hl
 unfold Am at hl2
 have hres:=ageT.eq_1 t now
 generalize ageT t now=res at *
 have q1:=Le t hl hmac
 have q2:=Mn now
 conv=>whnf
 refine Ah (Ai [(0,55)] E F48 (K4 t hl2) E Y E ⟨.inr E,Y⟩) E E ?_
 refine rg ?_;conv=>whnf
 refine Ag q1 F47 E E E E E ?_
 cases h1:tableB t
 ·rw[if_pos (.inl h1)]at hres
  subst hres
  (refine rg ?_;(conv=>whnf);refine aT ?_;refine rg ?_;(conv=>whnf);refine aT ?_;refine rg ?_;conv=>whnf)
  refine At 55 E ?_
  exact Ac E (.cons .tmp .nil) E E
 (refine rg ?_;(conv=>whnf);refine aF ?_;refine rg ?_;conv=>whnf)
 refine Ag q2 F98 E E E E E ?_
 cases h2:En now
 ·rw[if_pos (.inr h2)]at hres
  subst hres
  (refine rg ?_;(conv=>whnf);refine aT ?_;refine rg ?_;conv=>whnf)
  refine At 55 E ?_
  exact Ac E (.cons .tmp .nil) E E
 rw[if_neg (by simp[h1,h2])]at hres
 (refine rg ?_;(conv=>whnf);refine aF ?_;refine rg ?_;conv=>whnf)
 refine B0 3 1 (Aa now) E E E ?_
 refine rg ?_;conv=>whnf
 have q3:=Qd t (fun e=>decide (e.seen<now-4)) 187 [] [.ref 1 (Aa now) 0] rfl rfl (fun x _=>⟨⟨_,_,F187⟩,Akm now h2 x⟩) hl
 refine Ah (Ai [(0,55),(1,56)] E F186 q3 E ⟨E,Y⟩ E ⟨.inl E,.inr E,Y⟩) E E ?_
 refine rg ?_;conv=>whnf
 refine At 56 E ?_
 refine Ac E (.cons .tmp .nil) ?_ E
 subst hres
 refine congrArg (SV.sl 3 As) (List.filter_congr fun e _=>?_)
 rw[Bool.eq_iff_iff];simp
theorem Ul (t:List EntryM) (j:Nat) (h:0<t.length) (hj:j≤t.length):oldestU t j<t.length:=by
 induction j with
 | zero=>exact h
 | succ j ih =>
  rw[oldestU]
  split
  ·omega
  ·exact ih qn
theorem Abt (t:List EntryM) (hl:Am t) (h0:0<t.length):Sy.Spec Tryz.prog 292 [.sl 3 As t] [] (Aa (oldestU t t.length:Nat)) []:=Ab Γ hm 100 F292 Tryz.ntmps292 rfl fun F hF=>by
 unfold Am at hl
 conv=>whnf
 refine A1 t.length (fun j=>[(0,.sl 3 As t),(3,Aa (oldestU t j:Nat)),(6,.sl 3 As t),(7,Aa t.length),(8,Aa j)]) (fun _=>[]) [] ⟨⟨E,E,E,E,E,E,E,E,E,E,Y⟩,Y,E,E⟩ ?_
 intro j hj
 refine rg ?_;conv=>whnf
 refine⟨fun h=>?_,fun h=>?_⟩
 ·have hlt:j<t.length:=by have:=of_decide_eq_true h;omega
  have hol:=Ul t j h0 qn
  have hs:=oldestU.eq_2 t j
  rw[List.getElem?_eq_getElem hlt,List.getElem?_eq_getElem hol]at hs
  obtain ⟨o,ho⟩:∃ o,oldestU t j=o:=⟨_,rfl⟩
  simp only[ho]at hs hol ⊢
  have hs2:oldestU t (j+1)=if t[j].seen<t[o].seen then j else o:=hs
  refine rg ?_;conv=>whnf
  refine⟨E,by omega,by omega,?_⟩
  rw[show t[((j:Nat):Int).toNat]'qn=t[j] from rfl]
  conv=>whnf
  refine⟨E,by omega,by omega,?_⟩
  rw[show t[((o:Nat):Int).toNat]'qn=t[o] from rfl]
  conv=>whnf
  refine⟨qq,?_⟩
  conv=>whnf
  refine⟨fun h2=>?_,fun h2=>?_⟩
  ·rw[if_pos (of_decide_eq_true h2)]at hs2
   refine rg ?_;conv=>whnf
   refine⟨by unfold I64;omega,?_⟩
   conv=>whnf
   exact Ar [] qn ⟨⟨E,E,congrArg (fun z:Nat=>Aa z) hs2,E,E,E,E,E,E,E,Y⟩,Y,E,E⟩
  ·rw[if_neg (of_decide_eq_false h2)]at hs2
   refine rg ?_;conv=>whnf
   refine⟨by unfold I64;omega,?_⟩
   conv=>whnf
   exact Ar [] qn ⟨⟨E,E,congrArg (fun z:Nat=>Aa z) hs2,E,E,E,E,E,E,E,Y⟩,Y,E,E⟩
 ·have:j=t.length:=by have:=of_decide_eq_false h;omega
  subst this
  refine rg ?_;conv=>whnf
  exact Ac E (.cons .tmp .nil) E E
theorem Wg (t:List EntryM) (m:Nat) (wh now:Int) (hl:Am t) (hmac:∀ e∈t,e.mac<18446744073709551616) (hm64:m<18446744073709551616) :
  Sy.Spec Tryz.prog 243 [.sl 3 As t,A7 m,Aa wh,Aa now] [] (.sl 3 As (learnT t m wh now)) []:=Ab Γ hm 100 F243 Tryz.ntmps243 rfl fun F hF=>by
 have hl2:=hl
 unfold Am at hl2
 have hres:=learnT.eq_1 t m wh now
 generalize learnT t m wh now=res at *
 have q1:=Le t hl hmac
 have q2:=Sc m hm64
 have q3:=Mn now
 have q4:=Qr t m hl
 conv=>whnf
 refine Ah (Ai [(0,55)] E F48 (K4 t hl2) E Y E ⟨.inr E,Y⟩) E E ?_
 refine rg ?_;conv=>whnf
 refine Ag q1 F47 E E E E E ?_
 cases h1:tableB t
 ·rw[if_pos (.inl h1)]at hres
  subst hres
  (refine rg ?_;(conv=>whnf);refine aT ?_;refine rg ?_;(conv=>whnf);refine aT ?_;refine rg ?_;(conv=>whnf);refine aT ?_;refine rg ?_;conv=>whnf)
  refine At 55 E ?_
  exact Ac E (.cons .tmp .nil) E E
 (refine rg ?_;(conv=>whnf);refine aF ?_;refine rg ?_;conv=>whnf)
 refine Ag q2 F97 E E E E E ?_
 cases h2:Ha m
 ·rw[if_pos (.inr (.inl h2))]at hres
  subst hres
  (refine rg ?_;(conv=>whnf);refine aT ?_;refine rg ?_;(conv=>whnf);refine aT ?_;refine rg ?_;conv=>whnf)
  refine At 55 E ?_
  exact Ac E (.cons .tmp .nil) E E
 (refine rg ?_;(conv=>whnf);refine aF ?_;refine rg ?_;conv=>whnf)
 refine Ag q3 F98 E E E E E ?_
 cases h3:En now
 ·rw[if_pos (.inr (.inr h3))]at hres
  subst hres
  (refine rg ?_;(conv=>whnf);refine aT ?_;refine rg ?_;conv=>whnf)
  refine At 55 E ?_
  exact Ac E (.cons .tmp .nil) E E
 rw[if_neg (by simp[h1,h2,h3])]at hres
 have ht8:t.length≤8:=by simp only[tableB,Bool.and_eq_true,decide_eq_true_eq]at h1;exact h1.1
 have hfound:∀ hi:0≤Dt t m,∃ h:(Dt t m).toNat<t.length,t[(Dt t m).toNat].mac=m:=fun hi=>by
  rcases Mu (fun e=>decide (EntryM.mac e=m)) t with ⟨h,_⟩ | ⟨k,hk,h,h2,_⟩
  ·rw[Dt,h]at hi
   exact absurd hi qx
  ·have e1:Dt t m=k:=h
   simp only[e1,Int.toNat_natCast]
   exact⟨hk,of_decide_eq_true h2⟩
 generalize Dt t m=i at *
 (refine rg ?_;(conv=>whnf);refine aF ?_;refine rg ?_;conv=>whnf)
 refine Ag q4 F99 E E E E E ?_
 refine rg ?_;conv=>whnf
 refine⟨fun h4=>?_,fun h4=>?_⟩
 ·have h5:0≤i:=by simpa using h4
  obtain ⟨hi,hmm⟩:=hfound h5
  rw[if_pos h5]at hres
  refine rg ?_;conv=>whnf
  have hne:t≠[]:=fun h=>by rw[h]at hi;simp at hi
  refine⟨h5,by omega,?_⟩
  conv=>whnf
  refine⟨hne,?_⟩
  conv=>whnf
  refine⟨E,hi,⟨t[i.toNat].mac,wh,t[i.toNat].seen⟩,E,E,?_⟩
  conv=>whnf
  refine⟨h5,by simp;omega,?_⟩
  conv=>whnf
  refine⟨by simp;exact hne,?_⟩
  conv=>whnf
  refine⟨E,by simp;omega,⟨t[i.toNat].mac,wh,now⟩,by rw[List.getElem_set_self];rfl,by rw[List.getElem_set_self];rfl,?_⟩
  conv=>whnf
  refine At 55 E ?_
  refine rg ?_;conv=>whnf
  refine Ac E (.cons .tmp .nil) (congrArg (SV.sl 3 As) ?_) E
  rw[hres,List.set_set,hmm]
 ·have h5:¬ 0≤i:=by simp at h4 ⊢;omega
  rw[if_neg h5]at hres
  refine rg ?_;conv=>whnf
  refine⟨fun h6=>?_,fun h6=>?_⟩
  ·have h7:t.length=8:=by simp at h6;omega
   rw[if_pos h7]at hres
   have q5:=Abt t hl qn
   have hol:=Ul t t.length qn (Nat.le_refl _)
   refine rg ?_;conv=>whnf
   refine Aep [55] q5 F292 E (.cons (.row E E) .nil) E E E ?_
   generalize oldestU t t.length=o at *
   have q6:=Wb t o hol hl
   refine rg ?_;conv=>whnf
   refine⟨by unfold I64;omega,?_⟩
   conv=>whnf
   refine Ah (Ai [(0,55),(1,56)] E F293 q6 E ⟨E,Y⟩ E ⟨.inl E,.inr E,Y⟩) E E ?_
   refine rg ?_;conv=>whnf
   refine Ah (Al Γ.toTy 60 rfl rfl rfl rfl rfl (.row rfl) (.lit (e:=As) (l:=[⟨m,wh,now⟩]) rfl rfl) (fun j hj=>by cases hj;decide) (by simp;omega) (by simp;omega)) rfl rfl ?_
   refine At 60 E ?_
   refine rg ?_;conv=>whnf
   refine Ac E (.cons .tmp .nil) (congrArg (SV.sl 3 As) ?_) E
   rw[hres,List.eraseIdx_eq_take_drop_succ]
  ·have h7:¬ t.length=8:=by simp at h6;omega
   rw[if_neg h7]at hres
   refine rg ?_;conv=>whnf
   refine Ah (Al Γ.toTy 60 rfl rfl rfl rfl rfl (.row rfl) (.lit (e:=As) (l:=[⟨m,wh,now⟩]) rfl rfl) (fun j hj=>by cases hj;decide) (by simp;omega) (by simp;omega)) rfl rfl ?_
   refine At 60 E ?_
   refine rg ?_;conv=>whnf
   exact Ac E (.cons .tmp .nil) (congrArg (SV.sl 3 As) hres) E
theorem Yu (l:List Int) (hl:l.length<2147483648):Sy.Spec Tryz.prog 95 [.sl 1 Aa l] [] (.osl 0) [(0,.row 1 Aa l)]:=Ab Γ hm 100 F95 Tryz.ntmps95 rfl fun F hF=>by
 conv=>whnf
 refine C9 E (.inl E) E E E .sl E E ?_
 intro b hb
 cases b
 ·(refine rg ?_;(conv=>whnf);refine aF ?_;refine rg ?_;conv=>whnf)
  refine Ah (Al Γ.toTy 7 E E E E E (.lit (e:=Aa) (l:=[]) E E) .sl qy (by simp;omega) (by simp;omega)) E E ?_
  refine rg ?_;conv=>whnf
  exact done E (.cons .tmp .nil) [(0,7)] [(0,.row 1 Aa l)] (fun _ h=>h) E E ⟨Y,⟨.inl E,E,Y⟩,E,E⟩
 ·have h0:l=[]:=List.eq_nil_of_length_eq_zero (hb rfl)
  subst h0
  (refine rg ?_;(conv=>whnf);refine aT ?_;refine rg ?_;conv=>whnf)
  refine Ca 2 1000 1 Aa E E ?_
  exact done E (.cons .tmp .nil) [(0,1000)] [(0,.row 1 Aa [])] (fun _ h=>h) E E ⟨Y,⟨.inl E,E,Y⟩,E,E⟩
theorem Th (l:List Int) (p:Int→Bool) (f:FuncId) (first cap:List SV) (hc:(SV.clo (.func f) first cap).inn []=true) (hc0:(SV.clo (.func f) first cap).inn [0]=true) (hf:∀ x∈l,Hj Tryz.prog f (first++[Aa x]++cap) (Ad (p x))) (hl:Am l) :
  Sy.Spec Tryz.prog 291 [.osl 0,.clo (.func f) first cap] [(0,.row 1 Aa l)] (.osl 1) [(0,.non),(1,.row 1 Aa (l.filter fun x=>!(p x)))]:=Ab Γ hm 100 F291 Tryz.ntmps291 rfl fun F hF=>by
 have qi:=H9 l p f first cap hc hf hl
 unfold Am at hl
 have hin:∀ x:Int,B1 [] (first++[Aa x]++cap)=true:=fun x=>Cn hc rfl
 conv=>whnf
 refine Aep [0] qi F321 E (.cons (.row E E) (.cons (.refl _) .nil)) (by simp only[B1,hc,Bool.and_true];rfl) E E ?_
 rcases Mu p l with ⟨h1,h2⟩ | ⟨i,hi,h1,h2,h3⟩
 ·rw[h1]
  have e1:(l.filter fun x=>!(p x))=l:=List.filter_eq_self.2 (fun x hx=>by simp[h2 x hx])
  rw[e1]
  (refine rg ?_;(conv=>whnf);refine aT ?_;refine rg ?_;conv=>whnf)
  refine Adu 0 1000 [0,4] E E qx (by simp;exact⟨E,E⟩) ?_
  exact done E (.cons .tmp .nil) [(0,0),(1,1000)] _ (fun _ h=>h) E E ⟨Y,⟨.inl E,E,.inl E,E,Y⟩,E,E⟩
 obtain ⟨f1,f2⟩:=W9 (fun x=>!(p x)) l i qn (fun k hk hki=>by simp[h3 k hk hki])
 have g1:dfC (fun x=>!(p x)) l (i+1+0)=l:=by
  show dfC (fun x=>!(p x)) l (i+1)=l
  simp only[dfC,List.getElem?_eq_getElem hi]
  rw[if_neg (by simp[h2]),f1]
 have g2:Dz (fun x=>!(p x)) l (i+1+0)=i:=by
  show Dz (fun x=>!(p x)) l (i+1)=i
  simp only[Dz,List.getElem?_eq_getElem hi]
  rw[if_neg (by simp[h2]),f2]
 rw[h1]
 (refine rg ?_;(conv=>whnf);refine aF ?_;refine rg ?_;conv=>whnf)
 refine⟨by unfold I64;omega,?_⟩
 conv=>whnf
 refine A1 (l.length-(i+1)) (fun j=>[(0,.osl 0),(1,.clo (.func f) first cap),(5,Aa (Dz (fun x=>!(p x)) l (i+1+j))),(6,Aa ((i+1+j:Nat)))]) (fun j=>[(0,.row 1 Aa (dfC (fun x=>!(p x)) l (i+1+j)))]) []
  ⟨⟨rfl,rfl,A2 _,hc0,congrArg Aa (congrArg Int.ofNat g2),rfl,congrArg (fun z=>SV.val (.int .i64 z)) qn,rfl,trivial⟩,⟨.inl (congrArg (Ob.row 1 Aa) g1),rfl,trivial⟩,rfl,rfl⟩ ?_
 intro j hj
 have hcl:=Tn (fun x=>!(p x)) l (i+1+j)
 have hdl:=M0 (fun x=>!(p x)) l (i+1+j)
 have hget:=Aeo (fun x=>!(p x)) l (i+1+j) (i+1+j) (Nat.le_refl _)
 have s1:∀ h:i+1+j<l.length,Dz (fun x=>!(p x)) l (i+1+(j+1))=if (!(p l[i+1+j]))=true then Dz (fun x=>!(p x)) l (i+1+j)+1 else Dz (fun x=>!(p x)) l (i+1+j):=fun hlt=>by
  show Dz (fun x=>!(p x)) l (i+1+j+1)=_
  simp only[Dz,List.getElem?_eq_getElem hlt]
 have s2:∀ h:i+1+j<l.length,dfC (fun x=>!(p x)) l (i+1+(j+1))=if (!(p l[i+1+j]))=true then (dfC (fun x=>!(p x)) l (i+1+j)).set (Dz (fun x=>!(p x)) l (i+1+j)) l[i+1+j] else dfC (fun x=>!(p x)) l (i+1+j):=fun hlt=>by
  show dfC (fun x=>!(p x)) l (i+1+j+1)=_
  simp only[dfC,List.getElem?_eq_getElem hlt]
 have htk:=fun h=>Aa7 (fun x=>!(p x)) l (i+1+j) h
 obtain ⟨D,hD⟩:∃ D,dfC (fun x=>!(p x)) l (i+1+j)=D:=⟨_,rfl⟩
 obtain ⟨K,hK⟩:∃ K,Dz (fun x=>!(p x)) l (i+1+j)=K:=⟨_,rfl⟩
 rw[hD]at hdl hget s2 htk ⊢
 rw[hK]at hcl s1 s2 htk ⊢
 refine rg ?_;conv=>whnf
 refine⟨fun h=>?_,fun h=>?_⟩
 ·have hlt:i+1+j<l.length:=by have:=of_decide_eq_true h;omega
  have hfx:=hf l[i+1+j] (List.getElem_mem hlt)
  have s1:=s1 hlt
  have s2:=s2 hlt
  rw[List.getElem?_eq_getElem hlt,List.getElem?_eq_getElem qn]at hget
  have hget:=Option.some.inj hget
  obtain ⟨x,hx⟩:∃ x,l[i+1+j]=x:=⟨_,rfl⟩
  rw[hx]at hfx s1 s2 hget
  refine rg ?_;conv=>whnf
  refine⟨by omega,by simp;omega,?_⟩
  conv=>whnf
  refine⟨E,by omega,?_⟩
  rw[show D[((i+1+j:Nat):Int).toNat]'qn=x from hget]
  conv=>whnf
  refine Dv hfx E E E (by simp only[hin];rfl) E E ?_
  cases hpx:p x
  ·rw[hpx]at s1 s2
   (refine rg ?_;(conv=>whnf);refine aT ?_;refine rg ?_;conv=>whnf)
   refine⟨by omega,by simp;omega,?_⟩
   conv=>whnf
   refine⟨E,by omega,x,E,E,?_⟩
   conv=>whnf
   refine⟨by unfold I64;omega,?_⟩
   conv=>whnf
   refine⟨by unfold I64;omega,?_⟩
   conv=>whnf
   exact Ar [] qn ⟨⟨E,E,A2 _,hc0,congrArg Aa (congrArg Int.ofNat s1),E,congrArg (fun z=>SV.val (.int .i64 z)) qn,E,Y⟩,⟨.inl (congrArg (Ob.row 1 Aa) s2),E,Y⟩,E,E⟩
  ·rw[hpx]at s1 s2
   (refine rg ?_;(conv=>whnf);refine aF ?_;refine rg ?_;conv=>whnf)
   refine⟨by unfold I64;omega,?_⟩
   conv=>whnf
   exact Ar [] qn ⟨⟨E,E,A2 _,hc0,congrArg Aa (congrArg Int.ofNat s1),E,congrArg (fun z=>SV.val (.int .i64 z)) qn,E,Y⟩,⟨.inl (congrArg (Ob.row 1 Aa) s2),E,Y⟩,E,E⟩
 ·have hend:i+1+j=l.length:=by have:=of_decide_eq_false h;omega
  have hne:D≠[]:=fun h=>by rw[h]at hdl;simp at hdl;omega
  have htk:=htk qn
  rw[show l.take (i+1+j)=l from List.take_of_length_le qn]at htk
  refine Aex 0 [0] E hne (by simp;rfl) ?_
  intro b cap' hcap
  refine rg ?_;conv=>whnf
  refine Ah (Cg Γ.toTy E E E E (.inr ⟨_,_,E,E⟩) (.inl ⟨E,E⟩) qn qn) E E ?_
  refine rg ?_;conv=>whnf
  refine Ah (Ia Γ.toTy 0 (k:=K) E E E E qx E E E qn qn) E E ?_
  refine rg ?_;conv=>whnf
  refine Ah (Cg Γ.toTy E E E E (.inl ⟨E,E⟩) (.inr ⟨_,_,E,E⟩) qn qn) E E ?_
  refine rg ?_;conv=>whnf
  refine To 0 1000 [4] K E E (by rw[List.length_take];omega) (fun i hi=>?_) ?_
  ·rw[List.mem_singleton]at hi
   subst hi
   show SV.val (.slice (some (if cap'=0 then ⟨b,0,none⟩ else ⟨b,0 * 1,none⟩)) (K-0) (cap'-0))=_
   split<;>simp
  refine done E (.cons .tmp .nil) [(0,0),(1,1000)] _ (fun _ h=>h) E E ⟨Y,⟨.inl E,E,.inl ?_,E,Y⟩,E,E⟩
  rw[← htk]
  exact congrArg (Ob.row 1 Aa) (by rw[List.take_take,Nat.min_self])
def Jp (n:Net) (fw:List Bool) (at_ from_:Int) (ml:List Int):SV :=
 .agg [.sl 5 Bh n.devices,.sl 7 A9 n.ports,.sl 3 Cf n.links,.sl 6 Au n.domains,.sl 4 Bf n.statics,.sl 4 Bw n.floods,.sl 5 Ct n.vrfs,.sl 5 Dn n.irbs,.sl 1 Ad fw,Aa at_,Aa from_,.sl 1 Aa ml]
theorem Akf (n:Net) (fw:List Bool) (p:Int) (h0:0≤p) (hp:p<n.ports.length) (hl:(nth n.ports p).link<fw.length):Sy.Spec Tryz.prog 290 [Aq n,.sl 1 Ad fw,Aa p] [] (Ad (usableB n fw p)) []:=Ab Γ hm 100 F290 Tryz.ntmps290 rfl fun F hF=>by
 have hk:p.toNat<n.ports.length:=by omega
 have e1:nth n.ports p=n.ports[p.toNat]:=An hk
 have hu:=usableB.eq_1 n fw p
 generalize usableB n fw p=res at *
 rw[e1]at hu hl
 obtain ⟨q,hq⟩:∃ q,n.ports[p.toNat]'hk=q:=⟨_,rfl⟩
 rw[hq]at hu hl
 conv=>whnf
 refine⟨E,h0,hk,?_⟩
 rw[hq]
 conv=>whnf
 refine⟨fun h=>?_,fun h=>?_⟩
 ·rw[h,Bool.true_or]at hu
  subst hu
  refine rg ?_;conv=>whnf
  exact Ac E (.cons .tmp .nil) E E
 ·rw[h,Bool.false_or]at hu
  have h1:¬ q.link<0:=of_decide_eq_false h
  have h2:q.link.toNat<fw.length:=by omega
  rw[List.getElem?_eq_getElem h2]at hu
  refine rg ?_;conv=>whnf
  refine⟨E,by omega,h2,?_⟩
  conv=>whnf
  exact Ac E (.cons .tmp .nil) (congrArg Ad hu) E
theorem portsC (n:Net) (fw:List Bool) (at_ from_:Int) (ml:List Int) (p:Int) (h0:0≤p) (hp:p<n.ports.length) (hl:(nth n.ports p).link<fw.length) :
  Sy.Spec Tryz.prog 289 [Aa p,.ref 1 (.ref 12 (Jp n fw at_ from_ ml) 0) 0] [] (Ad (decide (p=from_) || !(usableB n fw p))) []:=Ab Γ hm 100 F289 Tryz.ntmps289 rfl fun F hF=>by
 have q:=Akf n fw p h0 hp hl
 conv=>whnf
 refine⟨fun h=>?_,fun h=>?_⟩
 ·have h1:p=from_:=by simpa using h
  refine rd qq ?_;conv=>whnf
  refine⟨qq,?_⟩
  conv=>whnf
  exact Ac E (.cons .tmp .nil) (congrArg Ad (by rw[decide_eq_true h1,Bool.true_or])) E
 ·have h1:¬ p=from_:=by simpa using h
  refine rd qq ?_;conv=>whnf
  refine Ay q F290 E E E qq E ?_
  refine rd qq ?_;conv=>whnf
  refine⟨qq,?_⟩
  conv=>whnf
  exact Ac E (.cons .tmp .nil) (congrArg Ad (by rw[decide_eq_false h1,Bool.false_or])) E
def Aev (n:Net) (fw:List Bool) (l:List Int):Prop:=∀ p∈l,0≤p∧p<n.ports.length∧(nth n.ports p).link<fw.length
theorem Ab8 (n:Net) (fw:List Bool) (at_ from_:Int) (ml l:List Int) (hl:Am l) (hp:Aev n fw l) :
  Sy.Spec Tryz.prog 241 [.ref 12 (Jp n fw at_ from_ ml) 0,.sl 1 Aa l] [] (.sl 1 Aa (De n fw from_ l)) []:=Ab Γ hm 100 F241 Tryz.ntmps241 rfl fun F hF=>by
 have q:=Th l (fun p=>decide (p=from_) || !(usableB n fw p)) 289 [] [.ref 1 (.ref 12 (Jp n fw at_ from_ ml) 0) 0] rfl rfl (fun p h=>⟨⟨_,_,F289⟩,portsC n fw at_ from_ ml p (hp p h).1 (hp p h).2.1 (hp p h).2.2⟩) hl
 unfold Am at hl
 conv=>whnf
 refine B0 2 1 (.ref 12 (Jp n fw at_ from_ ml) 0) E E E ?_
 refine rg ?_;conv=>whnf
 refine Ah (Ai [(0,55)] E F95 (Yu l hl) E Y E ⟨.inr E,Y⟩) E E ?_
 refine rg ?_;conv=>whnf
 refine Ah (Ai [(0,55),(1,56)] E F291 q E ⟨E,Y⟩ E ⟨.inl E,.inr E,Y⟩) E E ?_
 refine rg ?_;conv=>whnf
 refine At 56 E ?_
 exact Ac E (.cons .tmp .nil) E E
theorem Aeb (n:Net) (hn:n.Fin) (fw:List Bool) (dom from_:Int) (ml:List Int) (hd:Aj dom n.domains.length=true) :
  Sy.Spec Tryz.prog 242 [.ref 12 (Jp n fw dom from_ ml) 0] [] (.sl 1 Aa (peersOut n dom from_)) []:=Ab Γ hm 100 F242 Tryz.ntmps242 rfl fun F hF=>by
 have hdi:=Bm hd
 have hd0:0≤dom:=hdi.1
 have hkd:dom.toNat<n.domains.length:=by omega
 have e2:nth n.domains dom=n.domains[dom.toNat]:=An hkd
 have hpe:=hn.peers _ (List.getElem_mem hkd)
 have hres:=peersOut.eq_1 n dom from_
 generalize peersOut n dom from_=res at *
 rw[e2]at hres
 obtain ⟨d,hdd⟩:∃ d,n.domains[dom.toNat]'hkd=d:=⟨_,rfl⟩
 rw[hdd]at hres hpe
 have qc:=Jh d.peers hpe
 conv=>whnf
 refine⟨fun h=>?_,fun h=>?_⟩
 ·rw[if_pos (by simpa using h)]at hres
  subst hres
  refine rg ?_;conv=>whnf
  refine Ao 2 1 Aa E ?_
  exact Ac E (.cons .tmp .nil) E E
 ·rw[if_neg (by simpa using h)]at hres
  subst hres
  refine rg ?_;conv=>whnf
  refine⟨E,hd0,hkd,?_⟩
  rw[hdd]
  conv=>whnf
  refine Ay qc F95 E E E qq E ?_
  refine rd qq ?_;conv=>whnf
  refine⟨qq,?_⟩
  conv=>whnf
  exact Ac E (.cons .tmp .nil) E E
def K6 (n:Net) (fw:List Bool) (dom:Int):Bool:=Aj dom n.domains.length && decide (fw.length=n.links.length) && Af n
theorem Ad7 (n:Net) (hn:n.Fin) (fw:List Bool) (dom from_:Int) (h:K6 n fw dom=false) :
  Sy.Spec Tryz.prog 240 [Aq n,.sl 1 Ad fw,Aa dom,Aa from_] [] (.tup [.val (.pointer none),Ad false]) []:=Ab Γ hm 100 F240 Tryz.ntmps240 rfl fun F hF=>by
 have qr:=Bk n hn
 conv=>whnf
 refine⟨fun h1=>?_,fun h1=>?_⟩
 ·(refine rg ?_;(conv=>whnf);refine aT ?_;refine rg ?_;(conv=>whnf);refine aT ?_;refine rg ?_;(conv=>whnf);refine aT ?_;refine rg ?_;conv=>whnf)
  exact Ac E (.cons .tmp (.cons .tmp .nil)) E E
 refine rg ?_;conv=>whnf
 refine⟨fun h2=>?_,fun h2=>?_⟩
 ·(refine rg ?_;(conv=>whnf);refine aT ?_;refine rg ?_;(conv=>whnf);refine aT ?_;refine rg ?_;conv=>whnf)
  exact Ac E (.cons .tmp (.cons .tmp .nil)) E E
 refine rg ?_;conv=>whnf
 refine⟨fun h3=>?_,fun h3=>?_⟩
 ·(refine rg ?_;(conv=>whnf);refine aT ?_;refine rg ?_;conv=>whnf)
  exact Ac E (.cons .tmp (.cons .tmp .nil)) E E
 refine rg ?_;conv=>whnf
 refine Ag qr F67 E E E E E ?_
 cases hbn:Af n
 ·(refine rg ?_;(conv=>whnf);refine aT ?_;refine rg ?_;conv=>whnf)
  exact Ac E (.cons .tmp (.cons .tmp .nil)) E E
 ·exfalso
  have h4:Aj dom n.domains.length=true:=Cu ⟨by simp at h1;omega,by simp at h2;omega⟩
  have h5:fw.length=n.links.length:=by simp at h3;omega
  simp[K6,h4,h5,hbn]at h
theorem Ahx (n:Net) (hn:n.Fin) (fw:List Bool) (dom from_:Int) (h:K6 n fw dom=true) :
  Sy.Spec Tryz.prog 240 [Aq n,.sl 1 Ad fw,Aa dom,Aa from_] [] (.tup [.ref 12 (Jp n fw dom from_ (Ax n dom)) 0,Ad (decide (from_=-1) || decide (from_=-2) || inB (Ax n dom) from_)]) []:=Ab Γ hm 100 F240 Tryz.ntmps240 rfl fun F hF=>by
 have qr:=Bk n hn
 simp only[K6,Bool.and_eq_true,decide_eq_true_eq]at h
 obtain ⟨⟨hd,hfw⟩,hbn⟩:=h
 rw[hbn]at qr
 have hdi:=Bm hd
 have qm:=Vy n hn dom
 have qc:=C6 (Er n dom) from_ (Um n hn dom)
 have hmt:Er n dom=Ax n dom:=by rw[Er,if_pos ⟨⟨hdi.1,hdi.2⟩,hbn⟩]
 rw[hmt]at qm qc
 generalize Ax n dom=ml at *
 conv=>whnf
 refine⟨fun h1=>absurd h1 (by simp;omega),fun _=>?_⟩
 refine rg ?_;conv=>whnf
 refine⟨fun h1=>absurd h1 (by simp;omega),fun _=>?_⟩
 refine rg ?_;conv=>whnf
 refine⟨fun h1=>absurd h1 (by simp;omega),fun _=>?_⟩
 refine rg ?_;conv=>whnf
 refine Ag qr F67 E E E E E ?_
 (refine rg ?_;(conv=>whnf);refine aF ?_;refine rg ?_;conv=>whnf)
 refine Ay qm F288 E E E qq E ?_
 refine rd qq ?_;conv=>whnf
 refine⟨qq,?_⟩
 conv=>whnf
 refine⟨fun h1=>?_,fun h1=>?_⟩
 ·have h2:from_=-1:=by simpa using h1
  refine B0 41 12 (Jp n fw dom from_ ml) E E E ?_
  (refine rg ?_;(conv=>whnf);refine aT ?_;refine rg ?_;conv=>whnf)
  exact Ac E (.cons .tmp (.cons .tmp .nil)) (congrArg (fun z=>SV.tup [_,Ad z]) (by simp[h2])) E
 have h2:¬ from_=-1:=by simpa using h1
 refine B0 41 12 (Jp n fw dom from_ ml) E E E ?_
 refine rg ?_;conv=>whnf
 refine⟨fun h3=>?_,fun h3=>?_⟩
 ·have h4:from_=-2:=by simpa using h3
  refine rg ?_;conv=>whnf
  exact Ac E (.cons .tmp (.cons .tmp .nil)) (congrArg (fun z=>SV.tup [_,Ad z]) (by simp[h4])) E
 have h4:¬ from_=-2:=by simpa using h3
 refine rg ?_;conv=>whnf
 refine Ag qc F86 E E E E E ?_
 refine rg ?_;conv=>whnf
 exact Ac E (.cons .tmp (.cons .tmp .nil)) (congrArg (fun z=>SV.tup [_,Ad z]) (by simp[h2,h4])) E
theorem X0 {n:Net} (hb:Af n=true) {p:Int} (h0:0≤p) (hp:p<n.ports.length):(nth n.ports p).link<n.links.length:=by
 have hk:p.toNat<n.ports.length:=by omega
 have e1:nth n.ports p=n.ports[p.toNat]:=An hk
 rw[e1]
 by_cases hl:0≤n.ports[p.toNat].link
 ·have:=K2 hb hk hl
  omega
 ·omega
theorem Ui {n:Net} {fw:List Bool} (hb:Af n=true) (hf:fw.length=n.links.length) {l:List Int} (h:∀ p∈l,0≤p∧p<n.ports.length):Aev n fw l:=fun p hp =>
 ⟨(h p hp).1,(h p hp).2,by rw[hf];exact X0 hb (h p hp).1 (h p hp).2⟩
theorem Dj {n:Net} {dom:Int}:∀ p∈Ax n dom,0≤p∧p<n.ports.length:=fun p hp=>by
 rw[Ax,Q6]at hp
 exact⟨hp.1,hp.2.1⟩
theorem Iw {n:Net} (hn:n.Fin) (dom:Int):Am (Ax n dom):=by
 have h1:=Dy (Mf n (nth n.domains dom)) n.ports.length
 have h2:=hn.ports
 unfold Am at *
 rw[Ax]
 omega
theorem Ki (n:Net) (fw:List Bool) (dom from_:Int):J6 n fw dom from_=(K6 n fw dom && (decide (from_=-1) || decide (from_=-2) || inB (Ax n dom) from_)):=rfl
theorem floodS (n:Net) (hn:n.Fin) (fw:List Bool) (dom from_:Int) :
  Sy.Spec Tryz.prog 171 [Aq n,.sl 1 Ad fw,Aa dom,Aa from_] [] (.tup [.sl 1 Aa (floodT n fw dom from_).1,.sl 1 Aa (floodT n fw dom from_).2.1,Aa (floodT n fw dom from_).2.2]) []:=Ab Γ hm 100 F171 Tryz.ntmps171 rfl fun F hF=>by
 have hres:=floodT.eq_1 n fw dom from_
 generalize floodT n fw dom from_=res at *
 rw[Ki]at hres
 cases hbase:K6 n fw dom
 ·rw[hbase,Bool.false_and,if_pos rfl]at hres
  subst hres
  have q:=Ad7 n hn fw dom from_ hbase
  conv=>whnf
  refine Ag q F240 E E E E E ?_
  (refine rg ?_;(conv=>whnf);refine aT ?_;refine rg ?_;conv=>whnf)
  refine Ao 8 1 Aa E ?_
  refine Ao 9 1 Aa E ?_
  exact Ac E (.cons .tmp (.cons .tmp (.cons .tmp .nil))) E E
 rw[hbase,Bool.true_and]at hres
 have q:=Ahx n hn fw dom from_ hbase
 have hb2:=hbase
 simp only[K6,Bool.and_eq_true,decide_eq_true_eq]at hb2
 obtain ⟨⟨hd,hfw⟩,hbn⟩:=hb2
 have qp:=Ab8 n fw dom from_ (Ax n dom) (Ax n dom) (Iw hn dom) (Ui hbn hfw Dj)
 have qe:=Aeb n hn fw dom from_ (Ax n dom) hd
 generalize (decide (from_=-1) || decide (from_=-2) || inB (Ax n dom) from_)=ok at *
 generalize Ax n dom=ml at *
 conv=>whnf
 refine Ag q F240 E E E E E ?_
 cases ok
 ·rw[if_pos rfl]at hres
  subst hres
  (refine rg ?_;(conv=>whnf);refine aT ?_;refine rg ?_;conv=>whnf)
  refine Ao 8 1 Aa E ?_
  refine Ao 9 1 Aa E ?_
  exact Ac E (.cons .tmp (.cons .tmp (.cons .tmp .nil))) E E
 rw[if_neg qx]at hres
 subst hres
 (refine rg ?_;(conv=>whnf);refine aF ?_;refine rg ?_;conv=>whnf)
 refine Ag qp F241 E E E E E ?_
 refine rg ?_;conv=>whnf
 refine Ag qe F242 E E E E E ?_
 refine rg ?_;conv=>whnf
 exact Ac E (.cons .tmp (.cons .tmp (.cons .tmp .nil))) E E
theorem O0 (l:List Static) (p:Static→Bool) (f:FuncId) (first cap:List SV) (hc:(SV.clo (.func f) first cap).inn []=true) (hf:∀ x∈l,Hj Tryz.prog f (first++[Bf x]++cap) (Ad (p x))) (hl:Am l) :
  Sy.Spec Tryz.prog 346 [.sl 4 Bf l,.clo (.func f) first cap] [] (Aa (Dl p l)) []:=Ab Γ hm 100 F346 Tryz.ntmps346 rfl fun F hF=>by
 unfold Am at hl
 have hin:∀ x:Static,B1 [] (first++[Bf x]++cap)=true:=fun x=>Cn hc rfl
 conv=>whnf
 refine Bc l.length (fun j=>Em (fun _ x=>!(p x)) l j) (fun j=>[(0,.sl 4 Bf l),(1,.clo (.func f) first cap),(7,Aa l.length),(8,Aa j)]) (fun _=>[]) [] (Be _ _) ⟨⟨E,E,A2 _,hc,E,E,E,E,Y⟩,Y,E,E⟩ ?_
 intro j hj hI
 refine rg ?_;conv=>whnf
 refine⟨fun h=>?_,fun h=>?_⟩
 ·have h:=of_decide_eq_true h
  have hj2:j<l.length:=by omega
  refine rg ?_;conv=>whnf
  refine⟨E,by omega,by omega,?_⟩
  conv=>whnf
  refine Dv (hf l[j] (List.getElem_mem hj2)) E E E (by simp only[hin];rfl) E E ?_
  refine rg ?_;conv=>whnf
  refine⟨fun h2=>?_,fun h2=>?_⟩
  ·refine rg ?_;conv=>whnf
   refine Ac E (.cons .tmp .nil) (congrArg Aa ?_) E
   exact Ed hj2 (fun i hi hij=>by simpa using hI i hi hij) h2
  ·refine rg ?_;conv=>whnf
   refine⟨by unfold I64;omega,?_⟩
   conv=>whnf
   exact Ba [] hI hj2 (Bb hI hj2 (by simp[h2])) ⟨⟨E,E,A2 _,hc,E,E,E,E,Y⟩,Y,E,E⟩
 ·have h:=of_decide_eq_false h
  refine rg ?_;conv=>whnf
  refine Ac E (.cons .tmp .nil) (congrArg Aa ?_) E
  exact Ez (fun i hi=>by simpa using hI i hi qn)
theorem entryC (dom:Int) (m:Nat) (s:Static):Sy.Spec Tryz.prog 347 [Bf s,.ref 1 (Aa dom) 0,.ref 1 (A7 m) 0] [] (Ad (decide (s.domain=dom) && decide (s.mac=(m:Int)))) []:=Ab Γ hm 100 F347 Tryz.ntmps347 rfl fun F hF=>by
 conv=>whnf
 refine⟨fun h=>?_,fun h=>?_⟩
 ·refine rg ?_;conv=>whnf
  refine Ac E (.cons .tmp .nil) (congrArg Ad ?_) E
  have h1:s.domain=dom:=by simpa using h
  rw[decide_eq_true h1,Bool.true_and,Bool.eq_iff_iff]
  simp
 ·refine rg ?_;conv=>whnf
  refine Ac E (.cons .tmp .nil) (congrArg Ad ?_) E
  have h1:¬ s.domain=dom:=by simpa using h
  rw[decide_eq_false h1,Bool.false_and]
theorem entryI (n:Net) (hn:n.Fin) (dom:Int) (m:Nat):Sy.Spec Tryz.prog 333 [Aq n,Aa dom,A7 m] [] (Aa (C0 n dom m)) []:=Ab Γ hm 100 F333 Tryz.ntmps333 rfl fun F hF=>by
 have q:=O0 n.statics (fun s:Static=>decide (s.domain=dom) && decide (s.mac=(m:Int))) 347 [] [.ref 1 (Aa dom) 0,.ref 1 (A7 m) 0] rfl (fun x _=>⟨⟨_,_,F347⟩,entryC dom m x⟩) hn.statics
 conv=>whnf
 refine B0 4 1 (Aa dom) E E E ?_
 refine B0 5 1 (A7 m) E E E ?_
 refine rg ?_;conv=>whnf
 refine Ag q F346 E E E E E ?_
 refine rg ?_;conv=>whnf
 exact Ac E (.cons .tmp .nil) E E
def staticP (n:Net) (dom:Int) (m:Nat):Int:=if 0≤C0 n dom m then (nth n.statics (C0 n dom m)).port else -1
theorem Adi (n:Net) (hn:n.Fin) (hb:Af n=true) (dom:Int) (m:Nat):Sy.Spec Tryz.prog 306 [Aq n,Aa dom,A7 m] [] (Aa (staticP n dom m)) []:=Ab Γ hm 100 F306 Tryz.ntmps306 rfl fun F hF=>by
 have q:=entryI n hn dom m
 have qr:=Bk n hn
 rw[hb]at qr
 have hlt:C0 n dom m<n.statics.length:=E7 _ _
 have hres:=staticP.eq_1 n dom m
 generalize staticP n dom m=res at *
 generalize C0 n dom m=i at *
 conv=>whnf
 refine Ag q F333 E E E E E ?_
 refine rg ?_;conv=>whnf
 refine⟨fun h=>?_,fun h=>?_⟩
 ·rw[if_neg (by simp at h;omega)]at hres
  subst hres
  (refine rg ?_;(conv=>whnf);refine aT ?_;refine rg ?_;conv=>whnf)
  exact Ac E (.cons .tmp .nil) E E
 ·have h0:0≤i:=by simp at h;omega
  have hk:i.toNat<n.statics.length:=by omega
  have e1:nth n.statics i=n.statics[i.toNat]:=An hk
  rw[if_pos h0,e1]at hres
  refine rg ?_;conv=>whnf
  refine Ag qr F67 E E E E E ?_
  (refine rg ?_;(conv=>whnf);refine aF ?_;refine rg ?_;conv=>whnf)
  refine⟨E,h0,hk,?_⟩
  conv=>whnf
  exact Ac E (.cons .tmp .nil) (congrArg Aa hres) E
def knownT (n:Net) (fw:List Bool) (t:List EntryM) (dom from_:Int) (m:Nat):List Int × List Int × Bool :=
 if 0≤staticP n dom m then (De n fw from_ [staticP n dom m],[],true)
 else if (findE t m).2=false then ([],[],false)
 else if 0≤(findE t m).1∧inB (Ax n dom) (findE t m).1=true then (De n fw from_ [(findE t m).1],[],true)
 else if (findE t m).1<0∧inB (nth n.domains dom).peers (-1-(findE t m).1)=true then (if from_=-1 then ([],[],true) else ([],[-1-(findE t m).1],true))
 else ([],[],false)
theorem Sd {n:Net} (hb:Af n=true) (dom:Int) (m:Nat) (h:0≤staticP n dom m):staticP n dom m<n.ports.length:=by
 unfold staticP at h ⊢
 split at h
 ·rename_i h0
  rw[if_pos h0]
  have hlt:C0 n dom m<n.statics.length:=E7 _ _
  have hk:(C0 n dom m).toNat<n.statics.length:=by omega
  simp only[Af,Bool.and_eq_true]at hb
  have:=allB_iff.1 hb.1.1.1.2 _ hk
  simp only[Lf,Bool.and_eq_true,Aj,decide_eq_true_eq]at this
  rw[An hk]
  exact this.1.1.2.2
 ·omega
theorem knownS (n:Net) (hn:n.Fin) (fw:List Bool) (t:List EntryM) (dom from_:Int) (m:Nat) (hl:Am t) (hw:I64 (-1-(findE t m).1)) (hbase:K6 n fw dom=true) :
  Sy.Spec Tryz.prog 249 [.ref 12 (Jp n fw dom from_ (Ax n dom)) 0,.sl 3 As t,A7 m] [] (.tup [.sl 1 Aa (knownT n fw t dom from_ m).1,.sl 1 Aa (knownT n fw t dom from_ m).2.1,Ad (knownT n fw t dom from_ m).2.2]) []:=Ab Γ hm 100 F249 Tryz.ntmps249 rfl fun F hF=>by
 simp only[K6,Bool.and_eq_true,decide_eq_true_eq]at hbase
 obtain ⟨⟨hd,hfw⟩,hbn⟩:=hbase
 have hdi:=Bm hd
 have hd0:0≤dom:=hdi.1
 have hkd:dom.toNat<n.domains.length:=by omega
 have e2:nth n.domains dom=n.domains[dom.toNat]:=An hkd
 have hpe:=hn.peers _ (List.getElem_mem hkd)
 have hres:=knownT.eq_1 n fw t dom from_ m
 have qs:=Adi n hn hbn dom m
 have hsp:=Sd hbn dom m
 have qf:=Ahi t m hl
 have qp:∀ p:Int,0≤p→p<n.ports.length→_:=fun p h0 h1=>Ab8 n fw dom from_ (Ax n dom) [p] (by unfold Am;simp) (Ui hbn hfw (l:=[p]) (fun x hx=>by rw[List.mem_singleton]at hx;subst hx;exact⟨h0,h1⟩))
 have hmem:∀ p,inB (Ax n dom) p=true→0≤p∧p<n.ports.length:=fun p hp=>Dj p (inB_mem.1 hp)
 have qc:=fun x=>C6 (Ax n dom) x (Iw hn dom)
 rw[e2]at hres
 obtain ⟨d,hdd⟩:∃ d,n.domains[dom.toNat]'hkd=d:=⟨_,rfl⟩
 rw[hdd]at hres hpe
 have qc2:=fun x=>C6 d.peers x hpe
 generalize knownT n fw t dom from_ m=res at *
 generalize staticP n dom m=sp at *
 generalize findE t m=fe at *
 obtain ⟨w,ok⟩:=fe
 dsimp only at hres hw qf
 generalize Ax n dom=ml at *
 conv=>whnf
 refine Ay qs F306 E E E qq E ?_
 refine rd qq ?_;conv=>whnf
 refine⟨qq,?_⟩
 conv=>whnf
 refine⟨fun h1=>?_,fun h1=>?_⟩
 ·have h2:0≤sp:=by simpa using h1
  rw[if_pos h2]at hres
  subst hres
  refine rg ?_;conv=>whnf
  refine Eg 25 Aa [sp] E E ?_
  refine At 25 E ?_
  refine Ag (qp sp h2 (hsp h2)) F241 E E E E E ?_
  refine rg ?_;conv=>whnf
  refine Ao 7 1 Aa E ?_
  exact Ac E (.cons .tmp (.cons .tmp (.cons .tmp .nil))) E E
 have h2:¬ 0≤sp:=by simp at h1;omega
 rw[if_neg h2]at hres
 refine rg ?_;conv=>whnf
 refine Ag qf F307 E E E E E ?_
 cases ok
 ·rw[if_pos rfl]at hres
  subst hres
  (refine rg ?_;(conv=>whnf);refine aT ?_;refine rg ?_;conv=>whnf)
  refine Ao 6 1 Aa E ?_
  refine Ao 7 1 Aa E ?_
  exact Ac E (.cons .tmp (.cons .tmp (.cons .tmp .nil))) E E
 rw[if_neg qx]at hres
 (refine rg ?_;(conv=>whnf);refine aF ?_;refine rg ?_;conv=>whnf)
 refine⟨fun h3=>?_,fun h3=>?_⟩
 ·have h4:0≤w:=by simpa using h3
  refine rg ?_;conv=>whnf
  refine Ag (qc w) F86 E E E E E ?_
  cases hin:inB ml w
  ·rw[if_neg (by simp[hin]),if_neg qn]at hres
   subst hres
   (refine rg ?_;(conv=>whnf);refine aF ?_;refine rg ?_;conv=>whnf)
   refine⟨fun h5=>absurd h5 (by simp;omega),fun _=>?_⟩
   refine rd qq ?_;conv=>whnf
   refine⟨qq,?_⟩
   ((conv=>whnf);refine aF ?_;refine rg ?_;conv=>whnf)
   refine Ao 6 1 Aa E ?_
   refine Ao 7 1 Aa E ?_
   exact Ac E (.cons .tmp (.cons .tmp (.cons .tmp .nil))) E E
  ·rw[if_pos ⟨h4,hin⟩]at hres
   subst hres
   (refine rg ?_;(conv=>whnf);refine aT ?_;refine rg ?_;conv=>whnf)
   refine Eg 49 Aa [w] E E ?_
   refine At 49 E ?_
   refine Ag (qp w h4 (hmem w hin).2) F241 E E E E E ?_
   refine rg ?_;conv=>whnf
   refine Ao 7 1 Aa E ?_
   exact Ac E (.cons .tmp (.cons .tmp (.cons .tmp .nil))) E E
 have h4:¬ 0≤w:=by simp at h3;omega
 rw[if_neg qn]at hres
 (refine rg ?_;(conv=>whnf);refine aF ?_;refine rg ?_;conv=>whnf)
 refine⟨fun h5=>?_,fun h5=>absurd h5 (by simp;omega)⟩
 refine rd qq ?_;conv=>whnf
 refine⟨E,hd0,hkd,?_⟩
 rw[hdd]
 conv=>whnf
 refine⟨hw,?_⟩
 conv=>whnf
 refine Ay (qc2 (-1-w)) F86 E E E qq E ?_
 cases hin:inB d.peers (-1-w)
 ·rw[if_neg (by simp[hin])]at hres
  subst hres
  refine rd qq ?_;conv=>whnf
  refine⟨qq,?_⟩
  ((conv=>whnf);refine aF ?_;refine rg ?_;conv=>whnf)
  refine Ao 6 1 Aa E ?_
  refine Ao 7 1 Aa E ?_
  exact Ac E (.cons .tmp (.cons .tmp (.cons .tmp .nil))) E E
 rw[if_pos ⟨by omega,hin⟩]at hres
 refine rd qq ?_;conv=>whnf
 refine⟨qq,?_⟩
 ((conv=>whnf);refine aT ?_;refine rg ?_;conv=>whnf)
 refine⟨fun h6=>?_,fun h6=>?_⟩
 ·rw[if_pos (by simpa using h6)]at hres
  subst hres
  refine rg ?_;conv=>whnf
  refine Ao 6 1 Aa E ?_
  refine Ao 7 1 Aa E ?_
  exact Ac E (.cons .tmp (.cons .tmp (.cons .tmp .nil))) E E
 ·rw[if_neg (by simpa using h6)]at hres
  subst hres
  refine rg ?_;conv=>whnf
  refine⟨hw,?_⟩
  conv=>whnf
  refine Ao 6 1 Aa E ?_
  refine Eg 78 Aa [-1-w] E E ?_
  refine At 78 E ?_
  exact Ac E (.cons .tmp (.cons .tmp (.cons .tmp .nil))) E E
theorem M8 {n:Net} (hb:Af n=true) (dom:Int) (m:Nat):(0≤staticP n dom m↔0≤C0 n dom m)∧(0≤C0 n dom m→staticP n dom m=(nth n.statics (C0 n dom m)).port):=by
 refine⟨⟨fun h=>?_,fun h=>?_⟩,fun h=>by rw[staticP,if_pos h]⟩
 ·unfold staticP at h
  split at h
  ·assumption
  ·omega
 ·rw[staticP,if_pos h]
  have hlt:C0 n dom m<n.statics.length:=E7 _ _
  have hk:(C0 n dom m).toNat<n.statics.length:=by omega
  simp only[Af,Bool.and_eq_true]at hb
  have:=allB_iff.1 hb.1.1.1.2 _ hk
  simp only[Lf,Bool.and_eq_true,Aj,decide_eq_true_eq]at this
  rw[An hk]
  exact this.1.1.2.1
theorem Alh {n:Net} {fw:List Bool} {t:List EntryM} {dom from_:Int} {m:Nat} (hb:Af n=true) (hr:J6 n fw dom from_=true) (hg:E1 m=false) :
  B9 n fw t dom from_ m=if (knownT n fw t dom from_ m).2.2=true then ((knownT n fw t dom from_ m).1,(knownT n fw t dom from_ m).2.1,0) else (De n fw from_ (Ax n dom),peersOut n dom from_,0):=by
 obtain ⟨h1,h2⟩:=M8 hb dom m
 rw[B9,if_neg (by rw[hr];decide),if_neg (by rw[hg];decide)]
 unfold knownT
 by_cases hs:0≤C0 n dom m
 ·rw[if_pos hs,if_pos (h1.2 hs),h2 hs];rfl
 rw[if_neg hs,if_neg (fun h=>hs (h1.1 h))]
 generalize findE t m=fe
 obtain ⟨w,ok⟩:=fe
 cases ok
 ·simp
 simp only[Bool.true_eq_false,if_false,true_and]
 by_cases ha:0≤w∧inB (Ax n dom) w=true
 ·rw[if_pos ha,if_pos ha];rfl
 rw[if_neg ha,if_neg ha]
 by_cases hc:w<0∧inB (nth n.domains dom).peers (-1-w)=true
 ·rw[if_pos hc,if_pos hc]
  split<;>rfl
 ·rw[if_neg hc,if_neg hc];rfl
theorem Ali (n:Net) (hn:n.Fin) (fw:List Bool) (t:List EntryM) (dom from_:Int) (m:Nat) (hl:Am t) (hw:I64 (-1-(findE t m).1)) (hm64:m<18446744073709551616) :
  Sy.Spec Tryz.prog 176 [Aq n,.sl 1 Ad fw,.sl 3 As t,Aa dom,Aa from_,A7 m] [] (.tup [.sl 1 Aa (B9 n fw t dom from_ m).1,.sl 1 Aa (B9 n fw t dom from_ m).2.1,Aa (B9 n fw t dom from_ m).2.2]) []:=Ab Γ hm 100 F176 Tryz.ntmps176 rfl fun F hF=>by
 cases hbase:K6 n fw dom
 ·have hres:B9 n fw t dom from_ m=([],[],2):=by
   rw[B9,if_pos (by rw[Ki,hbase];rfl)]
  rw[hres]
  have q:=Ad7 n hn fw dom from_ hbase
  conv=>whnf
  refine Ag q F240 E E E E E ?_
  (refine rg ?_;(conv=>whnf);refine aT ?_;refine rg ?_;conv=>whnf)
  refine Ao 12 1 Aa E ?_
  refine Ao 13 1 Aa E ?_
  exact Ac E (.cons .tmp (.cons .tmp (.cons .tmp .nil))) E E
 have q:=Ahx n hn fw dom from_ hbase
 have qk:=knownS n hn fw t dom from_ m hl hw hbase
 have qg:=I9 m hm64
 have hb2:=hbase
 simp only[K6,Bool.and_eq_true,decide_eq_true_eq]at hb2
 obtain ⟨⟨hd,hfw⟩,hbn⟩:=hb2
 have qp:=Ab8 n fw dom from_ (Ax n dom) (Ax n dom) (Iw hn dom) (Ui hbn hfw Dj)
 have qe:=Aeb n hn fw dom from_ (Ax n dom) hd
 have hroom:=Ki n fw dom from_
 rw[hbase,Bool.true_and]at hroom
 have hbad:J6 n fw dom from_=false→B9 n fw t dom from_ m=([],[],2):=fun h=>by rw[B9,if_pos h]
 have hgrp:J6 n fw dom from_=true→E1 m=true→B9 n fw t dom from_ m=(De n fw from_ (Ax n dom),peersOut n dom from_,0):=fun h h2=>by
  rw[B9,if_neg (by rw[h];decide),if_pos h2]
 have hkn:=fun h h2=>@Alh n fw t dom from_ m hbn h h2
 generalize B9 n fw t dom from_ m=res at *
 generalize knownT n fw t dom from_ m=kn at *
 obtain ⟨kp,ke,ko⟩:=kn
 generalize J6 n fw dom from_=rm at *
 generalize (decide (from_=-1) || decide (from_=-2) || inB (Ax n dom) from_)=ok at *
 subst hroom
 generalize Ax n dom=ml at *
 dsimp only at hkn qk
 conv=>whnf
 refine Ag q F240 E E E E E ?_
 cases rm
 ·rw[hbad rfl]
  (refine rg ?_;(conv=>whnf);refine aT ?_;refine rg ?_;conv=>whnf)
  refine Ao 12 1 Aa E ?_
  refine Ao 13 1 Aa E ?_
  exact Ac E (.cons .tmp (.cons .tmp (.cons .tmp .nil))) E E
 (refine rg ?_;(conv=>whnf);refine aF ?_;refine rg ?_;conv=>whnf)
 refine Ag qg F162 E E E E E ?_
 cases hg:E1 m
 ·have hkn:=hkn rfl hg
  (refine rg ?_;(conv=>whnf);refine aT ?_;refine rg ?_;conv=>whnf)
  refine Ag qk F249 E E E E E ?_
  cases ko
  ·rw[if_neg qx]at hkn
   subst hkn
   (refine rg ?_;(conv=>whnf);refine aF ?_;refine rg ?_;conv=>whnf)
   refine Ag qp F241 E E E E E ?_
   refine rg ?_;conv=>whnf
   refine Ag qe F242 E E E E E ?_
   refine rg ?_;conv=>whnf
   exact Ac E (.cons .tmp (.cons .tmp (.cons .tmp .nil))) E E
  ·rw[if_pos rfl]at hkn
   subst hkn
   (refine rg ?_;(conv=>whnf);refine aT ?_;refine rg ?_;conv=>whnf)
   exact Ac E (.cons .tmp (.cons .tmp (.cons .tmp .nil))) E E
 ·rw[hgrp rfl hg]
  (refine rg ?_;(conv=>whnf);refine aF ?_;refine rg ?_;conv=>whnf)
  refine Ag qp F241 E E E E E ?_
  refine rg ?_;conv=>whnf
  refine Ag qe F242 E E E E E ?_
  refine rg ?_;conv=>whnf
  exact Ac E (.cons .tmp (.cons .tmp (.cons .tmp .nil))) E E
theorem Yy (t:List EntryM) (q:QueuedM) (now:Int) (ht:TabOK t) (hq:QueuedOK q):Sy.Spec Tryz.prog 172 [.sl 3 As t,A4 q,Aa now] [] (.sl 3 As (learnQ t q now)) []:=Ab Γ hm 100 F172 Tryz.ntmps172 rfl fun F hF=>by
 have hres:=learnQ.eq_1 t q now
 generalize learnQ t q now=res at *
 have hl:=ht.short
 have hl2:=hl
 unfold Am at hl2
 have hs:=hq.frame.src
 have h1:=hq.peer
 conv=>whnf
 refine⟨fun h=>?_,fun h=>?_⟩
 ·rw[if_pos (by simpa using h)]at hres
  subst hres
  refine rg ?_;conv=>whnf
  refine Ah (Ai [(0,55)] E F48 (K4 res hl2) E Y E ⟨.inr E,Y⟩) E E ?_
  refine At 55 E ?_
  refine rg ?_;conv=>whnf
  exact Ac E (.cons .tmp .nil) E E
 rw[if_neg (by simpa using h)]at hres
 clear h
 refine rg ?_;conv=>whnf
 refine⟨fun h=>?_,fun h=>?_⟩
 ·rw[if_pos (by simpa using h)]at hres
  subst hres
  refine rg ?_;conv=>whnf
  refine⟨by unfold I64;omega,?_⟩
  conv=>whnf
  refine Ag (Wg t q.frame.src (-1-q.peer) now hl ht.mac qn) F243 E E E E E ?_
  refine rg ?_;conv=>whnf
  exact Ac E (.cons .tmp .nil) E E
 rw[if_neg (by simpa using h)]at hres
 subst hres
 refine rg ?_;conv=>whnf
 refine Ag (Wg t q.frame.src q.from_ now hl ht.mac qn) F243 E E E E E ?_
 refine rg ?_;conv=>whnf
 exact Ac E (.cons .tmp .nil) E E
def Afr (k p d:Int):OutM:=⟨k,p,d,[],noF,0⟩
theorem Ak2 (k p d:Int) (b:List UInt8) (e:Int):Ov (Afr k p d) (b,e)=if e≠0 then ⟨5,p,d,[],noF,e⟩ else ⟨k,p,d,b,noF,0⟩:=rfl
theorem M2 (l:List OutM) (k p d:Int) (b:List UInt8) (e:Int) (hl:l.length<100000000000) :
  Sy.Spec Tryz.prog 175 [Df (Afr k p d),.sl 1 Ak b,Aa e,.ptr 0 0] [(0,.box [.osl 1]),(1,.row 9 Df l)] (.tup []) [(0,.box [.osl 2]),(1,.non),(2,.row 9 Df (l++[Ov (Afr k p d) (b,e)]))]:=Ab Γ hm 100 F175 Tryz.ntmps175 rfl fun F hF=>by
 have hres:=Ak2 k p d b e
 generalize Ov (Afr k p d) (b,e)=res at *
 conv=>whnf
 refine⟨fun h=>?_,fun h=>?_⟩
 ·rw[if_pos (by simpa using h)]at hres
  refine rg ?_;conv=>whnf
  refine Q9 17 [Df ⟨5,p,d,[],noF,e⟩] E (.cons (.agg (.cons (.refl _) (.cons (.refl _) (.cons (.refl _) (.cons .nil (.cons (.refl _) (.cons (.refl _) (.cons (.refl _) (.cons (.refl _) (.cons (.refl _) .nil)))))))))) .nil) E ?_
  refine Ah (Al Γ.toTy 18 E E E E E (.row E) (.lit (e:=Df) (l:=[res]) E (by rw[hres];rfl)) qx (by simp;omega) (by simp;omega)) E E ?_
  refine rg ?_;conv=>whnf
  exact Bg E .nil [(2,18)] [(0,.box [.osl 2]),(1,.non),(2,.row 9 Df (l++[res]))] (fun _ h=>h) E E ⟨Y,⟨.inl E,E,.inl E,E,.inl E,E,Y⟩,E,E⟩
 ·rw[if_neg (by simpa using h)]at hres
  refine rg ?_;conv=>whnf
  refine Ah (Al Γ.toTy 18 E E E E E (.row E) (.lit (e:=Df) (l:=[res]) E (by rw[hres];rfl)) qx (by simp;omega) (by simp;omega)) E E ?_
  refine rg ?_;conv=>whnf
  exact Bg E .nil [(2,18)] [(0,.box [.osl 2]),(1,.non),(2,.row 9 Df (l++[res]))] (fun _ h=>h) E E ⟨Y,⟨.inl E,E,.inl E,E,.inl E,E,Y⟩,E,E⟩
theorem Alc {t:List EntryM} (ht:TabOK t) (m:Nat):I64 (findE t m).1:=by
 unfold findE
 split
 ·unfold I64;dsimp only;omega
 ·rename_i h
  have hlt:Dt t m<t.length:=E7 _ _
  have hk:(Dt t m).toNat<t.length:=by omega
  dsimp only
  rw[List.getElem?_eq_getElem hk]
  exact ht.wh _ (List.getElem_mem hk)
theorem Ht {n:Net} {fw:List Bool} {fr:Int} {l:List Int} {p:Int} (h:p∈De n fw fr l):p∈l:=(List.mem_filter.1 h).1
theorem Yr {n:Net} (hb:Af n=true) (fw:List Bool) (t:List EntryM) (dom fr:Int) (m:Nat):∀ p∈(B9 n fw t dom fr m).1,0≤p∧p<n.ports.length:=by
 intro p hp
 unfold B9 at hp
 split at hp
 ·cases hp
 split at hp
 ·exact Dj p (Ht hp)
 split at hp
 ·rename_i h1
  obtain ⟨hs1,hs2⟩:=M8 hb dom m
  have h2:=hs1.2 h1
  have h3:=Sd hb dom m h2
  have h4:=List.mem_singleton.1 (Ht hp)
  rw[h4,← hs2 h1]
  exact⟨h2,h3⟩
 split at hp
 ·rename_i h1
  rw[List.mem_singleton.1 (Ht hp)]
  exact Dj _ (inB_mem.1 h1.2.2)
 split at hp
 ·cases hp
 ·exact Dj p (Ht hp)
theorem Xz (n:Net) (fw:List Bool) (fr:Int) (l:List Int):(De n fw fr l).length≤l.length:=List.length_filter_le _ _
theorem X1 {n:Net} (hn:n.Fin) (dom fr:Int) (hd:Aj dom n.domains.length=true):(peersOut n dom fr).length<2147483648:=by
 unfold peersOut
 split
 ·decide
 ·have h:=H5 hd
  rw[An h.2]
  exact hn.peers _ (List.getElem_mem h.2)
theorem Vh {n:Net} (hn:n.Fin) (fw:List Bool) (t:List EntryM) (dom fr:Int) (m:Nat):(B9 n fw t dom fr m).1.length<2147483648∧(B9 n fw t dom fr m).2.1.length<2147483648:=by
 have h1:=Z8 n dom
 have h2:=hn.ports
 unfold Am at h2
 have h3:=fun l=>Xz n fw fr l
 unfold B9
 split
 ·decide
 rename_i h
 have hd:Aj dom n.domains.length=true:=by
  cases hx:Aj dom n.domains.length
  ·exact absurd (by rw[J6,hx];rfl) h
  ·rfl
 have h4:=X1 hn dom fr hd
 split
 ·have:=h3 (Ax n dom);exact⟨by dsimp only;omega,h4⟩
 split
 ·have:=h3 [(nth n.statics (C0 n dom m)).port];simp only[List.length_cons,List.length_nil]at this;exact⟨by dsimp only;omega,by show (0:Nat)<2147483648;decide⟩
 split
 ·have:=h3 [(findE t m).1];simp only[List.length_cons,List.length_nil]at this;exact⟨by dsimp only;omega,by show (0:Nat)<2147483648;decide⟩
 split
 ·refine⟨by show (0:Nat)<2147483648;decide,?_⟩
  dsimp only
  split<;>simp
 ·have:=h3 (Ax n dom);exact⟨by dsimp only;omega,h4⟩
theorem Abe (n:Net) (hn:n.Fin) (hm0:n.Num) (fw:List Bool) (t:List EntryM) (dom:Int) (q:QueuedM) (now:Int) (ht:TabOK t) (hq:QueuedOK q) :
  Sy.Spec Tryz.prog 102 [Aq n,.sl 1 Ad fw,.sl 3 As t,Aa dom,A4 q,Aa now] [] (.tup [.sl 3 As (bridgeT n fw t dom q now).1,.sl 9 Df (bridgeT n fw t dom q now).2.1,Aa (bridgeT n fw t dom q now).2.2]) []:=Ab Γ hm 100 F102 Tryz.ntmps102 rfl fun F hF=>by
 have hres:=bridgeT.eq_1 n fw t dom q now
 generalize bridgeT n fw t dom q now=res at *
 have qf:=floodS n hn fw dom q.from_
 have qr:=Le t ht.short ht.mac
 conv=>whnf
 refine B0 6 8 (Aq n) E E E ?_
 refine B0 10 7 (A4 q) E E E ?_
 refine rg ?_;conv=>whnf
 cases hroom:J6 n fw dom q.from_
 ·rw[if_pos (.inl hroom)]at hres
  subst hres
  rw[floodT,if_pos hroom]at qf
  refine Ag qf F171 E E E E E ?_
  (refine rg ?_;(conv=>whnf);refine aT ?_;refine rg ?_;(conv=>whnf);refine aT ?_;refine rg ?_;conv=>whnf)
  refine A0 13 [.sl 9 Df []] E (.cons .nil .nil) ?_
  refine Ao 12 3 As E ?_
  exact Ac E (.cons .tmp (.cons (.cell E E E E) (.cons .tmp .nil))) E E
 rw[floodT,if_neg (by rw[hroom];decide)]at qf
 refine Ag qf F171 E E E E E ?_
 (refine rg ?_;(conv=>whnf);refine aF ?_;refine rg ?_;conv=>whnf)
 refine Ag qr F47 E E E E E ?_
 cases htb:tableB t
 ·rw[if_pos (.inr htb)]at hres
  subst hres
  (refine rg ?_;(conv=>whnf);refine aT ?_;refine rg ?_;conv=>whnf)
  refine A0 13 [.sl 9 Df []] E (.cons .nil .nil) ?_
  refine Ao 12 3 As E ?_
  exact Ac E (.cons .tmp (.cons (.cell E E E E) (.cons .tmp .nil))) E E
 rw[if_neg (by simp[hroom,htb])]at hres
 have ql:=Yy t q now ht hq
 have hu:=Lm ht hq now
 generalize learnQ t q now=u at *
 have qro:=Y4 n hn hm0 dom q.frame.dst
 generalize routerT n dom q.frame.dst=ro at *
 obtain ⟨irb,ok⟩:=ro
 dsimp only at hres qro
 have hbn:Af n=true:=by
  simp only[J6,Bool.and_eq_true]at hroom
  exact hroom.1.2
 (refine rg ?_;(conv=>whnf);refine aF ?_;refine rg ?_;conv=>whnf)
 refine Ag ql F172 E E E E E ?_
 refine rg ?_;conv=>whnf
 refine Ag qro F173 E E E E E ?_
 cases ok
 rotate_left
 ·rw[if_pos rfl]at hres
  have qh:=Afi n hn hm0 irb q.frame hq.frame
  generalize hopT n irb q.frame=hp at *
  obtain ⟨to,g,e⟩:=hp
  dsimp only at hres qh
  (refine rg ?_;(conv=>whnf);refine aT ?_;refine rg ?_;conv=>whnf)
  refine Ag qh F174 E E E E E ?_
  refine rg ?_;conv=>whnf
  refine⟨fun h=>?_,fun h=>?_⟩
  ·rw[if_pos (by simpa using h)]at hres
   subst hres
   refine rg ?_;conv=>whnf
   refine A0 13 [.sl 9 Df []] E (.cons .nil .nil) ?_
   exact Ac E (.cons .tmp (.cons (.cell E E E E) (.cons .tmp .nil))) E E
  ·rw[if_neg (by simpa using h)]at hres
   subst hres
   refine rg ?_;conv=>whnf
   refine⟨qq,?_⟩
   conv=>whnf
   refine Q9 84 [Df ⟨4,0,to,[],g,0⟩] E (.cons (.agg (.cons (.refl _) (.cons (.refl _) (.cons (.refl _) (.cons .nil (.cons (.refl _) (.cons (.refl _) (.cons (.refl _) (.cons (.refl _) (.cons (.refl _) .nil)))))))))) .nil) E ?_
   refine Eg 84 Df [⟨4,0,to,[],g,0⟩] E E ?_
   refine At 84 E ?_
   exact Ac E (.cons .tmp (.cons (.cell E E E E) (.cons .tmp .nil))) E E
 rw[if_neg qx]at hres
 have hs:=hq.frame.src
 have hd2:=hq.frame.dst
 have hfw:=Alc hu q.frame.dst
 have qd:=Ali n hn fw u dom q.from_ q.frame.dst hu.short (by unfold I64 at *;omega) qn
 have hports:=Yr hbn fw u dom q.from_ q.frame.dst
 have hfew:=Vh hn fw u dom q.from_ q.frame.dst
 generalize B9 n fw u dom q.from_ q.frame.dst=dc at *
 obtain ⟨ports,peers,e0⟩:=dc
 dsimp only at hres qd hports hfew
 obtain ⟨hf1,hf2⟩:=hfew
 (refine rg ?_;(conv=>whnf);refine aF ?_;refine rg ?_;conv=>whnf)
 refine Ag qd F176 E E E E E ?_
 refine rg ?_;conv=>whnf
 refine Abo 13 0 1000 9 Df E E E E ?_
 refine A1 ports.length (fun j=>[(3,Aa dom),(6,.ref 8 (Aq n) 0),(10,.ref 7 (A4 q) 0),(12,.sl 3 As u),(13,.ptr 13 0),(23,.clo (.func 175) [] [.ptr 13 0]),(25,.sl 1 Aa peers),(100,.sl 1 Aa ports),(101,Aa ports.length),(102,Aa j)])
  (fun j=>[(13,.box [.osl 1000]),(1000,.row 9 Df ((ports.take j).map (Vv n dom q.frame)))]) [(13,13),(1000,1000)] ⟨⟨rfl,rfl,rfl,rfl,rfl,rfl,rfl,rfl,rfl,rfl,rfl,rfl,rfl,rfl,rfl,rfl,rfl,rfl,rfl,rfl,trivial⟩,⟨.inl rfl,rfl,.inl rfl,rfl,trivial⟩,rfl,rfl⟩ ?_
 intro j hj
 refine rg ?_;conv=>whnf
 refine⟨fun h=>?_,fun h=>?_⟩
 ·have hlt:j<ports.length:=by have:=of_decide_eq_true h;omega
  have hj0:((j:Nat):Int).toNat<ports.length:=by simpa using hlt
  obtain ⟨p,hp⟩:∃ p,ports[j]=p:=⟨_,rfl⟩
  have e1:ports[((j:Nat):Int).toNat]'hj0=p:=hp
  have hs:(ports.take (j+1)).map (Vv n dom q.frame)=(ports.take j).map (Vv n dom q.frame)++[Vv n dom q.frame p]:=by
   rw[List.take_succ_eq_append_getElem hlt,List.map_append,hp];rfl
  have hal:((ports.take j).map (Vv n dom q.frame)).length=j:=by rw[List.length_map,List.length_take];omega
  have hpi:=hports p (by rw[← hp];exact List.getElem_mem hlt)
  have hpk:p.toNat<n.ports.length:=by omega
  have ql:=Aix n hn p dom q.frame hq.frame
  have hop:Vv n dom q.frame p=Ov (Afr (if (nth n.ports p).link<0 then 1 else 2) p 0) ((leaveT n p dom q.frame).1,(leaveT n p dom q.frame).2):=rfl
  rw[hop,An hpk]at hs
  clear hop
  obtain ⟨acc,hacc⟩:∃ acc,(ports.take j).map (Vv n dom q.frame)=acc:=⟨_,rfl⟩
  rw[hacc]at hs hal ⊢
  obtain ⟨x,hx⟩:∃ x,n.ports[p.toNat]'hpk=x:=⟨_,rfl⟩
  rw[hx]at hs
  clear h
  refine rg ?_;conv=>whnf
  refine⟨E,by omega,hj0,?_⟩
  rw[e1]
  conv=>whnf
  refine⟨E,hpi.1,hpk,?_⟩
  rw[hx]
  conv=>whnf
  refine⟨fun h=>?_,fun h=>?_⟩
  ·rw[if_neg (by have:=of_decide_eq_true h;omega)]at hs
   refine rg ?_;conv=>whnf
   refine Ag ql F177 E E E E E ?_
   refine rg ?_;conv=>whnf
   refine Ah (Ky [(0,13),(1,1000),(2,1001)] [] (Ef E E F175) (M2 acc 2 p 0 (leaveT n p dom q.frame).1 (leaveT n p dom q.frame).2 qn) (.cons (.agg (.cons (.refl _) (.cons (.refl _) (.cons (.refl _) (.cons .nil (.cons (.refl _) (.cons (.refl _) (.cons (.refl _) (.cons .nil (.cons (.refl _) .nil)))))))))) (.cons (.refl _) (.cons (.refl _) (.cons (.refl _) .nil)))) ⟨E,E,Y⟩ E ⟨.inl E,.inl E,.inr E,Y⟩ E) E E ?_
   refine rg ?_;conv=>whnf
   refine⟨by unfold I64;omega,?_⟩
   conv=>whnf
   exact Ar [(13,13),(1000,1001)] hlt ⟨⟨E,E,E,E,E,E,E,E,E,E,E,E,E,E,E,E,E,E,E,E,Y⟩,⟨.inl E,E,.inl (congrArg (Ob.row 9 Df) hs),E,Y⟩,E,E⟩
  ·rw[if_pos (by have:=of_decide_eq_false h;omega)]at hs
   refine rg ?_;conv=>whnf
   refine Ag ql F177 E E E E E ?_
   refine rg ?_;conv=>whnf
   refine Ah (Ky [(0,13),(1,1000),(2,1001)] [] (Ef E E F175) (M2 acc 1 p 0 (leaveT n p dom q.frame).1 (leaveT n p dom q.frame).2 qn) (.cons (.agg (.cons (.refl _) (.cons (.refl _) (.cons (.refl _) (.cons .nil (.cons (.refl _) (.cons (.refl _) (.cons (.refl _) (.cons .nil (.cons (.refl _) .nil)))))))))) (.cons (.refl _) (.cons (.refl _) (.cons (.refl _) .nil)))) ⟨E,E,Y⟩ E ⟨.inl E,.inl E,.inr E,Y⟩ E) E E ?_
   refine rg ?_;conv=>whnf
   refine⟨by unfold I64;omega,?_⟩
   conv=>whnf
   exact Ar [(13,13),(1000,1001)] hlt ⟨⟨E,E,E,E,E,E,E,E,E,E,E,E,E,E,E,E,E,E,E,E,Y⟩,⟨.inl E,E,.inl (congrArg (Ob.row 9 Df) hs),E,Y⟩,E,E⟩
 have hjj:j=ports.length:=by have:=of_decide_eq_false h;omega
 subst hjj
 clear h
 rw[List.take_length]
 obtain ⟨acc0,hacc0⟩:∃ acc0,ports.map (Vv n dom q.frame)=acc0:=⟨_,rfl⟩
 have hal0:acc0.length=ports.length:=by rw[← hacc0,List.length_map]
 rw[hacc0]at hres ⊢
 refine rg ?_;conv=>whnf
 refine A1 peers.length (fun j=>[(3,Aa dom),(6,.ref 8 (Aq n) 0),(10,.ref 7 (A4 q) 0),(12,.sl 3 As u),(13,.ptr 13 0),(23,.clo (.func 175) [] [.ptr 13 0]),(130,.sl 1 Aa peers),(131,Aa peers.length),(132,Aa j)])
  (fun j=>[(13,.box [.osl 1000]),(1000,.row 9 Df (acc0++(peers.take j).map (X3 n dom q.frame)))]) [(13,13),(1000,1000)] ⟨⟨rfl,rfl,rfl,rfl,rfl,rfl,rfl,rfl,rfl,rfl,rfl,rfl,rfl,rfl,rfl,rfl,rfl,rfl,trivial⟩,⟨.inl rfl,rfl,.inl (congrArg (Ob.row 9 Df) qy),rfl,trivial⟩,rfl,rfl⟩ ?_
 intro j hj
 refine rg ?_;conv=>whnf
 refine⟨fun h=>?_,fun h=>?_⟩
 ·have hlt:j<peers.length:=by have:=of_decide_eq_true h;omega
  have hj0:((j:Nat):Int).toNat<peers.length:=by simpa using hlt
  obtain ⟨p,hp⟩:∃ p,peers[j]=p:=⟨_,rfl⟩
  have e1:peers[((j:Nat):Int).toNat]'hj0=p:=hp
  have hs:acc0++(peers.take (j+1)).map (X3 n dom q.frame)=(acc0++(peers.take j).map (X3 n dom q.frame))++[X3 n dom q.frame p]:=by
   rw[List.take_succ_eq_append_getElem hlt,List.map_append,hp,List.append_assoc];rfl
  have hal:(acc0++(peers.take j).map (X3 n dom q.frame)).length≤ports.length+j:=by rw[List.length_append,List.length_map,List.length_take];omega
  have ql:=Acr n hn hm0 dom p q.frame hq.frame
  have hop:X3 n dom q.frame p=Ov (Afr 3 0 p) ((meshT n dom p q.frame).1,(meshT n dom p q.frame).2):=rfl
  rw[hop]at hs
  clear hop
  obtain ⟨acc,hacc⟩:∃ acc,acc0++(peers.take j).map (X3 n dom q.frame)=acc:=⟨_,rfl⟩
  rw[hacc]at hs hal ⊢
  clear h
  refine rg ?_;conv=>whnf
  refine⟨E,by omega,hj0,?_⟩
  rw[e1]
  conv=>whnf
  refine Ag ql F178 E E E E E ?_
  refine rg ?_;conv=>whnf
  refine Ah (Ky [(0,13),(1,1000),(2,1001)] [] (Ef E E F175) (M2 acc 3 0 p (meshT n dom p q.frame).1 (meshT n dom p q.frame).2 qn) (.cons (.agg (.cons (.refl _) (.cons (.refl _) (.cons (.refl _) (.cons .nil (.cons (.refl _) (.cons (.refl _) (.cons (.refl _) (.cons .nil (.cons (.refl _) .nil)))))))))) (.cons (.refl _) (.cons (.refl _) (.cons (.refl _) .nil)))) ⟨E,E,Y⟩ E ⟨.inl E,.inl E,.inr E,Y⟩ E) E E ?_
  refine rg ?_;conv=>whnf
  refine⟨by unfold I64;omega,?_⟩
  conv=>whnf
  exact Ar [(13,13),(1000,1001)] hlt ⟨⟨E,E,E,E,E,E,E,E,E,E,E,E,E,E,E,E,E,E,Y⟩,⟨.inl E,E,.inl (congrArg (Ob.row 9 Df) hs),E,Y⟩,E,E⟩
 have hjj:j=peers.length:=by have:=of_decide_eq_false h;omega
 subst hjj
 clear h
 rw[List.take_length]
 subst hres
 refine rg ?_;conv=>whnf
 refine⟨qq,?_⟩
 conv=>whnf
 refine At 1000 E ?_
 exact Ac E (.cons .tmp (.cons (.cell E E E E) (.cons .tmp .nil))) E E
theorem Ju {l:List QueuedM} (h:D1 l):l.length<1000000∧Lc l:=⟨by have:=h.1;omega,fun q hq=>by have:=(h.2 q hq).frame.body;omega⟩
theorem O8 {α:Type} {l:List α} {i:Nat} (h:i<l.length) (d:α):(l[i]?).getD d=l[i]:=by
 rw[List.getElem?_eq_getElem h];rfl
theorem placeB_iff {d:Int} {k:Nat}:Aj d k=true↔0≤d∧d.toNat<k:=by
 simp only[Aj,Bool.and_eq_true,decide_eq_true_eq];omega
theorem Yv (l:List EntryM) (hl:l.length<2147483648):Sy.Spec Tryz.prog 48 [.sl 3 As l] [] (.sl 3 As l) []:=Ab Γ hm 100 F48 Tryz.ntmps48 rfl fun F hF=>by
 conv=>whnf
 refine C9 E (.inl E) E E E .sl E E ?_
 intro b hb
 cases b
 ·(refine rg ?_;(conv=>whnf);refine aF ?_;refine rg ?_;conv=>whnf)
  refine Ah (Al Γ.toTy 7 E E E E E (.lit (e:=As) (l:=[]) E E) .sl qy (by simp;omega) (by simp;omega)) E E ?_
  refine At 7 E ?_
  refine rg ?_;conv=>whnf
  exact Ac E (.cons .tmp .nil) E E
 ·have h0:l=[]:=List.eq_nil_of_length_eq_zero (hb rfl)
  subst h0
  (refine rg ?_;(conv=>whnf);refine aT ?_;refine rg ?_;conv=>whnf)
  refine Ao 2 3 As E ?_
  exact Ac E (.cons .tmp .nil) E E
def loadT (m:MacM) (dom:Int) (t:List EntryM):MacM × Int:=if Aj dom m.queues.length=true∧tableB t=true then (Dq m dom t,0) else (m,2)
theorem Ahq (n:Net) (m:MacM) (d:Bool) (dom:Int) (t:List EntryM) (hq:m.tables.length=m.queues.length) (hl:Am t) (hmac:∀ e∈t,e.mac<18446744073709551616) :
  Sy.Spec Tryz.prog 19 [.ptr 0 0,Aa dom,.sl 3 As t] (B4 n m d) (Aa (loadT m dom t).2) (B4 n (loadT m dom t).1 d):=Ab Γ hm 100 F19 Tryz.ntmps19 rfl fun F hF=>by
 have hl2:=hl
 unfold Am at hl2
 have hres:=loadT.eq_1 m dom t
 generalize loadT m dom t=res at *
 have h1:=Xr n m d dom
 have hpl:=placeB_iff (d:=dom) (k:=m.queues.length)
 generalize Aj dom m.queues.length=b at *
 ((conv=>whnf);refine aF ?_;refine rg ?_;conv=>whnf)
 refine Ah (Ai [] E F46 h1 E ⟨E,E,E,E,Y⟩ E ⟨.inl E,.inl E,.inl E,.inl E,Y⟩) E E ?_
 refine rg ?_;conv=>whnf
 cases b
 ·rw[if_neg qy]at hres
  subst hres
  (refine⟨fun _=>?_,fun h=>False.elim (absurd h qx)⟩;refine rg ?_;(conv=>whnf);refine aT ?_;refine rg ?_;conv=>whnf)
  exact done E (.cons .tmp .nil) [] (B4 n m d) (fun _ h=>h) E E ⟨Y,⟨.inl E,E,.inl E,E,.inl E,E,.inl E,E,Y⟩,E,E⟩
 have hd:=hpl.1 rfl
 (refine⟨fun h=>False.elim (absurd h qx),fun _=>?_⟩;refine rg ?_;conv=>whnf)
 refine Ag (Le t hl hmac) F47 E E E E E ?_
 generalize tableB t=c at *
 refine rg ?_;conv=>whnf
 cases c
 ·rw[if_neg qy]at hres
  subst hres
  (refine⟨fun _=>?_,fun h=>False.elim (absurd h qx)⟩;refine rg ?_;conv=>whnf)
  exact done E (.cons .tmp .nil) [] (B4 n m d) (fun _ h=>h) E E ⟨Y,⟨.inl E,E,.inl E,E,.inl E,E,.inl E,E,Y⟩,E,E⟩
 rw[if_pos ⟨rfl,rfl⟩]at hres
 subst hres
 (refine⟨fun h=>False.elim (absurd h qx),fun _=>?_⟩;refine rg ?_;conv=>whnf)
 refine Ay (Yv t hl2) F48 E E E qq E ?_
 refine rd qq ?_;conv=>whnf
 refine⟨hd.1,by omega,?_⟩
 conv=>whnf
 refine⟨E,by omega,t,E,E,?_⟩
 conv=>whnf
 refine⟨qq,?_⟩
 conv=>whnf
 exact done E (.cons .tmp .nil) [] (B4 n (Dq m dom t) d) (fun _ h=>h) E E ⟨Y,⟨.inl E,E,.inl E,E,.inl E,E,.inl E,E,Y⟩,E,E⟩
theorem Afb (n:Net) (m:MacM) (d:Bool) (dom:Int) (hl:D1 (queueL m dom)) :
  Sy.Spec Tryz.prog 57 [.ptr 0 0,Aa dom] (B4 n m d) (.sl 7 A4 (if Aj dom m.queues.length then queueL m dom else [])) (B4 n m d):=Ab Γ hm 100 F57 Tryz.ntmps57 rfl fun F hF=>by
 have h1:=Xr n m d dom
 have hpl:=placeB_iff (d:=dom) (k:=m.queues.length)
 generalize Aj dom m.queues.length=b at *
 have hb:=Ju hl
 have h2:=Ug _ (-1) hb.1 hb.2
 have h3:takeT (queueL m dom) (-1)=(noQ,queueL m dom,false):=by rw[takeT];exact if_pos (.inl qx)
 rw[h3]at h2
 clear h3 hb hl
 have hres:=queueL.eq_1 m dom
 generalize queueL m dom=res at *
 conv=>whnf
 refine Ah (Ai [] E F46 h1 E ⟨E,E,E,E,Y⟩ E ⟨.inl E,.inl E,.inl E,.inl E,Y⟩) E E ?_
 refine rg ?_;conv=>whnf
 cases b
 ·(refine⟨fun _=>?_,fun h=>False.elim (absurd h qx)⟩;refine rg ?_;conv=>whnf)
  refine Ao 4 7 A4 E ?_
  exact done E (.cons .tmp .nil) [] (B4 n m d) (fun _ h=>h) E E ⟨Y,⟨.inl E,E,.inl E,E,.inl E,E,.inl E,E,Y⟩,E,E⟩
 have hd:=hpl.1 rfl
 have hlt:dom.toNat<m.queues.length:=hd.2
 rw[O8 hlt]at hres
 subst hres
 (refine⟨fun h=>False.elim (absurd h qx),fun _=>?_⟩;refine rg ?_;conv=>whnf)
 refine⟨hd.1,by omega,?_⟩
 conv=>whnf
 refine⟨E,hlt,?_⟩
 conv=>whnf
 refine Ag h2 F106 E E E E E ?_
 refine rg ?_;conv=>whnf
 exact done E (.cons .tmp .nil) [] (B4 n m d) (fun _ h=>h) E E ⟨Y,⟨.inl E,E,.inl E,E,.inl E,E,.inl E,E,Y⟩,E,E⟩
def Lv (m:MacM):Prop:=∀ i,0≤m.drops i∧m.drops i≤1000000000000
theorem Oe (n:Net) (m:MacM) (d:Bool) (dom:Int) (q:QueuedM) (e:Int) (he:0≤e∧e<64) (hd:e=0→0≤dom∧dom.toNat<m.queues.length) (hb:Lv m) (hl:D1 (queueL m dom)) (hq:QueuedOK q) :
  Sy.Spec Tryz.prog 101 [.ptr 0 0,Aa dom,A4 q,Aa e] (B4 n m d) (.tup []) (B4 n (comeM m dom q e) d):=Ab Γ hm 100 F101 Tryz.ntmps101 rfl fun F hF=>by
 have hqb:=Ju hl
 have hp:=Zw _ q hqb.1 hqb.2 (by have:=hq.frame.body;omega)
 have h1:=Aa5 n m d e he.1 he.2 (hb _)
 have h3:=Aa5 n m d 3 qx qx (hb _)
 have hres:=comeM.eq_1 m dom q e
 generalize comeM m dom q e=res at *
 conv=>whnf
 refine⟨fun h=>?_,fun h=>?_⟩
 ·rw[if_pos (by simpa using h)]at hres
  subst hres
  refine rg ?_;conv=>whnf
  refine Ah (Ai [] E F104 h1 E ⟨E,E,E,E,Y⟩ E ⟨.inl E,.inl E,.inl E,.inl E,Y⟩) E E ?_
  refine rg ?_;conv=>whnf
  exact done E .nil [] (B4 n (By m e) d) (fun _ h=>h) E E ⟨Y,⟨.inl E,E,.inl E,E,.inl E,E,.inl E,E,Y⟩,E,E⟩
 have h0:e=0:=by simpa using h
 have hd:=hd h0
 rw[if_neg (by rw[h0];decide)]at hres
 clear h hqb h1 hl he
 have hq0:=queueL.eq_1 m dom
 rw[O8 hd.2]at hq0
 generalize queueL m dom=l at *
 generalize pushT l q=r at *
 obtain ⟨l2,ok⟩:=r
 subst hq0
 refine rg ?_;conv=>whnf
 refine⟨hd.1,hd.2,?_⟩
 conv=>whnf
 refine⟨E,hd.2,?_⟩
 conv=>whnf
 refine Ay hp F170 E E E qq E ?_
 refine rd qq ?_;conv=>whnf
 refine⟨qq,?_⟩
 conv=>whnf
 cases ok
 ·rw[if_neg qy]at hres
  subst hres
  (refine⟨fun _=>?_,fun h=>False.elim (by simp at h)⟩;refine rg ?_;conv=>whnf)
  refine Ah (Ai [] E F104 h3 E ⟨E,E,E,E,Y⟩ E ⟨.inl E,.inl E,.inl E,.inl E,Y⟩) E E ?_
  refine rg ?_;conv=>whnf
  exact done E .nil [] (B4 n (By m 3) d) (fun _ h=>h) E E ⟨Y,⟨.inl E,E,.inl E,E,.inl E,E,.inl E,E,Y⟩,E,E⟩
 ·rw[if_pos rfl]at hres
  subst hres
  (refine⟨fun h=>False.elim (by simp at h),fun _=>?_⟩;refine rg ?_;conv=>whnf)
  refine⟨hd.1,hd.2,?_⟩
  conv=>whnf
  refine⟨E,hd.2,l2,E,E,?_⟩
  conv=>whnf
  exact Bg E .nil [] (B4 n (Afe m dom l2) d) (fun _ h=>h) E E ⟨Y,⟨.inl E,E,.inl E,E,.inl E,E,.inl E,E,Y⟩,E,E⟩
theorem Zj (n:Net) (m:MacM) (d:Bool) (dom at_:Int) (hl:D1 (queueL m dom)) :
  Sy.Spec Tryz.prog 53 [.ptr 0 0,Aa dom,Aa at_] (B4 n m d) (.tup [A4 (takeM m dom at_).2.1,Ad (takeM m dom at_).2.2]) (B4 n (takeM m dom at_).1 d):=Ab Γ hm 100 F53 Tryz.ntmps53 rfl fun F hF=>by
 have hqb:=Ju hl
 have hp:=Ug _ at_ hqb.1 hqb.2
 have h1:=Xr n m d dom
 have hpl:=placeB_iff (d:=dom) (k:=m.queues.length)
 have hres:=takeM.eq_1 m dom at_
 generalize takeM m dom at_=res at *
 generalize Aj dom m.queues.length=b at *
 have hq0:=queueL.eq_1 m dom
 clear hl hqb
 generalize queueL m dom=l at *
 generalize takeT l at_=r at *
 obtain ⟨q,l2,ok⟩:=r
 conv=>whnf
 refine Ah (Ai [] E F46 h1 E ⟨E,E,E,E,Y⟩ E ⟨.inl E,.inl E,.inl E,.inl E,Y⟩) E E ?_
 refine rg ?_;conv=>whnf
 cases b
 ·rw[if_pos rfl]at hres
  subst hres
  (refine⟨fun _=>?_,fun h=>False.elim (absurd h qx)⟩;refine rg ?_;conv=>whnf)
  refine A0 6 [Aa 0,Aa 0,Aa 0,A7 0,A7 0,Aa 0,.sl 1 Ak []] E (.cons (.refl _) (.cons (.refl _) (.cons (.refl _) (.cons (.refl _) (.cons (.refl _) (.cons (.refl _) (.cons .nil .nil))))))) ?_
  exact done E (.cons (.cell E E E E) (.cons .tmp .nil)) [] (B4 n m d) (fun _ h=>h) E E ⟨Y,⟨.inl E,E,.inl E,E,.inl E,E,.inl E,E,Y⟩,E,E⟩
 have hd:=hpl.1 rfl
 rw[O8 hd.2]at hq0
 subst hq0
 rw[if_neg qy]at hres
 subst hres
 (refine⟨fun h=>False.elim (absurd h qx),fun _=>?_⟩;refine rg ?_;conv=>whnf)
 refine⟨hd.1,hd.2,?_⟩
 conv=>whnf
 refine⟨E,hd.2,?_⟩
 conv=>whnf
 refine Ag hp F106 E E E E E ?_
 refine rg ?_;conv=>whnf
 refine⟨hd.1,hd.2,?_⟩
 conv=>whnf
 refine⟨E,hd.2,l2,E,E,?_⟩
 conv=>whnf
 exact done E (.cons (.cell E E E E) (.cons .tmp .nil)) [] (B4 n (Afe m dom l2) d) (fun _ h=>h) E E ⟨Y,⟨.inl E,E,.inl E,E,.inl E,E,.inl E,E,Y⟩,E,E⟩
theorem Abz (n:Net) (hn:n.Fin) (m:MacM) (d:Bool) (J D:Int) (hm0:MacOK n m J D) (hJ:J<1000000000000) (hD:D≤1000000000000) (port:Int) (b:List UInt8) (hb:b.length<100000) :
  Sy.Spec Tryz.prog 51 [.ptr 0 0,Aa port,.sl 1 Ak b] (B4 n m d) (.tup []) (B4 n (injectT n m port b) d):=Ab Γ hm 100 F51 Tryz.ntmps51 rfl fun F hF=>by
 have hres:=injectT.eq_1 n m port b
 generalize injectT n m port b=res at *
 have hpl:=placeB_iff (d:=port) (k:=n.ports.length)
 have hinj:=hm0.inj
 have hok:MacOK n ⟨m.up,m.tables,m.queues,m.now,m.injected+1,m.drops⟩ (J+1) D:=⟨hm0.up,hm0.tabs,hm0.ques,hm0.tab,hm0.que,hm0.now,⟨by dsimp only;omega,by dsimp only;omega⟩,hm0.drp⟩
 have hdr:Lv ⟨m.up,m.tables,m.queues,m.now,m.injected+1,m.drops⟩:=fun i=>⟨(hm0.drp i).1,by have:=(hm0.drp i).2;dsimp only at *;omega⟩
 have he:=Va n port b
 have hdom:=Vb (n:=n) (port:=port) (b:=b)
 have q1:=Aa1 n hn port b hb
 have hfr:=Q8 n port b
 generalize enterT n port b=r at *
 have q2:=fun (hp:0≤port∧port.toNat<n.ports.length)=>Oe n ⟨m.up,m.tables,m.queues,m.now,m.injected+1,m.drops⟩ d r.1 ⟨port,0,m.injected+1,r.2.1⟩ r.2.2 ⟨he.1,by have:=he.2;omega⟩ (fun h=>by
  have:=hdom h
  exact⟨this.1,by show r.1.toNat<m.queues.length;rw[hm0.ques];exact this.2⟩) hdr (Dx hok _) (Ei hfr _ ⟨by omega,by have:=hn.ports;unfold Am at this;omega⟩ qx)
 conv=>whnf
 refine⟨fun h=>?_,fun h=>?_⟩
 ·have h:=of_decide_eq_true h
  rw[if_pos (.inl (by cases hx:Aj port n.ports.length;rfl;exact absurd (hpl.1 hx) qn))]at hres
  subst hres
  (refine rg ?_;(conv=>whnf);refine aT ?_;refine rg ?_;(conv=>whnf);refine aT ?_;refine rg ?_;conv=>whnf)
  (skip)
  exact done E .nil [] (B4 n res d) (fun _ h=>h) E E ⟨Y,⟨.inl E,E,.inl E,E,.inl E,E,.inl E,E,Y⟩,E,E⟩
 have h0:=of_decide_eq_false h
 clear h
 refine rg ?_;conv=>whnf
 refine⟨fun h=>?_,fun h=>?_⟩
 ·have h:=of_decide_eq_true h
  rw[if_pos (.inl (by cases hx:Aj port n.ports.length;rfl;exact absurd (hpl.1 hx) qn))]at hres
  subst hres
  (refine rg ?_;(conv=>whnf);refine aT ?_;refine rg ?_;conv=>whnf)
  (skip)
  exact done E .nil [] (B4 n res d) (fun _ h=>h) E E ⟨Y,⟨.inl E,E,.inl E,E,.inl E,E,.inl E,E,Y⟩,E,E⟩
 have h1:=of_decide_eq_false h
 clear h
 have hp:0≤port∧port.toNat<n.ports.length:=by omega
 rw[hpl.2 hp,An hp.2]at hres
 obtain ⟨p,hpp⟩:∃ p,n.ports[port.toNat]'hp.2=p:=⟨_,rfl⟩
 rw[hpp]at hres
 refine rg ?_;conv=>whnf
 refine⟨E,hp.1,hp.2,?_⟩
 rw[hpp]
 conv=>whnf
 refine⟨fun h=>?_,fun h=>?_⟩
 ·have h:=of_decide_eq_true h
  rw[if_pos (.inr h)]at hres
  subst hres
  refine rg ?_;conv=>whnf
  exact done E .nil [] (B4 n res d) (fun _ h=>h) E E ⟨Y,⟨.inl E,E,.inl E,E,.inl E,E,.inl E,E,Y⟩,E,E⟩
 have h2:=of_decide_eq_false h
 clear h
 rw[if_neg (by simp;omega)]at hres
 subst hres
 refine rg ?_;conv=>whnf
 refine⟨by unfold I64;omega,?_⟩
 conv=>whnf
 refine Ag q1 F100 E E E E E ?_
 refine rg ?_;conv=>whnf
 refine Bs (Ai [] E F101 (q2 hp) E ⟨E,E,E,E,Y⟩ E ⟨.inl E,.inl E,.inl E,.inl E,Y⟩) qq E ?_
 refine rd qq ?_;conv=>whnf
 refine⟨qq,?_⟩
 conv=>whnf
 refine Bg E .nil [] (B4 n (comeM _ _ _ _) d) (fun _ h=>h) E E ⟨Y,⟨.inl E,E,.inl E,E,.inl E,E,.inl E,E,Y⟩,E,E⟩
theorem Tx (n:Net) (hn:n.Fin) (m:MacM) (d:Bool) (J D:Int) (hm0:MacOK n m J D) (hD:D≤1000000000000) (o:OutM) (ho:OutOK n o) (origin:Int) :
  Sy.Spec Tryz.prog 105 [.ptr 0 0,Df o,Aa origin] (B4 n m d) (.sl 3 Bz (goesM n m o origin).2) (B4 n (goesM n m o origin).1 d):=Ab Γ hm 100 F105 Tryz.ntmps105 rfl fun F hF=>by
 have hres:=goesM.eq_1 n m o origin
 generalize goesM n m o origin=res at *
 have hdr:Lv m:=fun i=>⟨(hm0.drp i).1,by have:=(hm0.drp i).2;omega⟩
 have hbl:o.bytes.length<100000:=by have:=ho.bytes;omega
 have hin:∀ {x:Int},DomIn n x→0≤x∧x.toNat<m.queues.length:=fun h=>by rw[hm0.ques];exact h
 conv=>whnf
 refine⟨fun h=>?_,fun h=>?_⟩
 ·have h1:o.kind=1:=by simpa using h
  rw[if_pos h1]at hres
  subst hres
  refine rg ?_;conv=>whnf
  refine Eg 34 Bz [⟨o.port,origin,o.bytes⟩] E E ?_
  refine At 34 E ?_
  exact done E (.cons .tmp .nil) [] (B4 n m d) (fun _ h=>h) E E ⟨Y,⟨.inl E,E,.inl E,E,.inl E,E,.inl E,E,Y⟩,E,E⟩
 have h1:¬ o.kind=1:=by simpa using h
 rw[if_neg h1]at hres
 clear h
 refine rg ?_;conv=>whnf
 refine⟨fun h=>?_,fun h=>?_⟩
 ·have h2:o.kind=2:=by simpa using h
  rw[if_pos h2]at hres
  have q1:=Acs n hn o.port o.bytes hbl
  have he:=Af3 n o.port o.bytes
  have hd:=fun h=>hin (Af4 (n:=n) (port:=o.port) (b:=o.bytes) h)
  have hf:=Aah n o.port o.bytes
  have ht:=Aag hn o.port o.bytes
  generalize linkT n o.port o.bytes=r at *
  have q2:=Oe n m d r.2.1 ⟨r.1,0,origin,r.2.2.1⟩ r.2.2.2 he hd hdr (Dx hm0 _) (Ei hf _ qn qx)
  subst hres
  refine rg ?_;conv=>whnf
  refine Ay q1 F182 E E E qq E ?_
  refine rd qq ?_;conv=>whnf
  refine⟨qq,?_⟩
  conv=>whnf
  refine⟨qq,?_⟩
  conv=>whnf
  refine Ah (Ai [] E F101 q2 E ⟨E,E,E,E,Y⟩ E ⟨.inl E,.inl E,.inl E,.inl E,Y⟩) E E ?_
  refine rg ?_;conv=>whnf
  refine Ao 6 3 Bz E ?_
  exact done E (.cons .tmp .nil) [] (B4 n (comeM _ _ _ _) d) (fun _ h=>h) E E ⟨Y,⟨.inl E,E,.inl E,E,.inl E,E,.inl E,E,Y⟩,E,E⟩
 have h2:¬ o.kind=2:=by simpa using h
 rw[if_neg h2]at hres
 clear h
 refine rg ?_;conv=>whnf
 refine⟨fun h=>?_,fun h=>?_⟩
 ·have h2:o.kind=3:=by simpa using h
  rw[if_pos h2]at hres
  have q1:=Acu n hn o.bytes hbl
  have he:=Ago n o.bytes
  have hd:=fun h=>hin (Xc (n:=n) (b:=o.bytes) h).2
  have hf:=Abb n o.bytes
  have ht:=Vj hn o.bytes
  generalize comeT n o.bytes=r at *
  have q2:=Oe n m d r.2.1 ⟨-1,r.1,origin,r.2.2.1⟩ r.2.2.2 he hd hdr (Dx hm0 _) (Ei hf _ qx ht)
  subst hres
  refine rg ?_;conv=>whnf
  refine Ay q1 F183 E E E qq E ?_
  refine rd qq ?_;conv=>whnf
  refine⟨qq,?_⟩
  conv=>whnf
  refine⟨qq,?_⟩
  conv=>whnf
  refine Ah (Ai [] E F101 q2 E ⟨E,E,E,E,Y⟩ E ⟨.inl E,.inl E,.inl E,.inl E,Y⟩) E E ?_
  refine rg ?_;conv=>whnf
  refine Ao 6 3 Bz E ?_
  exact done E (.cons .tmp .nil) [] (B4 n (comeM _ _ _ _) d) (fun _ h=>h) E E ⟨Y,⟨.inl E,E,.inl E,E,.inl E,E,.inl E,E,Y⟩,E,E⟩
 have h3:¬ o.kind=3:=by simpa using h
 rw[if_neg h3]at hres
 clear h
 refine rg ?_;conv=>whnf
 refine⟨fun h=>?_,fun h=>?_⟩
 ·have h4:o.kind=4:=by simpa using h
  rw[if_pos h4]at hres
  have hf:=ho.frame h4
  have q2:=Oe n m d o.domain ⟨-2,0,origin,o.frame⟩ 0 qx (fun _=>hin hf.2) hdr (Dx hm0 _) (Ei hf.1 _ qx qx)
  subst hres
  refine rg ?_;conv=>whnf
  refine Ah (Ai [] E F101 q2 E ⟨E,E,E,E,Y⟩ E ⟨.inl E,.inl E,.inl E,.inl E,Y⟩) E E ?_
  refine rg ?_;conv=>whnf
  refine Ao 6 3 Bz E ?_
  exact done E (.cons .tmp .nil) [] (B4 n (comeM _ _ _ _) d) (fun _ h=>h) E E ⟨Y,⟨.inl E,E,.inl E,E,.inl E,E,.inl E,E,Y⟩,E,E⟩
 have h4:¬ o.kind=4:=by simpa using h
 rw[if_neg h4]at hres
 have h5:o.kind=5:=by have:=ho.kind;omega
 have he:=ho.err h5
 have q2:=Aa5 n m d o.error he.1 he.2 (hdr _)
 subst hres
 clear h
 refine rg ?_;conv=>whnf
 refine Ah (Ai [] E F104 q2 E ⟨E,E,E,E,Y⟩ E ⟨.inl E,.inl E,.inl E,.inl E,Y⟩) E E ?_
 refine rg ?_;conv=>whnf
 refine Ao 6 3 Bz E ?_
 exact done E (.cons .tmp .nil) [] (B4 n (By m o.error) d) (fun _ h=>h) E E ⟨Y,⟨.inl E,E,.inl E,E,.inl E,E,.inl E,E,Y⟩,E,E⟩
def Z6 (up:List Bool) (dn lk:Int) (fw:List Bool):List SV:=[.sl 1 Ad up,.val (.int .u32 dn),.val (.int .i32 lk),.val (.int .u32 0),.sl 1 Ad fw]
def L1 (n:Net) (up:List Bool) (dn lk:Int) (fw:List Bool):Obs:=[(1,.box (Z6 up dn lk fw)),(2,.box [.ptr 1 0]),(3,.box (Z7 n))]
theorem Afx (n:Net) (hn:n.Fin) (up fw:List Bool) (dn lk:Int) :
  Sy.Spec Tryz.prog 180 [.ptr 3 0,.ptr 2 0] (L1 n up dn lk fw) (.tup []) (L1 n up dn lk (Jd n up)):=Ab Γ hm 100 F180 Tryz.ntmps180 rfl fun F hF=>by
 have hf:∃ e,Sy.Spec Tryz.prog 44 [Aq n,.sl 1 Ad up] [] (.tup [.sl 1 Ad (Jd n up),Aa e]) []:=by
  unfold Jd
  split
  ·rename_i h;exact⟨0,W5 n up hn h⟩
  ·rename_i h;exact⟨2,U5 n up hn (by simpa using h)⟩
 obtain ⟨e,hf⟩:=hf
 generalize Jd n up=r at *
 conv=>whnf
 refine Ay hf F44 E E E qq E ?_
 refine rd qq ?_;conv=>whnf
 refine⟨qq,?_⟩
 conv=>whnf
 exact Bg E .nil [] (L1 n up dn lk r) (fun _ h=>h) E E ⟨Y,⟨.inl E,E,.inl E,E,.inl E,E,Y⟩,E,E⟩
theorem Ais (a:Addr) (x:Int) (w:World) (hc:w.cell? a=some (.int .u32 x)):(callFunc 312 #[.pointer (some a)]).run Tryz.prog w=.ok (.value (.int .u32 x)) w :=
 run_call_load Tryz.func312 qq qq qq .u32 qq hc
theorem Wm (n:Net) (up fw:List Bool) (dn lk:Int):Sy.Spec Tryz.prog 255 [.ptr 1 1] (L1 n up dn lk fw) (Ad (dn != 0)) (L1 n up dn lk fw):=Ab Γ hm 100 F255 Tryz.ntmps255 rfl fun F hF=>by
 conv=>whnf
 refine Ah (V8 Ais E E E E) E E ?_
 refine rg ?_;conv=>whnf
 exact done E (.cons .tmp .nil) [] (L1 n up dn lk fw) (fun _ h=>h) E E ⟨Y,⟨.inl E,E,.inl E,E,.inl E,E,Y⟩,E,E⟩
theorem Ok (w:World):(callFunc 348 #[]).run Tryz.prog w=.ok (.value (.tuple #[])) w:=run_call_mark0 Tryz.func348 qq qq qq .disable qq w
theorem Sk (w:World):(callFunc 350 #[]).run Tryz.prog w=.ok (.value (.tuple #[])) w:=run_call_mark0 Tryz.func350 qq qq qq .enable qq w
theorem Xy (a:Addr) (w:World):(callFunc 351 #[.pointer (some a)]).run Tryz.prog w=.ok (.value (.tuple #[])) w:=run_call_marked Tryz.func351 qq qq qq .acquire qq a w
theorem Xx (a:Addr) (w:World):(callFunc 353 #[.pointer (some a)]).run Tryz.prog w=.ok (.value (.tuple #[])) w:=run_call_marked Tryz.func353 qq qq qq .releaseMerge qq a w
theorem Tv (a:Addr) (x:Value) (u:FrameMode) (w:World) (hc:w.cell? a=some x) (hz:w.frozen? a=false) :
  CallsD Tryz.prog 315 #[.pointer (some a),.bool true] u w fun e u' w'=>u'=u∧(e=.returned (.tuple #[])∧w'=w.drew.setCell a (.int .u32 1)):=by
 have hc':w.drew.cell? a=some x:=by go_simp
 have hz':w.drew.frozen? a=false:=by go_simp
 have hst:=run_call_store (P:=Tryz.prog) Tryz.func336 qq qq qq qq (k:=.u32) (y:=1) hc' hz'
 go_enter_d Tryz.func315,Tryz.ntmps315
 go_wp2
 go_region_calls
 all_goals (go_end0;exact⟨rfl,rfl⟩)
theorem S9 (a:Addr) (u:FrameMode) (w:World) (hc:w.cell? a=some (.int .i32 1)) (hz:w.frozen? a=false) :
  CallsD Tryz.prog 314 #[.pointer (some a)] u w fun e u' w'=>u'=u∧(e=.returned (.tuple #[])∧w'=w.setCell a (.int .i32 0)):=by
 have hd:=Ok
 have he:=Sk
 have hr:=Xx
 have hadd:=run_call_add (P:=Tryz.prog) Tryz.func354 qq qq qq .i32 qq (y:=-1) (s:=0) hc hz (by simp[go_sem];rfl)
 have hcv:=run_convert_to_unsafe (P:=Tryz.prog) (src:=440) (dst:=444) Tryz.underlying440 Tryz.underlying444 qq hc
 go_enter_d Tryz.func314,Tryz.ntmps314
 go_wp2
 go_end0
 go_wp2
 go_end0
 exact⟨E,E⟩
theorem Af1 (a:Addr) (w:World) (hc:w.cell? a=some (.int .i32 0)) (hz:w.frozen? a=false) :
  Calls Tryz.prog 313 #[.pointer (some a)] w fun e w'=>e=.returned (.tuple #[])∧w'=w.setCell a (.int .i32 1):=by
 have hd:=Ok
 have he:=Sk
 have ha:=Xy
 have hcas:=run_call_cas_hit (P:=Tryz.prog) Tryz.func349 qq qq qq .i32 qq (y:=1) hc hz
 have hc':(w.setCell a (.int .i32 1)).cell? a=some (.int .i32 1):=World.cell?_setCell_same w a _ hc
 have hcv:=run_convert_to_unsafe (P:=Tryz.prog) (src:=440) (dst:=444) Tryz.underlying440 Tryz.underlying444 qq hc'
 go_enter Tryz.func313,Tryz.ntmps313
 go_wp2
 first | go_end0 | (simp only[Exit.inBlock,Exit.then];refine bodyPost_ret (results_none rfl _ _ _) rfl ?_) | refine bodyPost_ret (results_none rfl _ _ _) rfl ?_
 go_wp2
 go_end0
 exact⟨E,E⟩
end Go.Sy.YtmelpejjondedaaGreat
namespace Go.Sy.YtmelpejjondedaaGreat
open Go.Proofs
set_option maxRecDepth 100000
set_option maxHeartbeats 4000000
theorem Ctx.behind {K:Nat→Prop} {κ κ2:Ka} {w w1 w2:World} (s:Step K κ w κ w1) (c:Ctx ⟨w1,κ⟩ κ2 w2):Ctx ⟨w,κ⟩ κ2 w2 where
 size:=Nat.le_trans s.size c.size
 os:=c.os.trans s.os
 tape:=c.tape.trans s.tape
 output:=c.output.trans s.output
 M:=c.M
 old:=fun b hb h=>by
  refine(c.old b (Nat.lt_of_lt_of_le hb s.size) h).trans ?_
  by_cases hm:κ.M b
  ·exact s.mkeep b hm
  ·exact s.blk b hb (fun ho=>by
    rcases ho with ⟨k,hk⟩ | ho
    ·exact h k hk
    ·exact hm ho)
 own:=fun k b hk=>by
  rcases c.own k b hk with h | h
  ·exact .inl (Nat.le_trans s.size h)
  ·exact .inr h
 nam:=c.nam
theorem Agl {κ:Ka} {w:World} (hi:Inv κ w):Step (fun _=>False) κ w κ w.drew∧Inv κ w.drew:=by
 have g:=Grew.drew w
 exact⟨⟨g.size,g.os,g.tape,g.output,E,fun b _=>rfl,fun b _ _=>rfl,fun _ _ _ _=>rfl,fun _ _=>rfl,fun _ h=>h.elim,fun _ h=>.inl h⟩,⟨hi.inj,hi.bnd,hi.apart,hi.mbnd⟩⟩
theorem Afw (n:Net) (hn:n.Fin) (up fw:List Bool) :
  Sy.Spec Tryz.prog 256 [.ptr 1 1,.clo (.func 180) [] [.ptr 3 0,.ptr 2 0]] (L1 n up 0 0 fw) (.tup []) (L1 n up 1 0 (Jd n up)):=by
 intro κ w vs hi hnew hvs hok
 have o1:=hok (1,.box (Z6 up 0 0 fw)) (by simp[L1])
 have o2:=hok (2,.box [.ptr 1 0]) (by simp[L1])
 have o3:=hok (3,.box (Z7 n)) (by simp[L1])
 obtain ⟨b,e1,c1,c2,st1,inv1,ob1⟩:=Hf (off:=2) (x:=.val (.int .i32 1)) (v:=.int .i32 1) hi o1 rfl (fun _ _=>by simp only[Rd]) rfl
 obtain ⟨b2,_,_,_,e2,_⟩:=id o2
 obtain ⟨b3,_,_,_,e3,_⟩:=id o3
 simp only[RdL,Rd,e1,e2,e3]at hvs
 obtain ⟨v0,r0,rfl,rfl,v1,r1,rfl,⟨fs,cs,rfl,hfs,hcs⟩,rfl⟩:=hvs
 subst hfs
 obtain ⟨p3,q3,rfl,rfl,p2,q2,rfl,rfl,rfl⟩:=hcs
 have hcl:=Afx n hn up fw 0 1 κ (w.setCell ⟨b,2,none⟩ (.int .i32 1)) [.pointer (some ⟨b3,0,none⟩),.pointer (some ⟨b2,0,none⟩)] inv1 hnew (by simp only[RdL,Rd,e2,e3];exact⟨_,_,rfl,rfl,_,_,rfl,rfl,rfl⟩) (fun p hp=>by
  simp only[L1,List.mem_cons,List.not_mem_nil,or_false]at hp
  rcases hp with rfl | rfl | rfl
  ·exact ob1
  ·exact ObOK.step st1 (show ¬ (2:Nat)=1 by decide) _ o2
  ·exact ObOK.step st1 (show ¬ (3:Nat)=1 by decide) _ o3)
 obtain ⟨u1,hu1,hr1⟩:=c1 1 (.val (.int .u32 0)) rfl
 obtain ⟨u2,hu2,hr2⟩:=c1 2 (.val (.int .i32 0)) rfl
 rw[hr1.val]at hu1
 rw[hr2.val]at hu2
 have f1:=c2 1 (show 1<5 by decide)
 have f2:=c2 2 (show 2<5 by decide)
 have hl:=Ais ⟨b,1,none⟩ 0 (w.setCell ⟨b,2,none⟩ (.int .i32 1)) ((World.cell?_setCell_other _ ⟨b,2,none⟩ ⟨b,1,none⟩ _ qy).trans hu1)
 have hnot:∀ (x:Bool) (w:World),(Op.unary .not (.bool x)).run Tryz.prog w=.ok (.bool (!x)) w:=fun _ _=>rfl
 go_enter_defers Tryz.func256,Tryz.ntmps256
 go_wp2_with (first | (go_at_call 313;refine(Af1 ⟨b,2,none⟩ _ (by assumption) (by assumption)).mono ?_;rintro e w' ⟨rfl,rfl⟩) | (go_at_call 180;refine hcl.mono ?_;rintro e w' ⟨v,κ2,rfl,hc2,hi2,hv2,ok2⟩) | (go_at_call 255;go_in))
 have p1:=ok2 (1,.box (Z6 up 0 1 (Jd n up))) (by simp[L1])
 have k1:κ2 1=.blk b:=by
  obtain ⟨bb,_,_,_,q1,_⟩:=id p1
  rcases hc2.nam 1 (by rw[e1];intro h;cases h) with h | h
  ·rw[h];exact e1
  ·rw[h]at q1;cases q1
 obtain ⟨ba,a1,a2,a3,_,_,_⟩:=Hf (off:=1) (x:=.val (.int .u32 1)) (v:=.int .u32 1) hi2 p1 rfl (fun _ _=>by simp only[Rd]) rfl
 rw[k1]at a1
 cases a1
 obtain ⟨std,invd⟩:=Agl hi2
 have p2:=ObOK.step std (k:=1) (fun h=>h) _ p1
 obtain ⟨ba,a1,_,_,st3,inv3,ob3⟩:=Hf (off:=1) (x:=.val (.int .u32 1)) (v:=.int .u32 1) invd p2 rfl (fun _ _=>by simp only[Rd]) rfl
 rw[k1]at a1
 cases a1
 have ob3:ObOK κ2 (w'.drew.setCell ⟨b,1,none⟩ (.int .u32 1)) 1 (.box (Z6 up 1 1 (Jd n up))):=ob3
 obtain ⟨ba,a1,a4,a5,st4,inv4,ob4⟩:=Hf (off:=2) (x:=.val (.int .i32 0)) (v:=.int .i32 0) inv3 ob3 rfl (fun _ _=>by simp only[Rd]) rfl
 rw[k1]at a1
 cases a1
 have ob4:ObOK κ2 ((w'.drew.setCell ⟨b,1,none⟩ (.int .u32 1)).setCell ⟨b,2,none⟩ (.int .i32 0)) 1 (.box (Z6 up 1 0 (Jd n up))):=ob4
 obtain ⟨v1,hv1,hr1⟩:=a2 1 (.val (.int .u32 0)) rfl
 rw[hr1.val]at hv1
 obtain ⟨v2,hv2,hr2⟩:=a4 2 (.val (.int .i32 1)) rfl
 rw[hr2.val]at hv2
 refine leaves_cons (f:=315) (args:=#[.pointer (some ⟨b,1,none⟩),.bool true]) qy (by simp[go_sem]) ?_
 refine(Tv ⟨b,1,none⟩ (.int .u32 0) .returning _ hv1 (a3 1 (show 1<5 by decide))).mono ?_
 rintro e u' w'' ⟨rfl,rfl,rfl⟩
 refine leaves_cons (f:=314) (args:=#[.pointer (some ⟨b,2,none⟩)]) (by simp[settle]) (by simp[go_sem]) ?_
 refine(S9 ⟨b,2,none⟩ _ _ hv2 (a5 2 (show 2<5 by decide))).mono ?_
 rintro e u' w'' ⟨rfl,rfl,rfl⟩
 have hst:Step (·=1) κ2 w' κ2 ((w'.drew.setCell ⟨b,1,none⟩ (.int .u32 1)).setCell ⟨b,2,none⟩ (.int .i32 0)):=(std.weaken (fun _ h=>h.elim)).trans (st3.trans st4)
 refine⟨.tuple #[],by simp[results,Tryz.results256],.tuple #[],κ2,E,Ctx.behind st1 (hc2.step inv4 hst),inv4,⟨[],E,E⟩,fun p hp=>?_⟩
 simp only[L1,List.mem_cons,List.not_mem_nil,or_false]at hp
 rcases hp with rfl | rfl | rfl
 ·exact ob4
 ·exact ObOK.step hst (show ¬ (2:Nat)=1 by decide) _ (ok2 (2,.box [.ptr 1 0]) (by simp[L1]))
 ·exact ObOK.step hst (show ¬ (3:Nat)=1 by decide) _ (ok2 (3,.box (Z7 n)) (by simp[L1]))
end Go.Sy.YtmelpejjondedaaGreat
namespace Go.Sy.YtmelpejjondedaaGreat
open Go.Proofs
attribute [local irreducible] Go.Sy.G Go.Sy.DR
set_option maxRecDepth 100000
set_option maxHeartbeats 4000000
def Qg (n:Net) (up:List Bool) (d:Bool):Obs:=[(1,.box (I6 n up d)),(2,.box [.ptr 1 0]),(3,.box (Z7 n))]
theorem Ak1 (n:Net) (hn:n.Fin) (up:List Bool) :
  Sy.Spec Tryz.prog 179 [.ptr 1 1,.clo (.func 180) [] [.ptr 3 0,.ptr 2 0]] (Qg n up false) (.tup []) (Qg n up true):=Ab Γ hm 100 F179 Tryz.ntmps179 rfl fun F hF=>by
 have q1:Sy.Spec Tryz.prog 255 [.ptr 1 1] (Qg n up false) (Ad false) (Qg n up false):=Wm n up [] 0 0
 have q2:Sy.Spec Tryz.prog 256 [.ptr 1 1,.clo (.func 180) [] [.ptr 3 0,.ptr 2 0]] (Qg n up false) (.tup []) (Qg n up true):=Afw n hn up []
 conv=>whnf
 refine Ah (Ai [] E F255 q1 E ⟨E,E,E,Y⟩ E ⟨.inl E,.inl E,.inl E,Y⟩) E E ?_
 (refine rg ?_;(conv=>whnf);refine aT ?_;refine rg ?_;conv=>whnf)
 refine Ah (Ai [] E F256 q2 E ⟨E,E,E,Y⟩ E ⟨.inl E,.inl E,.inl E,Y⟩) E E ?_
 refine rg ?_;conv=>whnf
 exact Bg E .nil [] (Qg n up true) (fun _ h=>h) E E ⟨Y,⟨.inl E,E,.inl E,E,.inl E,E,Y⟩,E,E⟩
theorem Ak0 (n:Net) (up:List Bool) :
  Sy.Spec Tryz.prog 179 [.ptr 1 1,.clo (.func 180) [] [.ptr 3 0,.ptr 2 0]] (Qg n up true) (.tup []) (Qg n up true):=Ab Γ hm 100 F179 Tryz.ntmps179 rfl fun F hF=>by
 have q1:Sy.Spec Tryz.prog 255 [.ptr 1 1] (Qg n up true) (Ad true) (Qg n up true):=Wm n up (Jd n up) 1 0
 conv=>whnf
 refine Ah (Ai [] E F255 q1 E ⟨E,E,E,Y⟩ E ⟨.inl E,.inl E,.inl E,Y⟩) E E ?_
 (refine rg ?_;(conv=>whnf);refine aF ?_;refine rg ?_;conv=>whnf)
 exact Bg E .nil [] (Qg n up true) (fun _ h=>h) E E ⟨Y,⟨.inl E,E,.inl E,E,.inl E,E,Y⟩,E,E⟩
theorem Akz (n:Net) (hn:n.Fin) (up:List Bool) (d:Bool) :
  Sy.Spec Tryz.prog 179 [.ptr 1 1,.clo (.func 180) [] [.ptr 3 0,.ptr 2 0]] (Qg n up d) (.tup []) (Qg n up true):=by
 cases d
 ·exact Ak1 n hn up
 ·exact Ak0 n up
theorem Afc (n:Net) (hn:n.Fin) (up:List Bool) (d:Bool) :
  Sy.Spec Tryz.prog 103 [.ptr 1 0,Aq n] [(1,.box (I6 n up d))] (.sl 1 Ad (Jd n up)) [(1,.box (I6 n up true))]:=Ab Γ hm 100 F103 Tryz.ntmps103 rfl fun F hF=>by
 conv=>whnf
 refine Ah (Ai [] E F179 (Akz n hn up d) E ⟨E,E,E,Y⟩ E ⟨.inl E,.inl E,.inl E,Y⟩) E E ?_
 refine rg ?_;conv=>whnf
 exact done E (.cons .tmp .nil) [] [(1,.box (I6 n up true))] (fun _ h=>h) E E ⟨Y,⟨.inl E,E,Y⟩,E,E⟩
end Go.Sy.YtmelpejjondedaaGreat
namespace Go.Sy.YtmelpejjondedaaGreat
open Go.Proofs
theorem S1 {n:Net} {fw:List Bool} {t:List EntryM} {dom:Int} {q:QueuedM} {now:Int} (ht:TabOK t) (hq:QueuedOK q):TabOK (bridgeT n fw t dom q now).1:=by
 unfold bridgeT
 split
 ·exact Q0
 split
 ·split
  ·exact Lm ht hq now
  ·exact Lm ht hq now
 ·exact Lm ht hq now
theorem S2 {n:Net} (hn:n.Fin) (hm0:n.Num) {fw:List Bool} {t:List EntryM} {dom:Int} {q:QueuedM} {now:Int} (hq:QueuedOK q):∀ o∈(bridgeT n fw t dom q now).2.1,OutOK n o:=by
 intro o ho
 unfold bridgeT at ho
 split at ho
 ·cases ho
 rename_i h0
 have hb:Af n=true:=by
  cases hx:Af n
  ·exact absurd (.inl (by unfold J6;rw[hx];simp)) h0
  ·rfl
 split at ho
 ·split at ho
  ·cases ho
  ·rename_i h1
   have h1:=Decidable.not_not.1 h1
   have hin:∀ (d:Int),(lookT n (routerT n dom q.frame.dst).1 d).2=true→0≤(lookT n (routerT n dom q.frame.dst).1 d).1∧(lookT n (routerT n dom q.frame.dst).1 d).1.toNat<n.irbs.length:=fun d h=>Aad h
   rw[List.mem_singleton.1 ho]
   exact⟨by dsimp only;omega,by simp,fun _=>⟨Ak8 n hm0 _ _ hin,Ai3 hin h1⟩,fun h=>by dsimp only at h;omega⟩
 ·rcases List.mem_append.1 ho with h | h
  ·obtain ⟨p,_,rfl⟩:=List.mem_map.1 h
   unfold Vv
   exact Aac (by dsimp only;split<;>omega) (Vz _ _ _ _ hq.frame) (Acq _ _ _ _)
  ·obtain ⟨p,_,rfl⟩:=List.mem_map.1 h
   unfold X3
   exact Aac (by dsimp only;omega) (by have:=X7 n dom p q.frame;omega) (Af0 _ _ _ _)
theorem S3 {n:Net} (hn:n.Fin) (fw:List Bool) (t:List EntryM) (dom:Int) (q:QueuedM) (now:Int):(bridgeT n fw t dom q now).2.1.length<4294967296:=by
 unfold bridgeT
 split
 ·show (0:Nat)<4294967296;decide
 split
 ·split
  ·show (0:Nat)<4294967296;decide
  ·show (1:Nat)<4294967296;decide
 ·have:=Vh hn fw (learnQ t q now) dom q.from_ q.frame.dst
  simp only[List.length_append,List.length_map]
  omega
theorem O7 (n:Net) (origin:Int):∀ (a b:List OutM) (m:MacM),Bl n m origin (a++b)=((Bl n (Bl n m origin a).1 origin b).1,(Bl n m origin a).2++(Bl n (Bl n m origin a).1 origin b).2)
 | [],b,m=>by simp[Bl]
 | o::a,b,m=>by
  rw[List.cons_append,Bl,Bl,O7 n origin a b]
  simp
theorem Mx (n:Net) (m:MacM) (origin:Int) (l:List OutM) (j:Nat) (hj:j<l.length) :
  Bl n m origin (l.take (j+1))=((goesM n (Bl n m origin (l.take j)).1 l[j] origin).1,(Bl n m origin (l.take j)).2++(goesM n (Bl n m origin (l.take j)).1 l[j] origin).2):=by
 rw[List.take_succ_eq_append_getElem hj,O7]
 simp[Bl]
theorem Ln (n:Net) (m:MacM) (o:OutM) (origin:Int):(goesM n m o origin).2.length≤1:=by
 unfold goesM
 split
 ·simp
 split
 ·simp
 split
 ·simp
 split<;>simp
theorem Lo (n:Net) (origin:Int):∀ (l:List OutM) (m:MacM),(Bl n m origin l).2.length≤l.length
 | [],m=>by simp[Bl]
 | o::l,m=>by
  rw[Bl]
  have h1:=Lo n origin l (goesM n m o origin).1
  have h2:=Ln n m o origin
  simp only[List.length_append,List.length_cons]
  omega
end Go.Sy.YtmelpejjondedaaGreat
namespace Go.Sy.YtmelpejjondedaaGreat
open Go.Proofs
attribute [local irreducible] Go.Sy.G Go.Sy.DR
set_option maxRecDepth 100000
set_option maxHeartbeats 4000000
theorem Z0 {n:Net} {m:MacM} {J D:Int} (h:MacOK n m J D) (hD:0≤D) (dom:Int) {r:List EntryM × List OutM × Int} (hr:TabOK r.1):MacOK n (Ol m dom r) J (D+1):=by
 unfold Ol
 split
 ·exact K3 h hD 2
 split
 ·exact K3 (Xt h dom hr) hD _
 ·exact(Xt h dom hr).mono (Int.le_refl _) qn
def queL (q:QueuedM):List SV:=[Aa q.from_,Aa q.peer,Aa q.origin,A7 q.frame.dst,A7 q.frame.src,Aa q.frame.typ,.sl 1 Ak q.frame.body]
def Ah7 (n:Net) (m:MacM) (q:QueuedM) (l:List SeenM):Obs:=[(0,.box (Qv n 1 m.now m.injected m.drops)),(1,.box (I6 n m.up true)),(2,.row 1 E9 m.tables),(3,.row 1 Sl m.queues),(7,.box (queL q)),(1000,.row 3 Bz l)]
theorem Ahp (n:Net) (hn:n.Fin) (hm1:n.Num) (m:MacM) (d:Bool) (J D:Int) (hm0:MacOK n m J D) (hD0:0≤D) (hD:D≤900000000000) (dom at_:Int) :
  Sy.Spec Tryz.prog 52 [.ptr 0 0,Aa dom,Aa at_] (B4 n m d) (.sl 3 Bz (pickT n m dom at_).2) (B4 n (pickT n m dom at_).1 (if (takeM m dom at_).2.2 then true else d)):=Ab Γ hm 100 F52 Tryz.ntmps52 rfl fun F hF=>by
 have hres:=pickT.eq_1 n m dom at_
 generalize pickT n m dom at_=res at *
 have q1:=Zj n m d dom at_ (Dx hm0 dom)
 have hok:=Tu hm0 dom at_
 have hpl:(takeM m dom at_).2.2=true→0≤dom∧dom.toNat<m.queues.length:=fun h=>by
  unfold takeM at h
  split at h
  ·cases h
  ·rename_i h2
   exact placeB_iff.1 (by cases hx:Aj dom m.queues.length;exact absurd hx h2;rfl)
 have htl:(takeM m dom at_).1.tables=m.tables:=by unfold takeM;split<;>rfl
 generalize takeM m dom at_=r at *
 obtain ⟨m1,q,ok⟩:=r
 have htq:m.queues.length=m.tables.length:=by rw[hm0.ques,hm0.tabs]
 conv=>whnf
 refine Ah (Ai [] E F53 q1 E ⟨E,E,E,E,Y⟩ E ⟨.inl E,.inl E,.inl E,.inl E,Y⟩) E E ?_
 refine rg ?_;conv=>whnf
 cases ok
 ·rw[if_pos rfl]at hres
  subst hres
  (refine⟨fun _=>?_,fun h=>False.elim (by simp at h)⟩;refine rg ?_;conv=>whnf)
  refine Ao 6 3 Bz E ?_
  exact done E (.cons .tmp .nil) [] (B4 n m1 d) (fun _ h=>h) E E ⟨Y,⟨.inl E,E,.inl E,E,.inl E,E,.inl E,E,Y⟩,E,E⟩
 rw[if_neg qy]at hres
 have hd:=hpl rfl
 have hd2:0≤dom∧dom.toNat<m1.tables.length:=by rw[htl,← htq];exact hd
 dsimp only at hres hok
 have q2:=Afc n hn m1.up d
 have q3:=Abe n hn hm1 (Jd n m1.up) (tableL m1 dom) dom q m1.now (Qq hok.1 dom) hok.2
 have hb1:=S1 (n:=n) (fw:=Jd n m1.up) (dom:=dom) (now:=m1.now) (Qq hok.1 dom) hok.2
 have hb2:=S2 (fw:=Jd n m1.up) (t:=tableL m1 dom) (dom:=dom) (now:=m1.now) hn hm1 hok.2
 have hb3:=S3 hn (Jd n m1.up) (tableL m1 dom) dom q m1.now
 have hb4:=Abd n (Jd n m1.up) (tableL m1 dom) dom q m1.now
 rw[Z1]at hres
 have hz:=Z0 hok.1 hD0 dom hb1
 generalize bridgeT n (Jd n m1.up) (tableL m1 dom) dom q m1.now=b at *
 obtain ⟨t,out,e⟩:=b
 have hb2:∀ o∈out,OutOK n o:=hb2
 have hb3:out.length<4294967296:=hb3
 have hb4:Bd e:=hb4
 have ht0:=tableL.eq_1 m1 dom
 rw[O8 hd2.2]at ht0
 generalize tableL m1 dom=t0 at *
 subst ht0
 (refine⟨fun h=>False.elim (by simp at h),fun _=>?_⟩;refine rg ?_;conv=>whnf)
 refine Bs (Ai [] E F103 q2 E ⟨E,Y⟩ E ⟨.inl E,Y⟩) qq E ?_
 refine rd qq ?_;conv=>whnf
 refine⟨hd2.1,hd2.2,?_⟩
 conv=>whnf
 refine⟨E,hd2.2,?_⟩
 conv=>whnf
 refine Ay q3 F102 E E E qq E ?_
 refine rd qq ?_;conv=>whnf
 refine⟨qq,?_⟩
 conv=>whnf
 refine⟨fun h=>?_,fun h=>?_⟩
 ·have h2:¬ e=2:=by simpa using h
  clear h
  refine rg ?_;conv=>whnf
  refine⟨hd2.1,hd2.2,?_⟩
  conv=>whnf
  refine⟨E,hd2.2,t,E,E,?_⟩
  conv=>whnf
  refine⟨fun h=>?_,fun h=>?_⟩
  ·have h3:¬ e=0:=by simpa using h
   clear h
   have hpd:Ol m1 dom (t,out,e)=By (Dq m1 dom t) e:=by
    unfold Ol
    rw[if_neg h2,if_pos h3]
   rw[hpd]at hres hz
   subst hres
   have q4:=Aa5 n (Dq m1 dom t) true e hb4.1 hb4.2 ⟨(hok.1.drp _).1,by have:=(hok.1.drp e.toNat).2;show m1.drops e.toNat≤1000000000000;omega⟩
   refine rg ?_;conv=>whnf
   refine Ah (Ai [] E F104 q4 E ⟨E,E,E,E,Y⟩ E ⟨.inl E,.inl E,.inl E,.inl E,Y⟩) E E ?_
   refine rg ?_;conv=>whnf
   have hdr:Lv (By (Dq m1 dom t) e):=fun i=>⟨(hz.drp i).1,by have:=(hz.drp i).2;omega⟩
   refine Ca 12 1000 3 Bz E E ?_
   refine A1 out.length (fun j=>[(0,.ptr 0 0),(7,.ptr 7 0),(12,.osl 1000),(69,.sl 9 Df out),(70,Aa out.length),(71,Aa j)]) (fun j=>Ah7 n (Bl n (By (Dq m1 dom t) e) q.origin (out.take j)).1 q (Bl n (By (Dq m1 dom t) e) q.origin (out.take j)).2) [] ⟨⟨E,E,E,E,E,E,E,E,E,E,E,E,Y⟩,⟨.inl E,E,.inl E,E,.inl E,E,.inl E,E,.inl E,E,.inl E,E,Y⟩,E,E⟩ ?_
   intro j hj
   refine rg ?_;conv=>whnf
   refine⟨fun h=>?_,fun h=>?_⟩
   ·have hlt:j<out.length:=by have:=of_decide_eq_true h;omega
    have hj0:((j:Nat):Int).toNat<out.length:=by simpa using hlt
    obtain ⟨o,hoo⟩:∃ o,out[j]=o:=⟨_,rfl⟩
    have e1:out[((j:Nat):Int).toNat]'hj0=o:=hoo
    have hs:=Mx n (By (Dq m1 dom t) e) q.origin out j hlt
    rw[hoo]at hs
    have hjo:=Kz hn q.origin (out.take j) hz qn (fun x hx=>hb2 x (List.mem_of_mem_take hx))
    have hlen:(out.take j).length=j:=by rw[List.length_take];omega
    rw[hlen]at hjo
    have hsl:=Lo n q.origin (out.take j) (By (Dq m1 dom t) e)
    rw[hlen]at hsl
    have q5:=Tx n hn (Bl n (By (Dq m1 dom t) e) q.origin (out.take j)).1 true J _ hjo qn o (hb2 o (by rw[← hoo];exact List.getElem_mem hlt)) q.origin
    have hfw:=Ln n (Bl n (By (Dq m1 dom t) e) q.origin (out.take j)).1 o q.origin
    clear h
    refine rg ?_;conv=>whnf
    refine⟨E,by omega,hj0,?_⟩
    rw[e1]
    conv=>whnf
    refine Ah (Ai [] E F105 q5 E ⟨E,E,E,E,Y⟩ E ⟨.inl E,.inl E,.inl E,.inl E,Y⟩) E E ?_
    refine rg ?_;conv=>whnf
    refine Ah (Al Γ.toTy 81 E E E E E (.row E) .sl qy qn qn) E E ?_
    refine rg ?_;conv=>whnf
    refine⟨by unfold I64;omega,?_⟩
    conv=>whnf
    have g1:(Bl n (By (Dq m1 dom t) e) q.origin (out.take (j+1))).1=(goesM n (Bl n (By (Dq m1 dom t) e) q.origin (out.take j)).1 o q.origin).1:=by rw[hs]
    have g2:(Bl n (By (Dq m1 dom t) e) q.origin (out.take (j+1))).2=(Bl n (By (Dq m1 dom t) e) q.origin (out.take j)).2++(goesM n (Bl n (By (Dq m1 dom t) e) q.origin (out.take j)).1 o q.origin).2:=by rw[hs]
    refine Ar [(1000,81)] hlt ⟨⟨E,E,E,E,E,E,E,E,E,E,E,E,Y⟩,?_,E,E⟩
    dsimp only
    rw[g1,g2]
    exact⟨.inl E,E,.inl E,E,.inl E,E,.inl E,E,.inl E,E,.inl E,E,Y⟩
   ·have hjj:j=out.length:=by have:=of_decide_eq_false h;omega
    subst hjj
    rw[List.take_length]
    clear h
    refine rg ?_;conv=>whnf
    refine At 1000 E ?_
    exact done E (.cons .tmp .nil) [] (B4 n (Bl n (By (Dq m1 dom t) e) q.origin out).1 true) (fun _ h=>h) E E ⟨Y,⟨.inl E,E,.inl E,E,.inl E,E,.inl E,E,Y⟩,E,E⟩
  ·have h3:e=0:=by simpa using h
   clear h
   have hpd:Ol m1 dom (t,out,e)=Dq m1 dom t:=by
    unfold Ol
    rw[if_neg h2,if_neg (fun h=>h h3)]
   rw[hpd]at hres hz
   subst hres
   refine rg ?_;conv=>whnf
   have hdr:Lv (Dq m1 dom t):=fun i=>⟨(hz.drp i).1,by have:=(hz.drp i).2;omega⟩
   refine Ca 12 1000 3 Bz E E ?_
   refine A1 out.length (fun j=>[(0,.ptr 0 0),(7,.ptr 7 0),(12,.osl 1000),(69,.sl 9 Df out),(70,Aa out.length),(71,Aa j)]) (fun j=>Ah7 n (Bl n (Dq m1 dom t) q.origin (out.take j)).1 q (Bl n (Dq m1 dom t) q.origin (out.take j)).2) [] ⟨⟨E,E,E,E,E,E,E,E,E,E,E,E,Y⟩,⟨.inl E,E,.inl E,E,.inl E,E,.inl E,E,.inl E,E,.inl E,E,Y⟩,E,E⟩ ?_
   intro j hj
   refine rg ?_;conv=>whnf
   refine⟨fun h=>?_,fun h=>?_⟩
   ·have hlt:j<out.length:=by have:=of_decide_eq_true h;omega
    have hj0:((j:Nat):Int).toNat<out.length:=by simpa using hlt
    obtain ⟨o,hoo⟩:∃ o,out[j]=o:=⟨_,rfl⟩
    have e1:out[((j:Nat):Int).toNat]'hj0=o:=hoo
    have hs:=Mx n (Dq m1 dom t) q.origin out j hlt
    rw[hoo]at hs
    have hjo:=Kz hn q.origin (out.take j) hz qn (fun x hx=>hb2 x (List.mem_of_mem_take hx))
    have hlen:(out.take j).length=j:=by rw[List.length_take];omega
    rw[hlen]at hjo
    have hsl:=Lo n q.origin (out.take j) (Dq m1 dom t)
    rw[hlen]at hsl
    have q5:=Tx n hn (Bl n (Dq m1 dom t) q.origin (out.take j)).1 true J _ hjo qn o (hb2 o (by rw[← hoo];exact List.getElem_mem hlt)) q.origin
    have hfw:=Ln n (Bl n (Dq m1 dom t) q.origin (out.take j)).1 o q.origin
    clear h
    refine rg ?_;conv=>whnf
    refine⟨E,by omega,hj0,?_⟩
    rw[e1]
    conv=>whnf
    refine Ah (Ai [] E F105 q5 E ⟨E,E,E,E,Y⟩ E ⟨.inl E,.inl E,.inl E,.inl E,Y⟩) E E ?_
    refine rg ?_;conv=>whnf
    refine Ah (Al Γ.toTy 81 E E E E E (.row E) .sl qy qn qn) E E ?_
    refine rg ?_;conv=>whnf
    refine⟨by unfold I64;omega,?_⟩
    conv=>whnf
    have g1:(Bl n (Dq m1 dom t) q.origin (out.take (j+1))).1=(goesM n (Bl n (Dq m1 dom t) q.origin (out.take j)).1 o q.origin).1:=by rw[hs]
    have g2:(Bl n (Dq m1 dom t) q.origin (out.take (j+1))).2=(Bl n (Dq m1 dom t) q.origin (out.take j)).2++(goesM n (Bl n (Dq m1 dom t) q.origin (out.take j)).1 o q.origin).2:=by rw[hs]
    refine Ar [(1000,81)] hlt ⟨⟨E,E,E,E,E,E,E,E,E,E,E,E,Y⟩,?_,E,E⟩
    dsimp only
    rw[g1,g2]
    exact⟨.inl E,E,.inl E,E,.inl E,E,.inl E,E,.inl E,E,.inl E,E,Y⟩
   ·have hjj:j=out.length:=by have:=of_decide_eq_false h;omega
    subst hjj
    rw[List.take_length]
    clear h
    refine rg ?_;conv=>whnf
    refine At 1000 E ?_
    exact done E (.cons .tmp .nil) [] (B4 n (Bl n (Dq m1 dom t) q.origin out).1 true) (fun _ h=>h) E E ⟨Y,⟨.inl E,E,.inl E,E,.inl E,E,.inl E,E,Y⟩,E,E⟩
 ·have h2:e=2:=by simpa using h
  clear h
  subst h2
  have hpd:Ol m1 dom (t,out,2)=By m1 2:=by
   unfold Ol
   rw[if_pos rfl]
  rw[hpd]at hres hz
  subst hres
  have q4:=Aa5 n m1 true 2 qx qx ⟨(hok.1.drp _).1,by have:=(hok.1.drp (Int.toNat 2)).2;omega⟩
  (refine rg ?_;(conv=>whnf);refine aT ?_;refine rg ?_;conv=>whnf)
  refine Ah (Ai [] E F104 q4 E ⟨E,E,E,E,Y⟩ E ⟨.inl E,.inl E,.inl E,.inl E,Y⟩) E E ?_
  refine rg ?_;conv=>whnf
  have hdr:Lv (By m1 2):=fun i=>⟨(hz.drp i).1,by have:=(hz.drp i).2;omega⟩
  refine Ca 12 1000 3 Bz E E ?_
  refine A1 out.length (fun j=>[(0,.ptr 0 0),(7,.ptr 7 0),(12,.osl 1000),(69,.sl 9 Df out),(70,Aa out.length),(71,Aa j)]) (fun j=>Ah7 n (Bl n (By m1 2) q.origin (out.take j)).1 q (Bl n (By m1 2) q.origin (out.take j)).2) [] ⟨⟨E,E,E,E,E,E,E,E,E,E,E,E,Y⟩,⟨.inl E,E,.inl E,E,.inl E,E,.inl E,E,.inl E,E,.inl E,E,Y⟩,E,E⟩ ?_
  intro j hj
  refine rg ?_;conv=>whnf
  refine⟨fun h=>?_,fun h=>?_⟩
  ·have hlt:j<out.length:=by have:=of_decide_eq_true h;omega
   have hj0:((j:Nat):Int).toNat<out.length:=by simpa using hlt
   obtain ⟨o,hoo⟩:∃ o,out[j]=o:=⟨_,rfl⟩
   have e1:out[((j:Nat):Int).toNat]'hj0=o:=hoo
   have hs:=Mx n (By m1 2) q.origin out j hlt
   rw[hoo]at hs
   have hjo:=Kz hn q.origin (out.take j) hz qn (fun x hx=>hb2 x (List.mem_of_mem_take hx))
   have hlen:(out.take j).length=j:=by rw[List.length_take];omega
   rw[hlen]at hjo
   have hsl:=Lo n q.origin (out.take j) (By m1 2)
   rw[hlen]at hsl
   have q5:=Tx n hn (Bl n (By m1 2) q.origin (out.take j)).1 true J _ hjo qn o (hb2 o (by rw[← hoo];exact List.getElem_mem hlt)) q.origin
   have hfw:=Ln n (Bl n (By m1 2) q.origin (out.take j)).1 o q.origin
   clear h
   refine rg ?_;conv=>whnf
   refine⟨E,by omega,hj0,?_⟩
   rw[e1]
   conv=>whnf
   refine Ah (Ai [] E F105 q5 E ⟨E,E,E,E,Y⟩ E ⟨.inl E,.inl E,.inl E,.inl E,Y⟩) E E ?_
   refine rg ?_;conv=>whnf
   refine Ah (Al Γ.toTy 81 E E E E E (.row E) .sl qy qn qn) E E ?_
   refine rg ?_;conv=>whnf
   refine⟨by unfold I64;omega,?_⟩
   conv=>whnf
   have g1:(Bl n (By m1 2) q.origin (out.take (j+1))).1=(goesM n (Bl n (By m1 2) q.origin (out.take j)).1 o q.origin).1:=by rw[hs]
   have g2:(Bl n (By m1 2) q.origin (out.take (j+1))).2=(Bl n (By m1 2) q.origin (out.take j)).2++(goesM n (Bl n (By m1 2) q.origin (out.take j)).1 o q.origin).2:=by rw[hs]
   refine Ar [(1000,81)] hlt ⟨⟨E,E,E,E,E,E,E,E,E,E,E,E,Y⟩,?_,E,E⟩
   dsimp only
   rw[g1,g2]
   exact⟨.inl E,E,.inl E,E,.inl E,E,.inl E,E,.inl E,E,.inl E,E,Y⟩
  ·have hjj:j=out.length:=by have:=of_decide_eq_false h;omega
   subst hjj
   rw[List.take_length]
   clear h
   refine rg ?_;conv=>whnf
   refine At 1000 E ?_
   exact done E (.cons .tmp .nil) [] (B4 n (Bl n (By m1 2) q.origin out).1 true) (fun _ h=>h) E E ⟨Y,⟨.inl E,E,.inl E,E,.inl E,E,.inl E,E,Y⟩,E,E⟩
theorem Ae2 (l:List (List EntryM)) (now:Int) (j:Nat) (hj:j<l.length) :
  ((l.take j).map (fun t=>ageT t now)++l.drop j).set j (ageT l[j] now)=(l.take (j+1)).map (fun t=>ageT t now)++l.drop (j+1):=by
 apply List.ext_getElem
 ·simp only[List.length_set,List.length_append,List.length_map,List.length_take,List.length_drop];omega
 intro i h1 h2
 simp only[List.length_set,List.length_append,List.length_map,List.length_take,List.length_drop]at h1
 rw[List.getElem_set]
 by_cases hi:j=i
 ·subst hi
  rw[if_pos rfl,List.getElem_append_left (by simp;omega)]
  simp
 ·rw[if_neg hi]
  by_cases hlt:i<j
  ·rw[List.getElem_append_left (by simp;omega),List.getElem_append_left (by simp;omega)]
   simp
  ·rw[List.getElem_append_right (by simp;omega),List.getElem_append_right (by simp;omega)]
   simp only[List.getElem_drop,List.length_map,List.length_take]
   congr 1
   omega
theorem W4 {P:Program} {o:Oper} {s:SS} {x y:Operand} {at_:Array TypeId} {k k':IntKind} {m n r:Int} (hr:(if n<m then n else m)=r) (h:o.op=.call ⟨.builtin .min,#[x,y],at_⟩)
  (hx:ev s x=.val (.int k m)) (hy:ev s y=.val (.int k' n)):Good P o s ⟨.val (.int k r),[],[]⟩:=by
 have:=Aja (P:=P) h hx hy
 rwa [hr]at this
def Tj (l:List (List EntryM)) (now:Int) (j:Nat):List (List EntryM):=(l.take j).map (fun t=>ageT t now)++l.drop j
theorem Aj4 (l:List (List EntryM)) (now:Int) (j:Nat) (hj:j<l.length) (h2:j<(Tj l now j).length):(Tj l now j)[j]=l[j]:=by
 have h:(Tj l now j)[j]? = l[j]?:=by
  unfold Tj
  have hm:min j l.length=j:=by omega
  rw[List.getElem?_append_right (by simp;omega),List.getElem?_drop,List.length_map,List.length_take,hm,Nat.sub_self,Nat.add_zero]
 rw[List.getElem?_eq_getElem hj,List.getElem?_eq_getElem h2]at h
 exact Option.some.inj h
theorem Abk (l:List (List EntryM)) (now:Int) (j:Nat):(Tj l now j).length=l.length:=by
 unfold Tj
 simp only[List.length_append,List.length_map,List.length_take,List.length_drop]
 omega
def tickO (n:Net) (m:MacM) (d:Bool) (now:Int) (j:Nat):Obs:=[(0,.box (Qv n 1 now m.injected m.drops)),(1,.box (I6 n m.up d)),(2,.row 1 E9 (Tj m.tables now j)),(3,.row 1 Sl m.queues)]
theorem Aho (n:Net) (m:MacM) (d:Bool) (J D:Int) (hm0:MacOK n m J D) (hs:Am n.domains) :
  Sy.Spec Tryz.prog 54 [.ptr 0 0] (B4 n m d) (.tup []) (B4 n (L5 m) d):=Ab Γ hm 100 F54 Tryz.ntmps54 rfl fun F hF=>by
 unfold Am at hs
 have hnow:=hm0.now
 have htl:m.tables.length<2147483648:=by rw[hm0.tabs];exact hs
 have hto:=hm0.tab
 obtain ⟨nw,hnw⟩:∃ nw,(if 1099511627776<m.now+1 then 1099511627776 else m.now+1)=nw:=⟨_,rfl⟩
 have hti:L5 m=⟨m.up,Tj m.tables nw m.tables.length,m.queues,nw,m.injected,m.drops⟩:=by
  have:min (m.now+1) 1099511627776=nw:=by rw[← hnw];split<;>omega
  unfold L5 Tj
  rw[this,List.take_length,List.drop_length,List.append_nil]
 rw[hti]
 conv=>whnf
 refine⟨by unfold I64;omega,?_⟩
 conv=>whnf
 refine Ah (W4 hnw E E E) E E ?_
 refine rg ?_;conv=>whnf
 refine A1 m.tables.length (fun j=>[(0,.ptr 0 0),(16,.osl 2),(17,Aa m.tables.length),(18,Aa j)]) (fun j=>tickO n m d nw j) [] ⟨⟨E,E,E,E,E,E,E,E,Y⟩,⟨.inl E,E,.inl E,E,.inl E,E,.inl E,E,Y⟩,E,E⟩ ?_
 intro j hj
 refine rg ?_;conv=>whnf
 refine⟨fun h=>?_,fun h=>?_⟩
 ·have hlt:j<m.tables.length:=by have:=of_decide_eq_true h;omega
  have hal:=Abk m.tables nw j
  have hj0:((j:Nat):Int).toNat<(Tj m.tables nw j).length:=by rw[hal];simpa using hlt
  obtain ⟨t,hoo⟩:∃ t,m.tables[j]=t:=⟨_,rfl⟩
  have e1:(Tj m.tables nw j)[((j:Nat):Int).toNat]'hj0=t:=(Aj4 m.tables nw j hlt (by rw[hal];exact hlt)).trans hoo
  have hs:=Ae2 m.tables nw j hlt
  rw[hoo]at hs
  have ht:=hto t (by rw[← hoo];exact List.getElem_mem hlt)
  clear h
  refine rg ?_;conv=>whnf
  refine⟨by omega,hj0,?_⟩
  conv=>whnf
  refine⟨E,hj0,?_⟩
  rw[e1]
  conv=>whnf
  refine Ay (Akl t nw ht.short ht.mac) F107 E E E qq E ?_
  refine rd qq ?_;conv=>whnf
  refine⟨by omega,hj0,?_⟩
  conv=>whnf
  refine⟨E,hj0,ageT t nw,E,E,?_⟩
  conv=>whnf
  refine⟨qq,?_⟩
  conv=>whnf
  refine⟨by unfold I64;omega,?_⟩
  conv=>whnf
  exact Ar [] hlt ⟨⟨E,E,E,E,E,E,E,E,Y⟩,⟨.inl E,E,.inl E,E,.inl (congrArg (Ob.row 1 E9) hs.symm),E,.inl E,E,Y⟩,E,E⟩
 ·have hjj:j=m.tables.length:=by have:=of_decide_eq_false h;omega
  subst hjj
  clear h
  refine rg ?_;conv=>whnf
  exact Bg E .nil [] (B4 n ⟨m.up,Tj m.tables nw m.tables.length,m.queues,nw,m.injected,m.drops⟩ d) (fun _ h=>h) E E ⟨Y,⟨.inl E,E,.inl E,E,.inl E,E,.inl E,E,Y⟩,E,E⟩
def Zk (n:Net) (m:MacM) (d:Bool):Obs:=[(0,.box (Qv n 4 m.now m.injected m.drops)),(1,.non),(2,.row 1 E9 m.tables),(3,.row 1 Sl m.queues),(4,.box (I6 n m.up d))]
def upT (m:MacM) (up:List Bool):MacM:=⟨up,m.tables,m.queues,m.now,m.injected,m.drops⟩
def doD (n:Net) (m:MacM) (d:Bool) (x:StepM):Bool :=
 if x.kind=1 then d else if x.kind=2 then (if (takeM m x.domain x.at_).2.2 then true else d) else if x.kind=3 then d else if x.kind=4 then d else if x.kind=5 then (if x.up.length=n.links.length then false else d) else d
theorem simDoS (n:Net) (hn:n.Fin) (hm1:n.Num) (m:MacM) (d:Bool) (J D:Int) (hm0:MacOK n m J D) (hJ:J<900000000000) (hD0:0≤D) (hD:D≤900000000000) (x:StepM) (hb:x.bytes.length<100000) :
  Sy.Spec Tryz.prog 21 [.ptr 0 0,Ce x] (B4 n m d) (.tup [.sl 3 Bz (doT n m x).2,Aa 0]) (Zk n (doT n m x).1 (doD n m d x)):=Ab Γ hm 100 F21 Tryz.ntmps21 rfl fun F hF=>by
 have hres:=doT.eq_1 n m x
 generalize doT n m x=res at *
 have hdd:=doD.eq_1 n m d x
 generalize doD n m d x=dd at *
 conv=>whnf
 refine Ah (Aat (d:=900) E E E) E E ?_
 (refine rg ?_;(conv=>whnf);refine aF ?_;refine rg ?_;conv=>whnf)
 refine⟨fun h=>?_,fun h=>?_⟩
 ·have h1:x.kind=1:=by simpa using h
  rw[if_pos h1]at hres hdd
  subst hres
  subst hdd
  have q1:=Abz n hn m dd J D hm0 qn qn x.port x.bytes hb
  refine rg ?_;conv=>whnf
  refine Ah (Ai [] E F51 q1 E ⟨E,E,E,E,Y⟩ E ⟨.inl E,.inl E,.inl E,.inl E,Y⟩) E E ?_
  refine rg ?_;conv=>whnf
  refine Ao 4 3 Bz E ?_
  refine E4 1 4 E E qx ?_
  exact done E (.cons .tmp (.cons .tmp .nil)) [] (Zk n (injectT n m x.port x.bytes) dd) (fun _ h=>h) E E ⟨Y,⟨.inl E,E,.inl E,E,.inl E,E,.inl E,E,.inl E,E,Y⟩,E,E⟩
 have h1:¬ x.kind=1:=by simpa using h
 rw[if_neg h1]at hres hdd
 clear h
 refine rg ?_;conv=>whnf
 refine⟨fun h=>?_,fun h=>?_⟩
 ·have h1:x.kind=2:=by simpa using h
  rw[if_pos h1]at hres hdd
  subst hres
  have q1:=Ahp n hn hm1 m d J D hm0 hD0 hD x.domain x.at_
  rw[← hdd]at q1
  refine rg ?_;conv=>whnf
  refine Ah (Ai [] E F52 q1 E ⟨E,E,E,E,Y⟩ E ⟨.inl E,.inl E,.inl E,.inl E,Y⟩) E E ?_
  refine rg ?_;conv=>whnf
  refine E4 1 4 E E qx ?_
  exact done E (.cons .tmp (.cons .tmp .nil)) [] (Zk n (pickT n m x.domain x.at_).1 dd) (fun _ h=>h) E E ⟨Y,⟨.inl E,E,.inl E,E,.inl E,E,.inl E,E,.inl E,E,Y⟩,E,E⟩
 have h1:¬ x.kind=2:=by simpa using h
 rw[if_neg h1]at hres hdd
 clear h
 refine rg ?_;conv=>whnf
 refine⟨fun h=>?_,fun h=>?_⟩
 ·have h1:x.kind=3:=by simpa using h
  rw[if_pos h1]at hres hdd
  subst hres
  subst hdd
  have q1:=Zj n m dd x.domain x.at_ (Dx hm0 _)
  refine rg ?_;conv=>whnf
  refine Ah (Ai [] E F53 q1 E ⟨E,E,E,E,Y⟩ E ⟨.inl E,.inl E,.inl E,.inl E,Y⟩) E E ?_
  refine rg ?_;conv=>whnf
  refine Ao 4 3 Bz E ?_
  refine E4 1 4 E E qx ?_
  exact done E (.cons .tmp (.cons .tmp .nil)) [] (Zk n (takeM m x.domain x.at_).1 dd) (fun _ h=>h) E E ⟨Y,⟨.inl E,E,.inl E,E,.inl E,E,.inl E,E,.inl E,E,Y⟩,E,E⟩
 have h1:¬ x.kind=3:=by simpa using h
 rw[if_neg h1]at hres hdd
 clear h
 refine rg ?_;conv=>whnf
 refine⟨fun h=>?_,fun h=>?_⟩
 ·have h1:x.kind=4:=by simpa using h
  rw[if_pos h1]at hres hdd
  subst hres
  subst hdd
  have q1:=Aho n m dd J D hm0 hn.domains
  refine rg ?_;conv=>whnf
  refine Ah (Ai [] E F54 q1 E ⟨E,E,E,E,Y⟩ E ⟨.inl E,.inl E,.inl E,.inl E,Y⟩) E E ?_
  refine rg ?_;conv=>whnf
  refine Ao 4 3 Bz E ?_
  refine E4 1 4 E E qx ?_
  exact done E (.cons .tmp (.cons .tmp .nil)) [] (Zk n (L5 m) dd) (fun _ h=>h) E E ⟨Y,⟨.inl E,E,.inl E,E,.inl E,E,.inl E,E,.inl E,E,Y⟩,E,E⟩
 have h1:¬ x.kind=4:=by simpa using h
 rw[if_neg h1]at hres hdd
 clear h
 refine rg ?_;conv=>whnf
 refine⟨fun h=>?_,fun h=>?_⟩
 ·have h1:x.kind=5:=by simpa using h
  rw[if_pos h1]at hres hdd
  clear h
  refine rg ?_;conv=>whnf
  refine⟨qq,?_⟩
  conv=>whnf
  refine⟨fun h=>?_,fun h=>?_⟩
  ·have h2:x.up.length=n.links.length:=by have:=of_decide_eq_true h;omega
   rw[if_pos h2]at hres hdd
   subst hres
   subst hdd
   clear h
   have hls:=hn.links
   unfold Am at hls
   refine rg ?_;conv=>whnf
   refine Ag (Vk x.up qn) F55 E E E E E ?_
   refine rg ?_;conv=>whnf
   refine Ao 4 3 Bz E ?_
   refine A0 55 (I6 n x.up false) E (.cons (.refl _) (.cons (.refl _) (.cons (.refl _) (.cons (.refl _) (.cons .nil .nil))))) ?_
   exact done E (.cons .tmp (.cons .tmp .nil)) [(4,55)] (Zk n (upT m x.up) false) (fun _ h=>h) E E ⟨Y,⟨.inl E,E,.inr E,E,.inl E,E,.inl E,E,.inl E,E,Y⟩,E,E⟩
  ·have h2:¬ x.up.length=n.links.length:=by have:=of_decide_eq_false h;omega
   rw[if_neg h2]at hres hdd
   subst hres
   subst hdd
   clear h
   refine rg ?_;conv=>whnf
   refine Ao 4 3 Bz E ?_
   refine E4 1 4 E E qx ?_
   exact done E (.cons .tmp (.cons .tmp .nil)) [] (Zk n m dd) (fun _ h=>h) E E ⟨Y,⟨.inl E,E,.inl E,E,.inl E,E,.inl E,E,.inl E,E,Y⟩,E,E⟩
 have h1:¬ x.kind=5:=by simpa using h
 rw[if_neg h1]at hres hdd
 subst hres
 subst hdd
 clear h
 refine rg ?_;conv=>whnf
 refine Ao 4 3 Bz E ?_
 refine E4 1 4 E E qx ?_
 exact done E (.cons .tmp (.cons .tmp .nil)) [] (Zk n m dd) (fun _ h=>h) E E ⟨Y,⟨.inl E,E,.inl E,E,.inl E,E,.inl E,E,.inl E,E,Y⟩,E,E⟩
theorem Aby (n:Net) (hn:n.Fin) (hb:okB n (List.replicate n.links.length true)=false) :
  Sy.Spec Tryz.prog 18 [Aq n] [] (.tup [.val (.pointer none),Aa 2]) []:=Ab Γ hm 100 F18 Tryz.ntmps18 rfl fun F hF=>by
 have hls:=hn.links
 unfold Am at hls
 have q1:=Ad9 n.links.length qn
 have q2:=U5 n (List.replicate n.links.length true) hn hb
 generalize List.replicate n.links.length true=up at *
 conv=>whnf
 refine Eg 7 Ad [true] E E ?_
 refine At 7 E ?_
 refine rg ?_;conv=>whnf
 refine Ag q1 F43 E E E E E ?_
 refine rg ?_;conv=>whnf
 refine Ag q2 F44 E E E E E ?_
 (refine rg ?_;(conv=>whnf);refine aT ?_;refine rg ?_;conv=>whnf)
 exact Ac E (.cons .tmp (.cons .tmp .nil)) E E
theorem Ako (n:Net) (hn:n.Fin) (hb:okB n (List.replicate n.links.length true)=true) :
  Sy.Spec Tryz.prog 18 [Aq n] [] (.tup [.ptr 0 0,Aa 0]) (B4 n (newT n) false):=Ab Γ hm 100 F18 Tryz.ntmps18 rfl fun F hF=>by
 have hls:=hn.links
 have hds:=hn.domains
 unfold Am at hls hds
 have q1:=Ad9 n.links.length qn
 have q2:=W5 n (List.replicate n.links.length true) hn hb
 have hnt:=newT.eq_1 n
 generalize newT n=m at *
 generalize List.replicate n.links.length true=up at *
 conv=>whnf
 refine Eg 7 Ad [true] E E ?_
 refine At 7 E ?_
 refine rg ?_;conv=>whnf
 refine Ag q1 F43 E E E E E ?_
 refine rg ?_;conv=>whnf
 refine Ag q2 F44 E E E E E ?_
 (refine rg ?_;(conv=>whnf);refine aF ?_;refine rg ?_;conv=>whnf)
 refine Ay (copyS n hn) F45 E E E qq E ?_
 refine rd qq ?_;conv=>whnf
 refine Bs (Bt Γ.toTy (d:=28) (n:=n.domains.length) (fun _:Unit=>.val (.slice none 0 0)) () E E E E E E E E qn qn E E E) qq E ?_
 refine rd qq ?_;conv=>whnf
 refine Bs (Bt Γ.toTy (d:=32) (n:=n.domains.length) (fun _:Unit=>.val (.slice none 0 0)) () E E E E E E E E qn qn E E E) qq E ?_
 refine rd qq ?_;conv=>whnf
 refine⟨qq,?_⟩
 refine Abn 28 (e':=E9) (l':=List.replicate n.domains.length []) E qy (fun M w i h1 h2 v hv=>?_) ?_
 ·rw[List.getElem_replicate]
  simp only[RdD]at hv
  exact Vo hv
 refine Abn 32 (e':=Sl) (l':=List.replicate n.domains.length []) E qy (fun M w i h1 h2 v hv=>?_) ?_
 ·rw[List.getElem_replicate]
  simp only[RdD]at hv
  exact Vo hv
 refine A0 24 (I6 n up false) E (.cons (.refl _) (.cons (.refl _) (.cons (.refl _) (.cons (.refl _) (.cons .nil .nil))))) ?_
 refine rg ?_;conv=>whnf
 subst hnt
 exact done E (.cons .tmp (.cons .tmp .nil)) [(0,34),(1,24),(2,28),(3,32)] (B4 n ⟨up,List.replicate n.domains.length [],List.replicate n.domains.length [],0,0,fun _=>0⟩ false) (fun _ h=>h) E E ⟨Y,⟨.inl E,E,.inl E,E,.inl E,E,.inl E,E,Y⟩,E,E⟩
end Go.Sy.YtmelpejjondedaaGreat
namespace Go.Sy.YtmelpejjondedaaGreat
open Go.Proofs
theorem Sg (n:Net):∀ (a b:List StepM) (m:MacM),Dr n m (a++b)=((Dr n (Dr n m a).1 b).1,(Dr n m a).2++(Dr n (Dr n m a).1 b).2)
 | [],b,m=>by simp[Dr]
 | o::a,b,m=>by
  rw[List.cons_append,Dr,Dr,Sg n a b]
  simp
theorem Afg (n:Net) (m:MacM) (l:List StepM) (j:Nat) (hj:j<l.length) :
  Dr n m (l.take (j+1))=((doT n (Dr n m (l.take j)).1 l[j]).1,(Dr n m (l.take j)).2++(doT n (Dr n m (l.take j)).1 l[j]).2):=by
 rw[List.take_succ_eq_append_getElem hj,Sg]
 simp[Dr]
def runF (n:Net) (s:MacM × Bool) (l:List StepM):MacM × Bool:=l.foldl (fun s x=>((doT n s.1 x).1,doD n s.1 s.2 x)) s
theorem Zn (n:Net):∀ (l:List StepM) (s:MacM × Bool),(runF n s l).1=(Dr n s.1 l).1
 | [],s=>rfl
 | x::l,s=>by
  have:=Zn n l ((doT n s.1 x).1,doD n s.1 s.2 x)
  rw[Dr]
  exact this
def runD (n:Net) (m:MacM) (d:Bool) (l:List StepM):Bool:=(runF n (m,d) l).2
theorem Afh (n:Net) (m:MacM) (d:Bool) (l:List StepM) (j:Nat) (hj:j<l.length) :
  runD n m d (l.take (j+1))=doD n (Dr n m (l.take j)).1 (runD n m d (l.take j)) l[j]:=by
 unfold runD
 rw[List.take_succ_eq_append_getElem hj]
 have:=Zn n (l.take j) (m,d)
 unfold runF at this ⊢
 rw[List.foldl_append]
 show doD n (List.foldl _ (m,d) (l.take j)).1 _ l[j]=_
 rw[this]
theorem doT_ok {n:Net} (hn:n.Fin) (hm1:n.Num) {m:MacM} {J D:Int} (h:MacOK n m J D) (hJ:0≤J) (hD:0≤D) (x:StepM):MacOK n (doT n m x).1 (J+1) (D+4294967298):=by
 unfold doT
 split
 ·exact(Ac2 hn h hJ hD _ _).mono qn qn
 split
 ·have hok:=Tu h x.domain x.at_
  unfold pickT
  split
  ·exact hok.1.mono qn qn
  ·have hb:=S3 hn (Jd n (takeM m x.domain x.at_).1.up) (tableL (takeM m x.domain x.at_).1 x.domain) x.domain (takeM m x.domain x.at_).2.1 (takeM m x.domain x.at_).1.now
   have h1:=Z0 hok.1 hD x.domain (S1 (n:=n) (fw:=Jd n (takeM m x.domain x.at_).1.up) (dom:=x.domain) (now:=(takeM m x.domain x.at_).1.now) (Qq hok.1 x.domain) hok.2)
   have h2:=Kz hn (takeM m x.domain x.at_).2.1.origin (Z1 n (takeM m x.domain x.at_).1 x.domain (takeM m x.domain x.at_).2.1).2.1 h1 qn (S2 hn hm1 hok.2)
   refine h2.mono qn ?_
   unfold Z1
   omega
 split
 ·exact(Tu h x.domain x.at_).1.mono qn qn
 split
 ·have h1:=h.now
  refine⟨h.up,by unfold L5;simp only[List.length_map];exact h.tabs,h.ques,fun t ht=>?_,h.que,?_,?_,fun i=>?_⟩
  ·unfold L5 at ht
   obtain ⟨t0,ht0,rfl⟩:=List.mem_map.1 ht
   exact Aln (h.tab t0 ht0) _
  ·unfold L5
   dsimp only
   omega
  ·have:=h.inj
   unfold L5
   dsimp only
   omega
  ·have:=h.drp i
   unfold L5
   dsimp only
   omega
 split
 ·split
  ·rename_i h2
   exact MacOK.mono (n:=n) (m:=⟨x.up,m.tables,m.queues,m.now,m.injected,m.drops⟩) ⟨h2,h.tabs,h.ques,h.tab,h.que,h.now,h.inj,h.drp⟩ qn qn
  ·exact h.mono qn qn
 ·exact h.mono qn qn
theorem Ad6 {n:Net} (hn:n.Fin) (hm1:n.Num):∀ (l:List StepM) {m:MacM} {J D:Int},MacOK n m J D→0≤J→0≤D→MacOK n (Dr n m l).1 (J+l.length) (D+l.length * 4294967298)
 | [],m,J,D,h,_,_=>by
  rw[Dr]
  exact h.mono qy qy
 | x::l,m,J,D,h,hJ,hD=>by
  rw[Dr]
  have:=Ad6 hn hm1 l (doT_ok hn hm1 h hJ hD x) qn qn
  exact this.mono (by simp only[List.length_cons];omega) (by simp only[List.length_cons];omega)
theorem Aed (n:Net):MacOK n (newT n) 0 0:=by
 refine⟨by simp[newT],by simp[newT],by simp[newT],fun t ht=>?_,fun l hl=>?_,by simp[newT],by simp[newT],fun i=>by simp[newT]⟩
 ·have:t=[]:=(List.mem_replicate.1 ht).2
  rw[this];exact Q0
 ·have:l=[]:=(List.mem_replicate.1 hl).2
  rw[this];exact So
def Ag7 (n:Net):List Bool:=List.replicate n.links.length true
structure ScriptOK (l:List StepM):Prop where
 few:l.length≤60
 bytes:∀ x∈l,x.bytes.length≤2000
attribute [local irreducible] Go.Sy.G Go.Sy.DR
set_option maxRecDepth 100000
set_option maxHeartbeats 4000000
end Go.Sy.YtmelpejjondedaaGreat
namespace Go.Sy.YtmelpejjondedaaGreat
open Go.Proofs
attribute [local irreducible] Go.Sy.G Go.Sy.DR
set_option maxRecDepth 100000
set_option maxHeartbeats 4000000
theorem K5 (b:ByteArray):(b == b)=true:=by
 show (b.data == b.data)=true
 simp
end Go.Sy.YtmelpejjondedaaGreat
namespace Go.Sy.YtmelpejjondedaaGreat
section
variable {n:Net} {up:List Bool} {ranks roots costs:List Int}
end
end Go.Sy.YtmelpejjondedaaGreat
namespace Go.Sy.YtmelpejjondedaaGreat
instance:Inhabited Vec:=⟨⟨0,0,0,0,0⟩⟩
section
variable {n:Net} {up:List Bool} {ranks roots costs:List Int}
end
end Go.Sy.YtmelpejjondedaaGreat
namespace Go.Sy.YtmelpejjondedaaGreat
open Go.Proofs
attribute [local irreducible] Go.Sy.G Go.Sy.DR
set_option maxRecDepth 100000
set_option maxHeartbeats 4000000
theorem any_at3 {α:Type} {p:α→Bool} {l:List α} {j:Nat} (hj:j<l.length) (h:p l[j]=true):l.any p=true:=List.any_eq_true.2 ⟨_,List.getElem_mem hj,h⟩
theorem Xg {α:Type} {p:α→Bool} {l:List α} {j:Nat} (hI:Em (fun _ x=>!(p x)) l j) (hj:l.length≤j):l.any p=false:=by
 rw[List.any_eq_false]
 intro x hx
 obtain ⟨i,hi,rfl⟩:=List.getElem_of_mem hx
 have:=hI i hi qn
 simpa using this
def He (x:StepM):Bool:=decide (2000<x.bytes.length) || decide (60<x.up.length)
def great33B (l:List StepM):Bool:=decide (60<l.length) || l.any He
theorem Ai7 (l:List StepM):Sy.Spec Tryz.prog 11 [.sl 6 Ce l] [] (Ad (great33B l)) []:=Ab Γ hm 100 F11 Tryz.ntmps11 rfl fun F hF=>by
 have hres:=great33B.eq_1 l
 generalize great33B l=res at *
 conv=>whnf
 refine⟨fun h=>?_,fun h=>?_⟩
 ·rw[decide_eq_true (by have:=of_decide_eq_true h;omega),Bool.true_or]at hres
  subst hres
  refine rg ?_;conv=>whnf
  exact Ac E (.cons .tmp .nil) E E
 have hl:l.length≤60:=by have:=of_decide_eq_false h;omega
 rw[decide_eq_false qn,Bool.false_or]at hres
 refine rg ?_;conv=>whnf
 refine Bc l.length (fun j=>Em (fun _ x=>!(He x)) l j) (fun j=>[(0,.sl 6 Ce l),(3,Aa j)]) (fun _=>[]) [] (Be _ _) ⟨⟨E,E,E,E,Y⟩,Y,E,E⟩ ?_
 intro j hj hI
 refine rg ?_;conv=>whnf
 refine⟨fun h=>?_,fun h=>?_⟩
 ·have hlt:j<l.length:=by have:=of_decide_eq_true h;omega
  have hj0:((j:Nat):Int).toNat<l.length:=by simpa using hlt
  have hat:=fun h=>@any_at3 _ He l j hlt h
  have hnx:=fun h=>Bb (p:=fun _ x=>!(He x)) hI hlt h
  obtain ⟨x,hx⟩:∃ x,l[((j:Nat):Int).toNat]'hj0=x:=⟨_,rfl⟩
  have hx':l[j]=x:=hx
  rw[hx']at hat hnx
  refine rg ?_;conv=>whnf
  refine⟨E,by omega,hj0,?_⟩
  rw[hx]
  conv=>whnf
  refine⟨fun h=>?_,fun h=>?_⟩
  ·rw[hat (by rw[He,decide_eq_true (by have:=of_decide_eq_true h;omega),Bool.true_or])]at hres
   subst hres
   (refine rg ?_;(conv=>whnf);refine aT ?_;refine rg ?_;conv=>whnf)
   exact Ac E (.cons .tmp .nil) E E
  have h1:=of_decide_eq_false h
  refine rg ?_;conv=>whnf
  refine⟨E,by omega,hj0,?_⟩
  rw[hx]
  conv=>whnf
  refine⟨fun h=>?_,fun h=>?_⟩
  ·rw[hat (by rw[He,decide_eq_true (by have:=of_decide_eq_true h;omega:60<x.up.length),Bool.or_true])]at hres
   subst hres
   refine rg ?_;conv=>whnf
   exact Ac E (.cons .tmp .nil) E E
  have h2:=of_decide_eq_false h
  refine rg ?_;conv=>whnf
  refine⟨by unfold I64;omega,?_⟩
  conv=>whnf
  exact Ba [] hI qn (hnx (by rw[He,decide_eq_false qn,decide_eq_false qn];rfl)) ⟨⟨E,E,E,E,Y⟩,Y,E,E⟩
 ·have hje:j=l.length:=by have:=of_decide_eq_false h;omega
  subst hje
  rw[Xg hI (Nat.le_refl _)]at hres
  subst hres
  refine rg ?_;conv=>whnf
  exact Ac E (.cons .tmp .nil) E E
theorem V2 {l:List StepM} (h:great33B l=false):l.length≤60∧∀ x∈l,x.bytes.length≤2000∧x.up.length≤60:=by
 simp only[great33B,He,Bool.or_eq_false_iff,decide_eq_false_iff_not,List.any_eq_false,Bool.or_eq_true,decide_eq_true_eq]at h
 refine⟨by omega,fun x hx=>?_⟩
 have:=h.2 x hx
 omega
end Go.Sy.YtmelpejjondedaaGreat
namespace Go.Sy
open Go.ChangeShapes Go.WideShapes Go.ChangeAt Go.RowKit
section
variable {H:Type} (enc:TypeId × Value→H) (P:Program) (W:World)
def Op1 (t:TypeId) {α:Type} (e:α→SV) (p:α→Prop):Prop :=
 ∀ n c y,DataW.trod enc P W 0 (fun _=>true) true n t [c]=some y→∃ x,p x∧Rd κ0 W (e x) c∧c.oneCell'=true
def OpN (t:TypeId) {α:Type} (e:α→SV) (p:α→Prop) (sz:Nat):Prop :=
 ∀ n cs y,DataW.trod enc P W 0 (fun _=>true) true n t cs=some y→∃ x,p x∧cs.length=sz∧Ones cs∧RdL κ0 W (cellsOf (e x)) cs
variable {enc P W}
theorem Bn {t:TypeId} {k:IntKind} (ht:P.underlying t=some (.int k)):Op1 enc P W t (fun z=>.val (.int k z)) (fun z=>(Lit.int k z).wf=true):=fun n c y h=>by
 obtain ⟨z,e,_,hw⟩:=DataW.trod_int ht h
 have e:c=.int k z:=by simpa using e
 subst e
 exact⟨z,hw,by simp[Rd],E⟩
theorem Acg {t:TypeId} (ht:P.underlying t=some .string):Op1 enc P W t Wh (fun s=>s.size≤maxLen):=fun n c y h=>by
 obtain ⟨z,e,_,hw⟩:=DataW.trod_string ht h
 have e:c=.string z:=by simpa using e
 subst e
 exact⟨z,hw,by simp[Wh,Rd],E⟩
theorem X5 {t:TypeId} {k:IntKind} (ht:P.underlying t=some (.int k)):OpN enc P W t (fun z=>.val (.int k z)) (fun z=>(Lit.int k z).wf=true) 1:=fun n cs y h=>by
 obtain ⟨z,rfl,_,hw⟩:=DataW.trod_int ht h
 refine⟨z,hw,E,fun c hc=>by simp at hc;subst hc;rfl,?_⟩
 simp[cellsOf,RdL,Rd]
theorem Aih {t:TypeId} (ht:P.underlying t=some .bool):OpN enc P W t Ad (fun _=>True) 1:=fun n cs y h=>by
 obtain ⟨z,rfl,_⟩:=DataW.trod_bool ht h
 refine⟨z,Y,E,fun c hc=>by simp at hc;subst hc;rfl,?_⟩
 simp[Ad,cellsOf,RdL,Rd]
theorem Xf {base:Nat} {a:Addr} {n:Nat} {cs:List Value} (h:W.cells? base a n=some cs):cs.length=n∧∀ j (_:j<n),W.cell? (a.add j)=cs[j]?:=by
 unfold World.cells? at h
 split at h
 ·refine⟨by simpa using mapM_some_length h,fun j hj=>?_⟩
  exact mapM_some_get h j j (by simp[hj])
 ·cases h
theorem Ck {t et:TypeId} {α:Type} {e:α→SV} {p:α→Prop} {sz:Nat} (ht:P.underlying t=some (.slice et)) (hsz:P.cellsOf et=sz) (h0:0<sz) (hb:∀ x,(e x).boxed=true) (hd:∀ x,(e x).data=true) (hO:OpN enc P W et e p sz) :
  Op1 enc P W t (fun l:List α=>.sl sz e l) (fun l=>(∀ x∈l,p x)∧l.length≤maxLen):=fun n c y h=>by
 rcases DataW.trod_slice ht h with ⟨hcs,_⟩ | ⟨a,len,cap,elems,rest,m,rfl,hcs,_,_,hlc,hcm,hel,hget,_⟩
 ·have hc:c=.slice none 0 0:=by simpa using hcs
  subst hc
  refine⟨[],⟨by simp,Nat.zero_le _⟩,?_,E⟩
  simp only[Rd,RdD]
  exact .inl ⟨Y,none,0,E⟩
 ·have hc:c=.slice (some a) len cap:=by simpa using hcs
  subst hc
  rw[hsz]at hget
  have hall:∀ i:Fin len,∃ x,p x∧∃ cs,W.cells? 0 (a.add (i * sz)) sz=some cs∧cs.length=sz∧Ones cs∧RdL κ0 W (cellsOf (e x)) cs:=fun i=>by
   have h1:=hget i.1 i.2
   rw[List.getElem?_eq_getElem qn]at h1
   obtain ⟨cs,h2,h3⟩:=Option.bind_eq_some_iff.1 h1
   obtain ⟨x,h4,h5,h6,h7⟩:=hO _ _ _ h3
   exact⟨x,h4,cs,h2,h5,h6,h7⟩
  let xs:Fin len→α:=fun i=>Classical.choose (hall i)
  have hxs:∀ i,p (xs i)∧∃ cs,W.cells? 0 (a.add (i.1 * sz)) sz=some cs∧cs.length=sz∧Ones cs∧RdL κ0 W (cellsOf (e (xs i))) cs:=fun i=>Classical.choose_spec (hall i)
  refine⟨List.ofFn xs,⟨fun x hx=>?_,by simp;omega⟩,?_,E⟩
  ·obtain ⟨i,rfl⟩:=List.mem_ofFn.1 hx
   exact(hxs i).1
  ·simp only[Rd,RdD]
   by_cases hl:len=0
   ·subst hl
    exact .inl ⟨by simp,_,_,E⟩
   ·have hcell:∀ i:Fin len,∀ j,j<sz→∃ v,W.cell? ((a.add (i.1 * sz)).add j)=some v:=fun i j hj=>by
     obtain ⟨_,cs,h1,h2,_⟩:=hxs i
     have:=(Xf h1).2 j hj
     rw[List.getElem?_eq_getElem qn]at this
     exact⟨_,this⟩
    obtain ⟨b,off,spot⟩:=a
    have hspot:spot=none:=by
     obtain ⟨v,hv⟩:=hcell ⟨0,by omega⟩ 0 h0
     simpa [Addr.add] using World.cell?_spot hv
    subst hspot
    have hadd:∀ i j,((⟨b,off,none⟩:Addr).add i).add j=⟨b,off+i+j,none⟩:=fun i j=>by rw[Addr.add_lit,Addr.add_lit]
    refine .inr ⟨b,off,cap,by simp,by simpa using hlc,?_,?_,fun i hi=>?_⟩
    ·rintro (⟨k,hk⟩ | hk)
     ·cases hk
     ·exact hk
    ·obtain ⟨v,hv⟩:=hcell ⟨0,by omega⟩ 0 h0
     rw[hadd]at hv
     rcases Nat.lt_or_ge b W.heap.size with h | h
     ·exact h
     ·simp[World.cell?,Array.getElem?_eq_none h]at hv
    ·simp only[List.length_ofFn]at hi
     obtain ⟨_,cs,h1,h2,h3,h4⟩:=hxs ⟨i,hi⟩
     obtain ⟨u,g1,g2⟩:=Rd.of_cells (hb _) h3 h4
     refine⟨u,?_,?_,by rw[g2];exact h3,fun j hj=>?_⟩
     ·rw[List.getElem_ofFn]
      exact Rd.data _ _ (hd _) g1
     ·have:u.cells.toList.length=sz:=by rw[g2,h2]
      simpa using this
     ·have:=(Xf h1).2 j hj
      rw[hadd]at this
      rw[this,← g2]
      simp
end
end Go.Sy
