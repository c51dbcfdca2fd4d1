/-
  N2 N3 N4 E2 E3 N5 N6 N7 E4 E5 E6 E7 E8 E9 E10 E11 E12 Sy29 B0 D1 N8 N9 N10 N11 V1 V2 V3: parts of a proof, joined by program.
-/
import Derived.Test.YtmelpejjondedaaGreatC3
namespace Go.Sy.YtmelpejjondedaaGreat
open Go.Proofs
attribute [local irreducible] Go.Sy.G Go.Sy.DR
set_option maxRecDepth 20000
set_option maxHeartbeats 4000000
theorem E3 {α:Type} (sz:Nat) (e:α → SV) (l:List α) (i:Int):Sy.Spec Tryz.prog 126 [.sl sz e l,Aa i] [] (Ad (Al i l.length)) []:=Ab Γ hm 100 F126 Tryz.ntmps126 rfl fun F hF=>by
 conv=>whnf
 (repeat' (first | (refine ⟨fun h=>?_,fun h=>?_⟩ <;> (repeat (first | simp only [decide_eq_true_eq] at h | simp only [decide_eq_false_iff_not] at h)) <;> ((refine rg ?_);(conv=>whnf))) | (refine Ac rfl (.cons .tmp .nil) ?_ rfl)))
 all_goals (refine congrArg Ad ?_)
 all_goals grind [Al]
theorem Af6 {α:Type} (sz:Nat) (e:α → SV) (l:List α) (i:Int):Sy.Spec Tryz.prog 190 [.sl sz e l,Aa i] [] (Ad (Al i l.length)) []:=Ab Γ hm 100 F190 Tryz.ntmps190 rfl fun F hF=>by
 conv=>whnf
 (repeat' (first | (refine ⟨fun h=>?_,fun h=>?_⟩ <;> (repeat (first | simp only [decide_eq_true_eq] at h | simp only [decide_eq_false_iff_not] at h)) <;> ((refine rg ?_);(conv=>whnf))) | (refine Ac rfl (.cons .tmp .nil) ?_ rfl)))
 all_goals (refine congrArg Ad ?_)
 all_goals grind [Al]
theorem Adg {α:Type} (sz:Nat) (e:α → SV) (l:List α) (i:Int):Sy.Spec Tryz.prog 195 [.sl sz e l,Aa i] [] (Ad (Al i l.length)) []:=Ab Γ hm 100 F195 Tryz.ntmps195 rfl fun F hF=>by
 conv=>whnf
 (repeat' (first | (refine ⟨fun h=>?_,fun h=>?_⟩ <;> (repeat (first | simp only [decide_eq_true_eq] at h | simp only [decide_eq_false_iff_not] at h)) <;> ((refine rg ?_);(conv=>whnf))) | (refine Ac rfl (.cons .tmp .nil) ?_ rfl)))
 all_goals (refine congrArg Ad ?_)
 all_goals grind [Al]
theorem Mz {α:Type} (sz:Nat) (e:α → SV) (l:List α) (i:Int):Sy.Spec Tryz.prog 196 [.sl sz e l,Aa i] [] (Ad (Al i l.length)) []:=Ab Γ hm 100 F196 Tryz.ntmps196 rfl fun F hF=>by
 conv=>whnf
 (repeat' (first | (refine ⟨fun h=>?_,fun h=>?_⟩ <;> (repeat (first | simp only [decide_eq_true_eq] at h | simp only [decide_eq_false_iff_not] at h)) <;> ((refine rg ?_);(conv=>whnf))) | (refine Ac rfl (.cons .tmp .nil) ?_ rfl)))
 all_goals (refine congrArg Ad ?_)
 all_goals grind [Al]
theorem Ih {α:Type} (sz:Nat) (e:α → SV) (l:List α) (i:Int):Sy.Spec Tryz.prog 197 [.sl sz e l,Aa i] [] (Ad (Al i l.length)) []:=Ab Γ hm 100 F197 Tryz.ntmps197 rfl fun F hF=>by
 conv=>whnf
 (repeat' (first | (refine ⟨fun h=>?_,fun h=>?_⟩ <;> (repeat (first | simp only [decide_eq_true_eq] at h | simp only [decide_eq_false_iff_not] at h)) <;> ((refine rg ?_);(conv=>whnf))) | (refine Ac rfl (.cons .tmp .nil) ?_ rfl)))
 all_goals (refine congrArg Ad ?_)
 all_goals grind [Al]
theorem Af5 {α:Type} (sz:Nat) (e:α → SV) (l:List α) (i:Int):Sy.Spec Tryz.prog 200 [.sl sz e l,Aa i] [] (Ad (Al i l.length)) []:=Ab Γ hm 100 F200 Tryz.ntmps200 rfl fun F hF=>by
 conv=>whnf
 (repeat' (first | (refine ⟨fun h=>?_,fun h=>?_⟩ <;> (repeat (first | simp only [decide_eq_true_eq] at h | simp only [decide_eq_false_iff_not] at h)) <;> ((refine rg ?_);(conv=>whnf))) | (refine Ac rfl (.cons .tmp .nil) ?_ rfl)))
 all_goals (refine congrArg Ad ?_)
 all_goals grind [Al]
theorem Am6 (l:List Int) (x:Int) (hl:Aq l):Sy.Spec Tryz.prog 161 [.sl 1 Aa l,Aa x] [] (Aa (C5 (· == x) l)) []:=Ab Γ hm 100 F161 Tryz.ntmps161 rfl fun F hF=>by
 unfold Aq at hl
 conv=>whnf
 refine A2 l.length (fun j=>∀ i (h:i < l.length),i < j → (l[i] == x) = false) (fun j=>[(0,.sl 1 Aa l),(1,Aa x),(7,Aa l.length),(8,Aa j)]) (fun _=>[]) [] (fun i h hj=>absurd hj (by omega)) ⟨⟨E,E,E,E,E,E,E,E,Y⟩,Y,E,E⟩ ?_
 intro j hj hI
 refine rg ?_;conv=>whnf
 (repeat' (first | (refine ⟨fun h=>?_,fun h=>?_⟩ <;> (repeat (first | simp only [decide_eq_true_eq] at h | simp only [decide_eq_false_iff_not] at h | simp only [beq_iff_eq] at h | simp only [beq_eq_false_iff_ne] at h)) <;> ((refine rg ?_);(conv=>whnf))) | (refine Ac rfl (.cons .tmp .nil) ?_ rfl) | (refine ⟨(by kernel_rfl),?_⟩; ((conv=>whnf))) | (refine ⟨by (omega),by (omega),?_⟩; ((conv=>whnf))) | (refine ⟨by (unfold I64; omega),?_⟩; ((conv=>whnf))) | refine Aw [] hI (by omega) ?_ ⟨⟨rfl,rfl,rfl,rfl,rfl,rfl,rfl,rfl,trivial⟩,trivial,rfl,rfl⟩))
 all_goals try (refine congrArg Aa ?_)
 ·exact Cs (by omega) hI (by simpa using h.symm)
 ·intro i hi hij
  rcases Nat.lt_or_ge i j with h1 | h1
  ·exact hI i hi h1
  ·have:i = j:=by omega
   subst this
   simpa using Ne.symm h
 ·exact C3 (fun i hi=>hI i hi (by omega))
theorem Du (l:List Int) (x:Int) (hl:Aq l):Sy.Spec Tryz.prog 86 [.sl 1 Aa l,Aa x] [] (Ad (inB l x)) []:=Ab Γ hm 100 F86 Tryz.ntmps86 rfl fun F hF=>by
 conv=>whnf
 (repeat' (first | (refine Ac rfl (.cons .tmp .nil) ?_ rfl) | (refine Ag (Am6 _ _ hl) F161 rfl rfl rfl rfl rfl ?_; ((refine rg ?_);(conv=>whnf)))))
 exact congrArg Ad (Xz _ _).symm
def Hv (p:Port) (v:Int):Bool:=v != 0 && (v == p.native || inB p.tagged v)
theorem Abh (p:Port) (v:Int) (hl:Aq p.tagged):Sy.Spec Tryz.prog 198 [Bi p,Aa v] [] (Ad (Hv p v)) []:=Ab Γ hm 100 F198 Tryz.ntmps198 rfl fun F hF=>by
 conv=>whnf
 (repeat' (first | (refine ⟨fun h=>?_,fun h=>?_⟩ <;> (repeat (first | simp only [beq_iff_eq] at h | simp only [beq_eq_false_iff_ne] at h | simp only [bne_iff_ne] at h | simp only [bne_eq_false_iff_eq] at h)) <;> ((refine rg ?_);(conv=>whnf))) | (refine Ac rfl (.cons .tmp .nil) ?_ rfl) | (refine Ag (Du _ _ hl) F86 rfl rfl rfl rfl rfl ?_; ((refine rg ?_);(conv=>whnf)))))
 all_goals (refine congrArg Ad ?_)
 all_goals grind [Hv]
def K3 (l:List Int) (least most:Int) (i:Nat) (x:Int):Bool:=decide (least ≤ x) && decide (x ≤ most) && (i == 0 || decide (nth l ((i:Int) - 1) < x))
def Dg (l:List Int) (least most:Int):Bool:=decide (0 < l.length) && decide (l.length ≤ 16) && C0 (K3 l least most) l
theorem Agg (l:List Int) (least most:Int) (hl:Aq l):Sy.Spec Tryz.prog 199 [.sl 1 Aa l,Aa least,Aa most] [] (Ad (Dg l least most)) []:=Ab Γ hm 100 F199 Tryz.ntmps199 rfl fun F hF=>by
 unfold Aq at hl
 conv=>whnf
 refine A2 l.length (fun j=>C8 (K3 l least most) l j) (fun j=>[(0,.sl 1 Aa l),(1,Aa least),(2,Aa most),(9,.sl 1 Aa l),(10,Aa l.length),(11,Aa j)]) (fun _=>[]) [] (A5 _ _) ⟨⟨E,E,E,E,E,E,E,E,E,E,E,E,Y⟩,Y,E,E⟩ ?_
 intro j hj hI
 refine rg ?_;conv=>whnf
 (repeat' (first | (refine ⟨fun h=>?_,fun h=>?_⟩ <;> (repeat (first | simp only [decide_eq_true_eq] at h | simp only [decide_eq_false_iff_not] at h)) <;> ((refine rg ?_);(conv=>whnf);repeat((first|refine aF ?_|refine aT ?_);(refine rg ?_);(conv=>whnf)))) | (refine Ac rfl (.cons .tmp .nil) ?_ rfl) | (refine ⟨(by kernel_rfl),?_⟩; ((conv=>whnf))) | (refine ⟨by (first | (unfold I64; omega) | omega),by (omega),?_⟩; ((conv=>whnf))) | (refine ⟨by (unfold I64; omega),?_⟩; ((conv=>whnf))) | refine Aw [] hI (by omega) ?_ ⟨⟨rfl,rfl,rfl,rfl,rfl,rfl,rfl,rfl,rfl,rfl,rfl,rfl,trivial⟩,trivial,rfl,rfl⟩))
 all_goals try (refine congrArg Ad ?_)
 all_goals try simp only [Int.toNat_natCast,Int.pred_toNat] at *
 ·rw [Dg,Bd (i:=j) (by omega) (by simp [K3]; omega)]; simp
 ·rw [Dg,Bd (i:=j) (by omega) (by simp [K3]; omega)]; simp
 ·rw [Dg,Bd (i:=j) (by omega) (by simp only [K3,Ao (show ((j:Int) - 1).toNat < l.length by omega),Int.pred_toNat,Int.toNat_natCast]; simp; omega)]; simp
 ·exact A3 hI (by omega) (by simp only [K3,Ao (show ((j:Int) - 1).toNat < l.length by omega),Int.pred_toNat,Int.toNat_natCast]; simp; omega)
 ·exact A3 hI (by omega) (by simp [K3]; omega)
 ·rw [Dg,B7 hI (by omega),Bool.eq_iff_iff]; simp; omega
 ·rw [Dg]; simp; omega
theorem Aax (l:List Int) (most:Int) (hl:Aq l):Sy.Spec Tryz.prog 129 [.sl 1 Aa l,Aa most] [] (Ad (decide (l.length = 0) || Dg l 1 most)) []:=Ab Γ hm 100 F129 Tryz.ntmps129 rfl fun F hF=>by
 conv=>whnf
 (repeat' (first | (refine ⟨fun h=>?_,fun h=>?_⟩ <;> (repeat (first | simp only [beq_iff_eq] at h | simp only [beq_eq_false_iff_ne] at h)) <;> ((refine rg ?_);(conv=>whnf))) | (refine Ac rfl (.cons .tmp .nil) ?_ rfl) | (refine Ag (Agg l 1 most hl) F199 rfl rfl rfl rfl rfl ?_; ((refine rg ?_);(conv=>whnf)))))
 all_goals (refine congrArg Ad ?_)
 all_goals grind
theorem Oa {K:List Nat}:∀ (a b:List SV),Ci K (a ++ b) = (Ci K a && Ci K b)
 | [],b=>by simp [Ci]
 | x :: a,b=>by simp [Ci,Oa a b,Bool.and_assoc]
theorem Db {f:FuncId} {first cap xs:List SV} (hc:(SV.clo (.func f) first cap).inn [] = true) (hx:Ci [] xs = true):Ci [] (first ++ xs ++ cap) = true:=by
 simp only [SV.inn,Bool.and_eq_true] at hc
 rw [Oa,Oa,hc.1,hc.2,hx]
 rfl
theorem Hw (l:List Domain) (p:Domain → Bool) (f:FuncId) (first cap:List SV) (hc:(SV.clo (.func f) first cap).inn [] = true) (hf:∀ x ∈ l,I4 Tryz.prog f (first ++ [Ay x] ++ cap) (Ad (p x))) (hl:Aq l) :
  Sy.Spec Tryz.prog 262 [.sl 6 Ay l,.clo (.func f) first cap] [] (Aa (C5 p l)) []:=Ab Γ hm 100 F262 Tryz.ntmps262 rfl fun F hF=>by
 unfold Aq at hl
 have hin:∀ x:Domain,Ci [] (first ++ [Ay x] ++ cap) = true:=fun x=>Db hc rfl
 conv=>whnf
 refine A2 l.length (fun j=>C8 (fun _ x=>!(p x)) l j) (fun j=>[(0,.sl 6 Ay l),(1,.clo (.func f) first cap),(7,Aa l.length),(8,Aa j)]) (fun _=>[]) [] (A5 _ _) ⟨⟨E,E,Bm _,hc,E,E,E,E,Y⟩,Y,E,E⟩ ?_
 intro j hj hI
 refine rg ?_;conv=>whnf
 refine ⟨fun h=>?_,fun h=>?_⟩
 ·have h:=of_decide_eq_true h
  have hj2:j < l.length:=by omega
  refine rg ?_;conv=>whnf
  refine ⟨E,by omega,by omega,?_⟩
  conv=>whnf
  refine Ei (hf l[j] (List.getElem_mem hj2)) E E E (by simp only [hin]; rfl) E E ?_
  refine rg ?_;conv=>whnf
  refine ⟨fun h2=>?_,fun h2=>?_⟩
  ·refine rg ?_;conv=>whnf
   refine Ac E (.cons .tmp .nil) (congrArg Aa ?_) E
   exact Cs hj2 (fun i hi hij=>by simpa using hI i hi hij) h2
  ·refine rg ?_;conv=>whnf
   refine ⟨by unfold I64; omega,?_⟩
   conv=>whnf
   exact Aw [] hI hj2 (A3 hI hj2 (by simp [h2])) ⟨⟨E,E,Bm _,hc,E,E,E,E,Y⟩,Y,E,E⟩
 ·have h:=of_decide_eq_false h
  refine rg ?_;conv=>whnf
  refine Ac E (.cons .tmp .nil) (congrArg Aa ?_) E
  exact C3 (fun i hi=>by simpa using hI i hi (by omega))
theorem V6 (l:List Port) (p:Port → Bool) (f:FuncId) (first cap:List SV) (hc:(SV.clo (.func f) first cap).inn [] = true) (hf:∀ x ∈ l,I4 Tryz.prog f (first ++ [Bi x] ++ cap) (Ad (p x))) (hl:Aq l) :
  Sy.Spec Tryz.prog 281 [.sl 7 Bi l,.clo (.func f) first cap] [] (Aa (C5 p l)) []:=Ab Γ hm 100 F281 Tryz.ntmps281 rfl fun F hF=>by
 unfold Aq at hl
 have hin:∀ x:Port,Ci [] (first ++ [Bi x] ++ cap) = true:=fun x=>Db hc rfl
 conv=>whnf
 refine A2 l.length (fun j=>C8 (fun _ x=>!(p x)) l j) (fun j=>[(0,.sl 7 Bi l),(1,.clo (.func f) first cap),(7,Aa l.length),(8,Aa j)]) (fun _=>[]) [] (A5 _ _) ⟨⟨E,E,Bm _,hc,E,E,E,E,Y⟩,Y,E,E⟩ ?_
 intro j hj hI
 refine rg ?_;conv=>whnf
 refine ⟨fun h=>?_,fun h=>?_⟩
 ·have h:=of_decide_eq_true h
  have hj2:j < l.length:=by omega
  refine rg ?_;conv=>whnf
  refine ⟨E,by omega,by omega,?_⟩
  conv=>whnf
  refine Ei (hf l[j] (List.getElem_mem hj2)) E E E (by simp only [hin]; rfl) E E ?_
  refine rg ?_;conv=>whnf
  refine ⟨fun h2=>?_,fun h2=>?_⟩
  ·refine rg ?_;conv=>whnf
   refine Ac E (.cons .tmp .nil) (congrArg Aa ?_) E
   exact Cs hj2 (fun i hi hij=>by simpa using hI i hi hij) h2
  ·refine rg ?_;conv=>whnf
   refine ⟨by unfold I64; omega,?_⟩
   conv=>whnf
   exact Aw [] hI hj2 (A3 hI hj2 (by simp [h2])) ⟨⟨E,E,Bm _,hc,E,E,E,E,Y⟩,Y,E,E⟩
 ·have h:=of_decide_eq_false h
  refine rg ?_;conv=>whnf
  refine Ac E (.cons .tmp .nil) (congrArg Aa ?_) E
  exact C3 (fun i hi=>by simpa using hI i hi (by omega))
theorem Ak7 (l:List Port) (p:Nat → Port → Bool) (f:FuncId) (first cap:List SV) (hc:(SV.clo (.func f) first cap).inn [] = true) (hf:∀ i (h:i < l.length),I4 Tryz.prog f (first ++ [Aa i,Bi l[i]] ++ cap) (Ad (p i l[i]))) (hl:Aq l) :
  Sy.Spec Tryz.prog 118 [.sl 7 Bi l,.clo (.func f) first cap] [] (Ad (C0 p l)) []:=Ab Γ hm 100 F118 Tryz.ntmps118 rfl fun F hF=>by
 unfold Aq at hl
 have hin:∀ (i:Nat) (x:Port),Ci [] (first ++ [Aa i,Bi x] ++ cap) = true:=fun i x=>Db hc rfl
 conv=>whnf
 refine A2 l.length (fun j=>C8 p l j) (fun j=>[(0,.sl 7 Bi l),(1,.clo (.func f) first cap),(7,.sl 7 Bi l),(8,Aa l.length),(9,Aa j)]) (fun _=>[]) [] (A5 _ _) ⟨⟨E,E,Bm _,hc,E,E,E,E,E,E,Y⟩,Y,E,E⟩ ?_
 intro j hj hI
 refine rg ?_;conv=>whnf
 refine ⟨fun h=>?_,fun h=>?_⟩
 ·have h:=of_decide_eq_true h
  have hj2:j < l.length:=by omega
  refine rg ?_;conv=>whnf
  refine ⟨E,by omega,by omega,?_⟩
  conv=>whnf
  refine Ei (hf j hj2) E E E (by simp only [hin]; rfl) E E ?_
  refine rg ?_;conv=>whnf
  refine ⟨fun h2=>?_,fun h2=>?_⟩
  ·refine rg ?_;conv=>whnf
   refine Ac E (.cons .tmp .nil) (congrArg Ad ?_) E
   exact Bd hj2 (by simpa using h2)
  ·refine rg ?_;conv=>whnf
   refine ⟨by unfold I64; omega,?_⟩
   conv=>whnf
   exact Aw [] hI hj2 (A3 hI hj2 (by simpa using h2)) ⟨⟨E,E,Bm _,hc,E,E,E,E,E,E,Y⟩,Y,E,E⟩
 ·have h:=of_decide_eq_false h
  refine rg ?_;conv=>whnf
  refine Ac E (.cons .tmp .nil) (congrArg Ad ?_) E
  exact B7 hI (by omega)
theorem Ak8 (l:List Link) (p:Nat → Link → Bool) (f:FuncId) (first cap:List SV) (hc:(SV.clo (.func f) first cap).inn [] = true) (hf:∀ i (h:i < l.length),I4 Tryz.prog f (first ++ [Aa i,Co l[i]] ++ cap) (Ad (p i l[i]))) (hl:Aq l) :
  Sy.Spec Tryz.prog 120 [.sl 3 Co l,.clo (.func f) first cap] [] (Ad (C0 p l)) []:=Ab Γ hm 100 F120 Tryz.ntmps120 rfl fun F hF=>by
 unfold Aq at hl
 have hin:∀ (i:Nat) (x:Link),Ci [] (first ++ [Aa i,Co x] ++ cap) = true:=fun i x=>Db hc rfl
 conv=>whnf
 refine A2 l.length (fun j=>C8 p l j) (fun j=>[(0,.sl 3 Co l),(1,.clo (.func f) first cap),(7,.sl 3 Co l),(8,Aa l.length),(9,Aa j)]) (fun _=>[]) [] (A5 _ _) ⟨⟨E,E,Bm _,hc,E,E,E,E,E,E,Y⟩,Y,E,E⟩ ?_
 intro j hj hI
 refine rg ?_;conv=>whnf
 refine ⟨fun h=>?_,fun h=>?_⟩
 ·have h:=of_decide_eq_true h
  have hj2:j < l.length:=by omega
  refine rg ?_;conv=>whnf
  refine ⟨E,by omega,by omega,?_⟩
  conv=>whnf
  refine Ei (hf j hj2) E E E (by simp only [hin]; rfl) E E ?_
  refine rg ?_;conv=>whnf
  refine ⟨fun h2=>?_,fun h2=>?_⟩
  ·refine rg ?_;conv=>whnf
   refine Ac E (.cons .tmp .nil) (congrArg Ad ?_) E
   exact Bd hj2 (by simpa using h2)
  ·refine rg ?_;conv=>whnf
   refine ⟨by unfold I64; omega,?_⟩
   conv=>whnf
   exact Aw [] hI hj2 (A3 hI hj2 (by simpa using h2)) ⟨⟨E,E,Bm _,hc,E,E,E,E,E,E,Y⟩,Y,E,E⟩
 ·have h:=of_decide_eq_false h
  refine rg ?_;conv=>whnf
  refine Ac E (.cons .tmp .nil) (congrArg Ad ?_) E
  exact B7 hI (by omega)
theorem Vz (l:List Domain) (p:Nat → Domain → Bool) (f:FuncId) (first cap:List SV) (hc:(SV.clo (.func f) first cap).inn [] = true) (hf:∀ i (h:i < l.length),I4 Tryz.prog f (first ++ [Aa i,Ay l[i]] ++ cap) (Ad (p i l[i]))) (hl:Aq l) :
  Sy.Spec Tryz.prog 115 [.sl 6 Ay l,.clo (.func f) first cap] [] (Ad (C0 p l)) []:=Ab Γ hm 100 F115 Tryz.ntmps115 rfl fun F hF=>by
 unfold Aq at hl
 have hin:∀ (i:Nat) (x:Domain),Ci [] (first ++ [Aa i,Ay x] ++ cap) = true:=fun i x=>Db hc rfl
 conv=>whnf
 refine A2 l.length (fun j=>C8 p l j) (fun j=>[(0,.sl 6 Ay l),(1,.clo (.func f) first cap),(7,.sl 6 Ay l),(8,Aa l.length),(9,Aa j)]) (fun _=>[]) [] (A5 _ _) ⟨⟨E,E,Bm _,hc,E,E,E,E,E,E,Y⟩,Y,E,E⟩ ?_
 intro j hj hI
 refine rg ?_;conv=>whnf
 refine ⟨fun h=>?_,fun h=>?_⟩
 ·have h:=of_decide_eq_true h
  have hj2:j < l.length:=by omega
  refine rg ?_;conv=>whnf
  refine ⟨E,by omega,by omega,?_⟩
  conv=>whnf
  refine Ei (hf j hj2) E E E (by simp only [hin]; rfl) E E ?_
  refine rg ?_;conv=>whnf
  refine ⟨fun h2=>?_,fun h2=>?_⟩
  ·refine rg ?_;conv=>whnf
   refine Ac E (.cons .tmp .nil) (congrArg Ad ?_) E
   exact Bd hj2 (by simpa using h2)
  ·refine rg ?_;conv=>whnf
   refine ⟨by unfold I64; omega,?_⟩
   conv=>whnf
   exact Aw [] hI hj2 (A3 hI hj2 (by simpa using h2)) ⟨⟨E,E,Bm _,hc,E,E,E,E,E,E,Y⟩,Y,E,E⟩
 ·have h:=of_decide_eq_false h
  refine rg ?_;conv=>whnf
  refine Ac E (.cons .tmp .nil) (congrArg Ad ?_) E
  exact B7 hI (by omega)
theorem Aex (l:List Static) (p:Nat → Static → Bool) (f:FuncId) (first cap:List SV) (hc:(SV.clo (.func f) first cap).inn [] = true) (hf:∀ i (h:i < l.length),I4 Tryz.prog f (first ++ [Aa i,Bp l[i]] ++ cap) (Ad (p i l[i]))) (hl:Aq l) :
  Sy.Spec Tryz.prog 122 [.sl 4 Bp l,.clo (.func f) first cap] [] (Ad (C0 p l)) []:=Ab Γ hm 100 F122 Tryz.ntmps122 rfl fun F hF=>by
 unfold Aq at hl
 have hin:∀ (i:Nat) (x:Static),Ci [] (first ++ [Aa i,Bp x] ++ cap) = true:=fun i x=>Db hc rfl
 conv=>whnf
 refine A2 l.length (fun j=>C8 p l j) (fun j=>[(0,.sl 4 Bp l),(1,.clo (.func f) first cap),(7,.sl 4 Bp l),(8,Aa l.length),(9,Aa j)]) (fun _=>[]) [] (A5 _ _) ⟨⟨E,E,Bm _,hc,E,E,E,E,E,E,Y⟩,Y,E,E⟩ ?_
 intro j hj hI
 refine rg ?_;conv=>whnf
 refine ⟨fun h=>?_,fun h=>?_⟩
 ·have h:=of_decide_eq_true h
  have hj2:j < l.length:=by omega
  refine rg ?_;conv=>whnf
  refine ⟨E,by omega,by omega,?_⟩
  conv=>whnf
  refine Ei (hf j hj2) E E E (by simp only [hin]; rfl) E E ?_
  refine rg ?_;conv=>whnf
  refine ⟨fun h2=>?_,fun h2=>?_⟩
  ·refine rg ?_;conv=>whnf
   refine Ac E (.cons .tmp .nil) (congrArg Ad ?_) E
   exact Bd hj2 (by simpa using h2)
  ·refine rg ?_;conv=>whnf
   refine ⟨by unfold I64; omega,?_⟩
   conv=>whnf
   exact Aw [] hI hj2 (A3 hI hj2 (by simpa using h2)) ⟨⟨E,E,Bm _,hc,E,E,E,E,E,E,Y⟩,Y,E,E⟩
 ·have h:=of_decide_eq_false h
  refine rg ?_;conv=>whnf
  refine Ac E (.cons .tmp .nil) (congrArg Ad ?_) E
  exact B7 hI (by omega)
theorem Aht (l:List Flood) (p:Nat → Flood → Bool) (f:FuncId) (first cap:List SV) (hc:(SV.clo (.func f) first cap).inn [] = true) (hf:∀ i (h:i < l.length),I4 Tryz.prog f (first ++ [Aa i,B5 l[i]] ++ cap) (Ad (p i l[i]))) (hl:Aq l) :
  Sy.Spec Tryz.prog 124 [.sl 4 B5 l,.clo (.func f) first cap] [] (Ad (C0 p l)) []:=Ab Γ hm 100 F124 Tryz.ntmps124 rfl fun F hF=>by
 unfold Aq at hl
 have hin:∀ (i:Nat) (x:Flood),Ci [] (first ++ [Aa i,B5 x] ++ cap) = true:=fun i x=>Db hc rfl
 conv=>whnf
 refine A2 l.length (fun j=>C8 p l j) (fun j=>[(0,.sl 4 B5 l),(1,.clo (.func f) first cap),(7,.sl 4 B5 l),(8,Aa l.length),(9,Aa j)]) (fun _=>[]) [] (A5 _ _) ⟨⟨E,E,Bm _,hc,E,E,E,E,E,E,Y⟩,Y,E,E⟩ ?_
 intro j hj hI
 refine rg ?_;conv=>whnf
 refine ⟨fun h=>?_,fun h=>?_⟩
 ·have h:=of_decide_eq_true h
  have hj2:j < l.length:=by omega
  refine rg ?_;conv=>whnf
  refine ⟨E,by omega,by omega,?_⟩
  conv=>whnf
  refine Ei (hf j hj2) E E E (by simp only [hin]; rfl) E E ?_
  refine rg ?_;conv=>whnf
  refine ⟨fun h2=>?_,fun h2=>?_⟩
  ·refine rg ?_;conv=>whnf
   refine Ac E (.cons .tmp .nil) (congrArg Ad ?_) E
   exact Bd hj2 (by simpa using h2)
  ·refine rg ?_;conv=>whnf
   refine ⟨by unfold I64; omega,?_⟩
   conv=>whnf
   exact Aw [] hI hj2 (A3 hI hj2 (by simpa using h2)) ⟨⟨E,E,Bm _,hc,E,E,E,E,E,E,Y⟩,Y,E,E⟩
 ·have h:=of_decide_eq_false h
  refine rg ?_;conv=>whnf
  refine Ac E (.cons .tmp .nil) (congrArg Ad ?_) E
  exact B7 hI (by omega)
theorem An6 (l:List Vrf) (p:Nat → Vrf → Bool) (f:FuncId) (first cap:List SV) (hc:(SV.clo (.func f) first cap).inn [] = true) (hf:∀ i (h:i < l.length),I4 Tryz.prog f (first ++ [Aa i,Cy l[i]] ++ cap) (Ad (p i l[i]))) (hl:Aq l) :
  Sy.Spec Tryz.prog 127 [.sl 5 Cy l,.clo (.func f) first cap] [] (Ad (C0 p l)) []:=Ab Γ hm 100 F127 Tryz.ntmps127 rfl fun F hF=>by
 unfold Aq at hl
 have hin:∀ (i:Nat) (x:Vrf),Ci [] (first ++ [Aa i,Cy x] ++ cap) = true:=fun i x=>Db hc rfl
 conv=>whnf
 refine A2 l.length (fun j=>C8 p l j) (fun j=>[(0,.sl 5 Cy l),(1,.clo (.func f) first cap),(7,.sl 5 Cy l),(8,Aa l.length),(9,Aa j)]) (fun _=>[]) [] (A5 _ _) ⟨⟨E,E,Bm _,hc,E,E,E,E,E,E,Y⟩,Y,E,E⟩ ?_
 intro j hj hI
 refine rg ?_;conv=>whnf
 refine ⟨fun h=>?_,fun h=>?_⟩
 ·have h:=of_decide_eq_true h
  have hj2:j < l.length:=by omega
  refine rg ?_;conv=>whnf
  refine ⟨E,by omega,by omega,?_⟩
  conv=>whnf
  refine Ei (hf j hj2) E E E (by simp only [hin]; rfl) E E ?_
  refine rg ?_;conv=>whnf
  refine ⟨fun h2=>?_,fun h2=>?_⟩
  ·refine rg ?_;conv=>whnf
   refine Ac E (.cons .tmp .nil) (congrArg Ad ?_) E
   exact Bd hj2 (by simpa using h2)
  ·refine rg ?_;conv=>whnf
   refine ⟨by unfold I64; omega,?_⟩
   conv=>whnf
   exact Aw [] hI hj2 (A3 hI hj2 (by simpa using h2)) ⟨⟨E,E,Bm _,hc,E,E,E,E,E,E,Y⟩,Y,E,E⟩
 ·have h:=of_decide_eq_false h
  refine rg ?_;conv=>whnf
  refine Ac E (.cons .tmp .nil) (congrArg Ad ?_) E
  exact B7 hI (by omega)
theorem An7 (l:List Irb) (p:Nat → Irb → Bool) (f:FuncId) (first cap:List SV) (hc:(SV.clo (.func f) first cap).inn [] = true) (hf:∀ i (h:i < l.length),I4 Tryz.prog f (first ++ [Aa i,Dl l[i]] ++ cap) (Ad (p i l[i]))) (hl:Aq l) :
  Sy.Spec Tryz.prog 130 [.sl 5 Dl l,.clo (.func f) first cap] [] (Ad (C0 p l)) []:=Ab Γ hm 100 F130 Tryz.ntmps130 rfl fun F hF=>by
 unfold Aq at hl
 have hin:∀ (i:Nat) (x:Irb),Ci [] (first ++ [Aa i,Dl x] ++ cap) = true:=fun i x=>Db hc rfl
 conv=>whnf
 refine A2 l.length (fun j=>C8 p l j) (fun j=>[(0,.sl 5 Dl l),(1,.clo (.func f) first cap),(7,.sl 5 Dl l),(8,Aa l.length),(9,Aa j)]) (fun _=>[]) [] (A5 _ _) ⟨⟨E,E,Bm _,hc,E,E,E,E,E,E,Y⟩,Y,E,E⟩ ?_
 intro j hj hI
 refine rg ?_;conv=>whnf
 refine ⟨fun h=>?_,fun h=>?_⟩
 ·have h:=of_decide_eq_true h
  have hj2:j < l.length:=by omega
  refine rg ?_;conv=>whnf
  refine ⟨E,by omega,by omega,?_⟩
  conv=>whnf
  refine Ei (hf j hj2) E E E (by simp only [hin]; rfl) E E ?_
  refine rg ?_;conv=>whnf
  refine ⟨fun h2=>?_,fun h2=>?_⟩
  ·refine rg ?_;conv=>whnf
   refine Ac E (.cons .tmp .nil) (congrArg Ad ?_) E
   exact Bd hj2 (by simpa using h2)
  ·refine rg ?_;conv=>whnf
   refine ⟨by unfold I64; omega,?_⟩
   conv=>whnf
   exact Aw [] hI hj2 (A3 hI hj2 (by simpa using h2)) ⟨⟨E,E,Bm _,hc,E,E,E,E,E,E,Y⟩,Y,E,E⟩
 ·have h:=of_decide_eq_false h
  refine rg ?_;conv=>whnf
  refine Ac E (.cons .tmp .nil) (congrArg Ad ?_) E
  exact B7 hI (by omega)
theorem An5 (l:List Int) (p:Nat → Int → Bool) (f:FuncId) (first cap:List SV) (hc:(SV.clo (.func f) first cap).inn [] = true) (hf:∀ i (h:i < l.length),I4 Tryz.prog f (first ++ [Aa i,Aa l[i]] ++ cap) (Ad (p i l[i]))) (hl:Aq l) :
  Sy.Spec Tryz.prog 192 [.sl 1 Aa l,.clo (.func f) first cap] [] (Ad (C0 p l)) []:=Ab Γ hm 100 F192 Tryz.ntmps192 rfl fun F hF=>by
 unfold Aq at hl
 have hin:∀ (i:Nat) (x:Int),Ci [] (first ++ [Aa i,Aa x] ++ cap) = true:=fun i x=>Db hc rfl
 conv=>whnf
 refine A2 l.length (fun j=>C8 p l j) (fun j=>[(0,.sl 1 Aa l),(1,.clo (.func f) first cap),(7,.sl 1 Aa l),(8,Aa l.length),(9,Aa j)]) (fun _=>[]) [] (A5 _ _) ⟨⟨E,E,Bm _,hc,E,E,E,E,E,E,Y⟩,Y,E,E⟩ ?_
 intro j hj hI
 refine rg ?_;conv=>whnf
 refine ⟨fun h=>?_,fun h=>?_⟩
 ·have h:=of_decide_eq_true h
  have hj2:j < l.length:=by omega
  refine rg ?_;conv=>whnf
  refine ⟨E,by omega,by omega,?_⟩
  conv=>whnf
  refine Ei (hf j hj2) E E E (by simp only [hin]; rfl) E E ?_
  refine rg ?_;conv=>whnf
  refine ⟨fun h2=>?_,fun h2=>?_⟩
  ·refine rg ?_;conv=>whnf
   refine Ac E (.cons .tmp .nil) (congrArg Ad ?_) E
   exact Bd hj2 (by simpa using h2)
  ·refine rg ?_;conv=>whnf
   refine ⟨by unfold I64; omega,?_⟩
   conv=>whnf
   exact Aw [] hI hj2 (A3 hI hj2 (by simpa using h2)) ⟨⟨E,E,Bm _,hc,E,E,E,E,E,E,Y⟩,Y,E,E⟩
 ·have h:=of_decide_eq_false h
  refine rg ?_;conv=>whnf
  refine Ac E (.cons .tmp .nil) (congrArg Ad ?_) E
  exact B7 hI (by omega)
structure Net.Fin (n:Net):Prop where
 devices:Aq n.devices
 ports:Aq n.ports
 links:Aq n.links
 domains:Aq n.domains
 statics:Aq n.statics
 floods:Aq n.floods
 vrfs:Aq n.vrfs
 irbs:Aq n.irbs
 tagged:∀ p ∈ n.ports,Aq p.tagged
 peers:∀ d ∈ n.domains,Aq d.peers
 addrs:∀ f ∈ n.floods,Aq f.addrs
 imports:∀ v ∈ n.vrfs,Aq v.imports
 exports:∀ v ∈ n.vrfs,Aq v.exports
def Yh (n:Net) (dev vlan:Int):Int:=C5 (fun d=>d.dev == dev && d.vlan == vlan) n.domains
theorem Apj (dev vlan:Int) (d:Domain):Sy.Spec Tryz.prog 263 [Ay d,.ref 1 (Aa dev) 0,.ref 1 (Aa vlan) 0] [] (Ad (d.dev == dev && d.vlan == vlan)) []:=Ab Γ hm 100 F263 Tryz.ntmps263 rfl fun F hF=>by
 conv=>whnf
 (repeat' (first | (refine ⟨fun h=>?_,fun h=>?_⟩ <;> (repeat (first | simp only [beq_iff_eq] at h | simp only [beq_eq_false_iff_ne] at h)) <;> ((refine rg ?_);(conv=>whnf))) | (refine Ac rfl (.cons .tmp .nil) ?_ rfl)))
 all_goals (refine congrArg Ad ?_)
 all_goals simp_all
theorem L1 (n:Net) (dev vlan:Int) (hl:Aq n.domains):Sy.Spec Tryz.prog 191 [Ap n,Aa dev,Aa vlan] [] (Aa (Yh n dev vlan)) []:=Ab Γ hm 100 F191 Tryz.ntmps191 rfl fun F hF=>by
 conv=>whnf
 refine Bf 4 1 (Aa dev) E E E ?_
 refine Bf 5 1 (Aa vlan) E E E ?_
 refine Ag (Hw n.domains (fun d=>d.dev == dev && d.vlan == vlan) 263 [] [.ref 1 (Aa dev) 0,.ref 1 (Aa vlan) 0] E (fun d _=>⟨⟨_,_,F263⟩,Apj dev vlan d⟩) hl) F262 E E E E E ?_
 refine rg ?_;conv=>whnf
 exact Ac E (.cons .tmp .nil) E E
def Aks (n:Net):Bool:=decide (n.devices.length ≤ 8) && decide (n.ports.length ≤ 40) && decide (n.links.length ≤ 20) && decide (n.domains.length ≤ 48) && decide (n.statics.length ≤ 64) && decide (n.floods.length ≤ 48) && decide (n.vrfs.length ≤ 16) && decide (n.irbs.length ≤ 48)
theorem fewS (n:Net):Sy.Spec Tryz.prog 114 [Ap n] [] (Ad (Aks n)) []:=Ab Γ hm 100 F114 Tryz.ntmps114 rfl fun F hF=>by
 conv=>whnf
 (repeat' (first | (refine ⟨fun h=>?_,fun h=>?_⟩ <;> (repeat (first | simp only [decide_eq_true_eq] at h | simp only [decide_eq_false_iff_not] at h)) <;> ((refine rg ?_);(conv=>whnf);repeat((refine aF ?_);(refine rg ?_);(conv=>whnf)))) | (refine Ac rfl (.cons .tmp .nil) ?_ rfl)))
 all_goals (refine congrArg Ad ?_)
 all_goals (unfold Aks; rw [Bool.eq_iff_iff]; simp; omega)
def H3 (n:Net) (i:Nat) (d:Domain):Bool :=
 Al d.dev n.devices.length && decide (1 ≤ d.vlan) && decide (d.vlan ≤ 4094) && decide (0 ≤ d.vni) && decide (d.vni ≤ 16777215) && (d.irb == -1 || Al d.irb n.irbs.length && (nth n.irbs d.irb).domain == i) && Yh n d.dev d.vlan == i
theorem bareS (n:Net) (i:Nat) (d:Domain) (hl:Aq n.domains):Sy.Spec Tryz.prog 116 [Ap n,Aa i,Ay d] [] (Ad (H3 n i d)) []:=Ab Γ hm 100 F116 Tryz.ntmps116 rfl fun F hF=>by
 conv=>whnf
 (repeat' (first | (refine ⟨fun h=>?_,fun h=>?_⟩ <;> (repeat (first | simp only [Al] at h | simp only [decide_eq_true_eq] at h | simp only [decide_eq_false_iff_not] at h | simp only [beq_iff_eq] at h | simp only [beq_eq_false_iff_ne] at h | simp only [Bool.and_eq_true] at h | simp only [Bool.and_eq_false_iff] at h)) <;> ((refine rg ?_);(conv=>whnf);repeat((first|refine aF ?_|refine aT ?_);(refine rg ?_);(conv=>whnf)))) | (refine Ac rfl (.cons .tmp .nil) ?_ rfl) | (refine ⟨(by kernel_rfl),?_⟩; ((conv=>whnf))) | (refine ⟨by (omega),by (omega),?_⟩; ((conv=>whnf))) | (refine Ag (E3 5 Br n.devices d.dev) F126 rfl rfl rfl rfl rfl ?_; ((refine rg ?_);(conv=>whnf))) | (refine Ag (Af6 5 Dl n.irbs d.irb) F190 rfl rfl rfl rfl rfl ?_; ((refine rg ?_);(conv=>whnf))) | (refine Ag (L1 n d.dev d.vlan hl) F191 rfl rfl rfl rfl rfl ?_; ((refine rg ?_);(conv=>whnf)))))
 all_goals (refine congrArg Ad ?_)
 all_goals (clear hF; grind [H3,Al,Ao])
def Ab9 (n:Net) (d:Domain):Bool:=(nth n.devices d.dev).vtep != 0
theorem Ap0 (n:Net) (d:Domain) (hd:Al d.dev n.devices.length = true):Sy.Spec Tryz.prog 264 [Ap n,Ay d] [] (Ad (Ab9 n d)) []:=Ab Γ hm 100 F264 Tryz.ntmps264 rfl fun F hF=>by
 simp only [Al,Bool.and_eq_true,decide_eq_true_eq] at hd
 conv=>whnf
 (repeat' (first | (refine Ac rfl (.cons .tmp .nil) ?_ rfl) | (refine ⟨(by kernel_rfl),?_⟩; ((conv=>whnf))) | (refine ⟨by (omega),by (omega),?_⟩; ((conv=>whnf)))))
 all_goals (refine congrArg Ad ?_)
 all_goals (clear hF; grind [Ab9,Ao])
def M1 (n:Net) (i:Nat) (d:Domain) (k:Int):Bool :=
 Al k n.domains.length && k != i && Al (nth n.domains k).dev n.devices.length && (nth n.domains k).dev != d.dev && (nth n.domains k).vni == d.vni && d.vni != 0 && Ab9 n (nth n.domains k) && Ab9 n d && inB (nth n.domains k).peers i
theorem peerS (n:Net) (i:Nat) (d:Domain) (k:Int) (hn:n.Fin) (hd:Al d.dev n.devices.length = true):Sy.Spec Tryz.prog 194 [Ap n,Aa i,Ay d,Aa k] [] (Ad (M1 n i d k)) []:=Ab Γ hm 100 F194 Tryz.ntmps194 rfl fun F hF=>by
 conv=>whnf
 (repeat' (first | (refine ⟨fun h=>?_,fun h=>?_⟩ <;> (repeat (first | simp only [Al] at h | simp only [decide_eq_true_eq] at h | simp only [decide_eq_false_iff_not] at h | simp only [beq_iff_eq] at h | simp only [beq_eq_false_iff_ne] at h | simp only [bne_iff_ne] at h | simp only [bne_eq_false_iff_eq] at h | simp only [Bool.and_eq_true] at h | simp only [Bool.and_eq_false_iff] at h | simp only [Bool.not_eq_true'] at h | simp only [Bool.not_eq_false'] at h)) <;> ((refine rg ?_);(conv=>whnf);repeat((first|refine aF ?_|refine aT ?_);(refine rg ?_);(conv=>whnf)))) | (refine Ac rfl (.cons .tmp .nil) ?_ rfl) | (refine ⟨(by kernel_rfl),?_⟩; ((conv=>whnf))) | (refine ⟨by (omega),by (omega),?_⟩; ((conv=>whnf))) | (refine Ag (Ih 6 Ay n.domains k) F197 rfl rfl rfl rfl rfl ?_; ((refine rg ?_);(conv=>whnf))) | (refine Ag (E3 5 Br n.devices (n.domains[k.toNat]'(by omega)).dev) F126 rfl rfl rfl rfl rfl ?_; ((refine rg ?_);(conv=>whnf))) | (refine Ag (Ap0 n (n.domains[k.toNat]'(by omega)) (by simp only [Al,Bool.and_eq_true,decide_eq_true_eq]; omega)) F264 rfl rfl rfl rfl rfl ?_; ((refine rg ?_);(conv=>whnf))) | (refine Ag (Ap0 n d hd) F264 rfl rfl rfl rfl rfl ?_; ((refine rg ?_);(conv=>whnf))) | (refine Ag (Du (n.domains[k.toNat]'(by omega)).peers i (hn.peers _ (List.getElem_mem _))) F86 rfl rfl rfl rfl rfl ?_; ((refine rg ?_);(conv=>whnf)))))
 all_goals (refine congrArg Ad ?_; clear hF; grind [M1,Al,Ao])
def M0 (n:Net) (i:Nat) (d:Domain):Bool:=C0 (fun at_ k=>M1 n i d k && C5 (· == k) d.peers == at_) d.peers
theorem peers1 (n:Net) (i:Nat) (d:Domain) (at_:Nat) (k:Int) (hn:n.Fin) (hp:Aq d.peers) (hd:Al d.dev n.devices.length = true) :
  Sy.Spec Tryz.prog 193 [Aa at_,Aa k,.ref 8 (Ap n) 0,.ref 1 (Aa i) 0,.ref 6 (Ay d) 0] [] (Ad (M1 n i d k && C5 (· == k) d.peers == at_)) []:=Ab Γ hm 100 F193 Tryz.ntmps193 rfl fun F hF=>by
 conv=>whnf
 (repeat' (first | (refine ⟨fun h=>?_,fun h=>?_⟩ <;> ((refine rg ?_);(conv=>whnf))) | (refine Ac rfl (.cons .tmp .nil) ?_ rfl) | (refine Ag (peerS n i d k hn hd) F194 rfl rfl rfl rfl rfl ?_; ((refine rg ?_);(conv=>whnf))) | (refine Ag (Am6 d.peers k hp) F161 rfl rfl rfl rfl rfl ?_; ((refine rg ?_);(conv=>whnf)))))
 all_goals (refine congrArg Ad ?_; clear hF; grind)
theorem peersS (n:Net) (i:Nat) (d:Domain) (hn:n.Fin) (hp:Aq d.peers) (hd:Al d.dev n.devices.length = true):Sy.Spec Tryz.prog 117 [Ap n,Aa i,Ay d] [] (Ad (M0 n i d)) []:=Ab Γ hm 100 F117 Tryz.ntmps117 rfl fun F hF=>by
 conv=>whnf
 refine Bf 3 8 (Ap n) E E E ?_
 refine Bf 4 1 (Aa i) E E E ?_
 refine Bf 5 6 (Ay d) E E E ?_
 refine Ag (An5 d.peers (fun at_ k=>M1 n i d k && C5 (· == k) d.peers == at_) 193 [] [.ref 8 (Ap n) 0,.ref 1 (Aa i) 0,.ref 6 (Ay d) 0] E (fun a ha=>⟨⟨_,_,F193⟩,peers1 n i d a d.peers[a] hn hp hd⟩) hp) F192 E E E E E ?_
 refine rg ?_;conv=>whnf
 exact Ac E (.cons .tmp .nil) E E
def Cg (n:Net) (dev vlan:Int):Bool:=decide (0 ≤ Yh n dev vlan)
def El (n:Net) (i:Nat) (p:Port):Bool :=
 Al p.dev n.devices.length && decide (0 ≤ p.native) && decide (p.native ≤ 4094) && (decide (p.tagged.length = 0) || Dg p.tagged 1 4094) && !inB p.tagged p.native && !(p.native == 0 && decide (p.tagged.length = 0)) &&
  C0 (fun _ v=>Cg n p.dev v) p.tagged && !(decide (0 < p.native) && !Cg n p.dev p.native) &&
  (p.link == -1 || Al p.link n.links.length && ((nth n.links p.link).a == i || (nth n.links p.link).b == i))
theorem Agu (n:Net) (i:Nat) (p:Port) (hn:n.Fin) (hp:Aq p.tagged):Sy.Spec Tryz.prog 119 [Ap n,Aa i,Bi p] [] (Ad (El n i p)) []:=Ab Γ hm 100 F119 Tryz.ntmps119 rfl fun F hF=>by
 conv=>whnf
 (repeat' (first | (refine ⟨fun h=>?_,fun h=>?_⟩ <;> (repeat (first | simp only [Al] at h | simp only [decide_eq_true_eq] at h | simp only [decide_eq_false_iff_not] at h | simp only [beq_iff_eq] at h | simp only [beq_eq_false_iff_ne] at h | simp only [Bool.and_eq_true] at h | simp only [Bool.or_eq_true] at h | simp only [Bool.and_eq_false_iff] at h | simp only [Bool.or_eq_false_iff] at h | simp only [Bool.not_eq_true'] at h | simp only [Bool.not_eq_false'] at h)) <;> ((refine rg ?_);(conv=>whnf);repeat((first|refine aF ?_|refine aT ?_);(refine rg ?_);(conv=>whnf)))) | (refine Ac rfl (.cons .tmp .nil) ?_ rfl) | (refine Ag (E3 5 Br n.devices p.dev) F126 rfl rfl rfl rfl rfl ?_; ((refine rg ?_);(conv=>whnf))) | (refine Ag (Aax p.tagged 4094 hp) F129 rfl rfl rfl rfl rfl ?_; ((refine rg ?_);(conv=>whnf))) | (refine Ag (Du p.tagged p.native hp) F86 rfl rfl rfl rfl rfl ?_; ((refine rg ?_);(conv=>whnf)))))
 all_goals first | (refine congrArg Ad ?_; clear hF; grind [El,Al]) | skip
 all_goals (
  refine Bf 3 8 (Ap n) E E E ?_
  refine Bf 5 7 (Bi p) E E E ?_
  refine A2 p.tagged.length (fun j=>C8 (fun _ v=>Cg n p.dev v) p.tagged j) (fun j=>[(1,Aa i),(3,.ref 8 (Ap n) 0),(5,.ref 7 (Bi p) 0),(51,.sl 1 Aa p.tagged),(52,Aa p.tagged.length),(53,Aa j)]) (fun _=>[]) [] (A5 _ _) ⟨⟨E,E,E,E,E,E,E,E,E,E,E,E,Y⟩,Y,E,E⟩ ?_
  intro j hj hI
  have hsh:=hp
  unfold Aq at hsh
  ((first|refine rG Γ hm ?_|refine rD Γ hm (by kernel_rfl) ?_);(conv=>whnf);repeat((first|refine aF ?_|refine aT ?_);(first|refine rG Γ hm ?_|refine rD Γ hm (by kernel_rfl) ?_);conv=>whnf)))
 all_goals (
  (repeat' (first | (refine ⟨fun h=>?_,fun h=>?_⟩ <;> (repeat (first | simp only [Al] at h | simp only [decide_eq_true_eq] at h | simp only [decide_eq_false_iff_not] at h | simp only [beq_iff_eq] at h | simp only [beq_eq_false_iff_ne] at h | simp only [Bool.and_eq_true] at h | simp only [Bool.and_eq_false_iff] at h)) <;> ((refine rg ?_);(conv=>whnf);repeat((refine aF ?_);(refine rg ?_);(conv=>whnf)))) | (refine Ac rfl (.cons .tmp .nil) ?_ rfl) | (refine ⟨(by kernel_rfl),?_⟩; ((conv=>whnf))) | (refine ⟨by (omega),by (omega),?_⟩; ((conv=>whnf))) | (refine ⟨by (unfold I64; omega),?_⟩; ((conv=>whnf))) | (refine Ag (L1 n p.dev (p.tagged[j]'(by omega)) hn.domains) F191 rfl rfl rfl rfl rfl ?_; ((refine rg ?_);(conv=>whnf))) | (refine Ag (L1 n p.dev p.native hn.domains) F191 rfl rfl rfl rfl rfl ?_; ((refine rg ?_);(conv=>whnf))) | (refine Ag (Adg 3 Co n.links p.link) F195 rfl rfl rfl rfl rfl ?_; ((refine rg ?_);(conv=>whnf))) | refine Aw [] hI (by omega) ?_ ⟨⟨rfl,rfl,rfl,rfl,rfl,rfl,rfl,rfl,rfl,rfl,rfl,rfl,trivial⟩,trivial,rfl,rfl⟩)))
 all_goals first
  | exact A3 hI (by omega) (by simp only [Cg,decide_eq_true_eq]; omega)
  | (refine congrArg Ad ?_
     have h0:C0 (fun _ v=>Cg n p.dev v) p.tagged = false:=Bd (i:=j) (by omega) (by simp only [Cg,decide_eq_false_iff_not]; omega)
     clear hF hI; grind [El])
  | (refine congrArg Ad ?_
     have h0:C0 (fun _ v=>Cg n p.dev v) p.tagged = true:=B7 hI (by omega)
     clear hF hI; grind [El,Al,Cg,Ao])
def J0 (n:Net) (i:Nat) (l:Link):Bool :=
 Al l.a n.ports.length && Al l.b n.ports.length && (nth n.ports l.a).dev != (nth n.ports l.b).dev && (nth n.ports l.a).link == i && (nth n.ports l.b).link == i
theorem Agv (n:Net) (i:Nat) (l:Link):Sy.Spec Tryz.prog 121 [Ap n,Aa i,Co l] [] (Ad (J0 n i l)) []:=Ab Γ hm 100 F121 Tryz.ntmps121 rfl fun F hF=>by
 conv=>whnf
 (repeat' (first | (refine ⟨fun h=>?_,fun h=>?_⟩ <;> (repeat (first | simp only [Al] at h | simp only [decide_eq_true_eq] at h | simp only [decide_eq_false_iff_not] at h | simp only [beq_iff_eq] at h | simp only [beq_eq_false_iff_ne] at h | simp only [bne_iff_ne] at h | simp only [bne_eq_false_iff_eq] at h | simp only [Bool.and_eq_true] at h | simp only [Bool.and_eq_false_iff] at h | simp only [Bool.not_eq_true'] at h | simp only [Bool.not_eq_false'] at h)) <;> ((refine rg ?_);(conv=>whnf);repeat((first|refine aF ?_|refine aT ?_);(refine rg ?_);(conv=>whnf)))) | (refine Ac rfl (.cons .tmp .nil) ?_ rfl) | (refine ⟨(by kernel_rfl),?_⟩; ((conv=>whnf))) | (refine ⟨by (omega),by (omega),?_⟩; ((conv=>whnf))) | (refine Ag (Mz 7 Bi n.ports l.a) F196 rfl rfl rfl rfl rfl ?_; ((refine rg ?_);(conv=>whnf))) | (refine Ag (Mz 7 Bi n.ports l.b) F196 rfl rfl rfl rfl rfl ?_; ((refine rg ?_);(conv=>whnf)))))
 all_goals (refine congrArg Ad ?_; clear hF; grind [J0,Al,Ao])
def E6 (n:Net) (s:Static):Bool :=
 Al s.domain n.domains.length && Al s.port n.ports.length && (nth n.ports s.port).dev == (nth n.domains s.domain).dev && Hv (nth n.ports s.port) (nth n.domains s.domain).vlan
theorem Abo (n:Net) (i:Nat) (s:Static) (hn:n.Fin):Sy.Spec Tryz.prog 123 [Ap n,Aa i,Bp s] [] (Ad (E6 n s)) []:=Ab Γ hm 100 F123 Tryz.ntmps123 rfl fun F hF=>by
 conv=>whnf
 (repeat' (first | (refine ⟨fun h=>?_,fun h=>?_⟩ <;> (repeat (first | simp only [Al] at h | simp only [decide_eq_true_eq] at h | simp only [decide_eq_false_iff_not] at h | simp only [beq_iff_eq] at h | simp only [beq_eq_false_iff_ne] at h | simp only [Bool.and_eq_true] at h | simp only [Bool.and_eq_false_iff] at h | simp only [Bool.not_eq_true'] at h | simp only [Bool.not_eq_false'] at h)) <;> ((refine rg ?_);(conv=>whnf);repeat((refine aT ?_);(refine rg ?_);(conv=>whnf)))) | (refine Ac rfl (.cons .tmp .nil) ?_ rfl) | (refine ⟨(by kernel_rfl),?_⟩; ((conv=>whnf))) | (refine ⟨by (omega),by (omega),?_⟩; ((conv=>whnf))) | (refine Ag (Ih 6 Ay n.domains s.domain) F197 rfl rfl rfl rfl rfl ?_; ((refine rg ?_);(conv=>whnf))) | (refine Ag (Mz 7 Bi n.ports s.port) F196 rfl rfl rfl rfl rfl ?_; ((refine rg ?_);(conv=>whnf))) | (refine Ag (Abh (n.ports[s.port.toNat]'(by omega)) (n.domains[s.domain.toNat]'(by omega)).vlan (hn.tagged _ (List.getElem_mem _))) F198 rfl rfl rfl rfl rfl ?_; ((refine rg ?_);(conv=>whnf)))))
 all_goals (refine congrArg Ad ?_; clear hF; grind [E6,Al,Ao])
def Uz (n:Net) (i:Nat) (x:Irb):Bool :=
 Al x.domain n.domains.length && Al x.vrf n.vrfs.length && (nth n.domains x.domain).dev == (nth n.vrfs x.vrf).dev && (nth n.domains x.domain).irb == i && decide (1 ≤ x.bits) && decide (x.bits ≤ 30)
theorem Akh (n:Net) (i:Nat) (x:Irb):Sy.Spec Tryz.prog 131 [Ap n,Aa i,Dl x] [] (Ad (Uz n i x)) []:=Ab Γ hm 100 F131 Tryz.ntmps131 rfl fun F hF=>by
 conv=>whnf
 (repeat' (first | (refine ⟨fun h=>?_,fun h=>?_⟩ <;> (repeat (first | simp only [Al] at h | simp only [decide_eq_true_eq] at h | simp only [decide_eq_false_iff_not] at h | simp only [beq_iff_eq] at h | simp only [beq_eq_false_iff_ne] at h | simp only [Bool.and_eq_true] at h | simp only [Bool.and_eq_false_iff] at h)) <;> ((refine rd (by kernel_rfl) ?_);(conv=>whnf);repeat((refine aF ?_);(refine rd (by kernel_rfl) ?_);(conv=>whnf)))) | (refine Ac rfl (.cons .tmp .nil) ?_ rfl) | (refine ⟨(by kernel_rfl),?_⟩; ((conv=>whnf))) | (refine ⟨by (omega),by (omega),?_⟩; ((conv=>whnf))) | (refine At (Ih 6 Ay n.domains x.domain) F197 rfl rfl rfl (by kernel_rfl) rfl ?_; ((refine rd (by kernel_rfl) ?_);(conv=>whnf))) | (refine At (Af5 5 Cy n.vrfs x.vrf) F200 rfl rfl rfl (by kernel_rfl) rfl ?_; ((refine rd (by kernel_rfl) ?_);(conv=>whnf)))))
 all_goals (refine congrArg Ad ?_; clear hF; grind [Uz,Al,Ao])
def Kw (n:Net) (f:Flood):Bool:=Al f.dev n.devices.length && decide (f.addrs.length ≤ 16)
theorem right1 (n:Net) (i:Nat) (f:Flood):Sy.Spec Tryz.prog 125 [Aa i,B5 f,.ref 8 (Ap n) 0] [] (Ad (Kw n f)) []:=Ab Γ hm 100 F125 Tryz.ntmps125 rfl fun F hF=>by
 conv=>whnf
 (repeat' (first | (refine ⟨fun h=>?_,fun h=>?_⟩ <;> (repeat (first | simp only [Al] at h | simp only [decide_eq_true_eq] at h | simp only [decide_eq_false_iff_not] at h | simp only [Bool.and_eq_true] at h | simp only [Bool.and_eq_false_iff] at h)) <;> ((refine rg ?_);(conv=>whnf))) | (refine Ac rfl (.cons .tmp .nil) ?_ rfl) | (refine Ag (E3 5 Br n.devices f.dev) F126 rfl rfl rfl rfl rfl ?_; ((refine rg ?_);(conv=>whnf)))))
 all_goals (refine congrArg Ad ?_; clear hF; grind [Kw,Al])
def Ac1 (l:List Int) (most:Int):Bool:=decide (l.length = 0) || Dg l 1 most
def Yn (n:Net) (v:Vrf):Bool:=Al v.dev n.devices.length && Ac1 v.imports 65535 && Ac1 v.exports 65535
theorem right2 (n:Net) (i:Nat) (v:Vrf) (h1:Aq v.imports) (h2:Aq v.exports):Sy.Spec Tryz.prog 128 [Aa i,Cy v,.ref 8 (Ap n) 0] [] (Ad (Yn n v)) []:=Ab Γ hm 100 F128 Tryz.ntmps128 rfl fun F hF=>by
 conv=>whnf
 (repeat' (first | (refine ⟨fun h=>?_,fun h=>?_⟩ <;> (repeat (first | simp only [Al] at h | simp only [decide_eq_true_eq] at h | simp only [decide_eq_false_iff_not] at h | simp only [Bool.and_eq_true] at h | simp only [Bool.or_eq_true] at h | simp only [Bool.and_eq_false_iff] at h | simp only [Bool.or_eq_false_iff] at h)) <;> ((refine rg ?_);(conv=>whnf);repeat((refine aF ?_);(refine rg ?_);(conv=>whnf)))) | (refine Ac rfl (.cons .tmp .nil) ?_ rfl) | (refine Ag (E3 5 Br n.devices v.dev) F126 rfl rfl rfl rfl rfl ?_; ((refine rg ?_);(conv=>whnf))) | (refine Ag (Aax v.imports 65535 h1) F129 rfl rfl rfl rfl rfl ?_; ((refine rg ?_);(conv=>whnf))) | (refine Ag (Aax v.exports 65535 h2) F129 rfl rfl rfl rfl rfl ?_; ((refine rg ?_);(conv=>whnf)))))
 all_goals (refine congrArg Ad ?_; clear hF; grind [Yn,Ac1,Al])
def Ah (n:Net):Bool :=
 Aks n && C0 (H3 n) n.domains && C0 (M0 n) n.domains && C0 (El n) n.ports && C0 (J0 n) n.links && C0 (fun _=>E6 n) n.statics && C0 (fun _=>Kw n) n.floods && C0 (fun _=>Yn n) n.vrfs && C0 (Uz n) n.irbs
theorem Lm {n:Net} (h:C0 (H3 n) n.domains = true) {i:Nat} (hi:i < n.domains.length):Al n.domains[i].dev n.devices.length = true:=by
 have:=allB_iff.1 h i hi
 simp only [H3,Bool.and_eq_true] at this
 exact this.1.1.1.1.1.1
theorem B3 (n:Net) (hn:n.Fin):Sy.Spec Tryz.prog 67 [Ap n] [] (Ad (Ah n)) []:=Ab Γ hm 100 F67 Tryz.ntmps67 rfl fun F hF=>by
 conv=>whnf
 refine Bf 1 8 (Ap n) E E E ?_
 (repeat' (first | (refine ⟨fun h=>?_,fun h=>?_⟩ <;> ((refine rg ?_);(conv=>whnf);repeat((refine aF ?_);(refine rg ?_);(conv=>whnf)))) | (refine Ac rfl (.cons .tmp .nil) ?_ rfl) | (refine Ag (fewS n) F114 rfl rfl rfl rfl rfl ?_; ((refine rg ?_);(conv=>whnf))) | (refine Ag (Vz n.domains (H3 n) 116 [Ap n] [] rfl (fun i h=>⟨⟨_,_,F116⟩,bareS n i n.domains[i] hn.domains⟩) hn.domains) F115 rfl rfl rfl rfl rfl ?_; ((refine rg ?_);(conv=>whnf))) | (refine Ag (Vz n.domains (M0 n) 117 [Ap n] [] rfl (fun i h=>⟨⟨_,_,F117⟩,peersS n i n.domains[i] hn (hn.peers _ (List.getElem_mem _)) (Lm ‹_› h)⟩) hn.domains) F115 rfl rfl rfl rfl rfl ?_; ((refine rg ?_);(conv=>whnf))) | (refine Ag (Ak7 n.ports (El n) 119 [Ap n] [] rfl (fun i h=>⟨⟨_,_,F119⟩,Agu n i n.ports[i] hn (hn.tagged _ (List.getElem_mem _))⟩) hn.ports) F118 rfl rfl rfl rfl rfl ?_; ((refine rg ?_);(conv=>whnf))) | (refine Ag (Ak8 n.links (J0 n) 121 [Ap n] [] rfl (fun i h=>⟨⟨_,_,F121⟩,Agv n i n.links[i]⟩) hn.links) F120 rfl rfl rfl rfl rfl ?_; ((refine rg ?_);(conv=>whnf))) | (refine Ag (Aex n.statics (fun _=>E6 n) 123 [Ap n] [] rfl (fun i h=>⟨⟨_,_,F123⟩,Abo n i n.statics[i] hn⟩) hn.statics) F122 rfl rfl rfl rfl rfl ?_; ((refine rg ?_);(conv=>whnf))) | (refine Ag (Aht n.floods (fun _=>Kw n) 125 [] [.ref 8 (Ap n) 0] rfl (fun i h=>⟨⟨_,_,F125⟩,right1 n i n.floods[i]⟩) hn.floods) F124 rfl rfl rfl rfl rfl ?_; ((refine rg ?_);(conv=>whnf))) | (refine Ag (An6 n.vrfs (fun _=>Yn n) 128 [] [.ref 8 (Ap n) 0] rfl (fun i h=>⟨⟨_,_,F128⟩,right2 n i n.vrfs[i] (hn.imports _ (List.getElem_mem _)) (hn.exports _ (List.getElem_mem _))⟩) hn.vrfs) F127 rfl rfl rfl rfl rfl ?_; ((refine rg ?_);(conv=>whnf))) | (refine Ag (An7 n.irbs (Uz n) 131 [Ap n] [] rfl (fun i h=>⟨⟨_,_,F131⟩,Akh n i n.irbs[i]⟩) hn.irbs) F130 rfl rfl rfl rfl rfl ?_; ((refine rg ?_);(conv=>whnf)))))
 all_goals (refine congrArg Ad ?_)
 all_goals (clear hF; simp_all [Ah])
theorem Anq {n:Net} (h:Ah n = true) {i:Nat} (hi:i < n.ports.length):El n i n.ports[i] = true:=by
 simp only [Ah,Bool.and_eq_true] at h
 exact allB_iff.1 h.1.1.1.1.1.2 i hi
theorem e_dom {n:Net} (h:Ah n = true) {i:Nat} (hi:i < n.domains.length):H3 n i n.domains[i] = true:=by
 simp only [Ah,Bool.and_eq_true] at h
 exact allB_iff.1 h.1.1.1.1.1.1.1.2 i hi
theorem Ael {n:Net} (h:Ah n = true) {i:Nat} (hi:i < n.domains.length) :
  (0 ≤ n.domains[i].dev ∧ n.domains[i].dev.toNat < n.devices.length) ∧ (1 ≤ n.domains[i].vlan ∧ n.domains[i].vlan ≤ 4094) ∧ (0 ≤ n.domains[i].vni ∧ n.domains[i].vni ≤ 16777215) ∧ (n.domains[i].irb = -1 ∨ 0 ≤ n.domains[i].irb ∧ n.domains[i].irb.toNat < n.irbs.length):=by
 have:=e_dom h hi
 simp only [H3,Al,Bool.and_eq_true,Bool.or_eq_true,decide_eq_true_eq,beq_iff_eq] at this
 omega
def Ec (p:Nat → Bool) (j:Nat):List Int:=((List.range j).filter p).map Int.ofNat
theorem L5 (p:Nat → Bool) (j:Nat):Ec p (j + 1) = if p j = true then Ec p j ++ [(j:Int)] else Ec p j:=by
 rw [Ec,List.range_succ,List.filter_append,List.map_append]
 split
 ·rename_i h
  rw [List.filter_cons_of_pos (by exact h),List.filter_nil]; rfl
 ·rename_i h
  rw [List.filter_cons_of_neg (by exact h),List.filter_nil,List.map_nil,List.append_nil]; rfl
theorem D8 (p:Nat → Bool) (j:Nat):(Ec p j).length ≤ j:=by
 have:=List.length_filter_le p (List.range j)
 simpa [Ec] using this
theorem filtI_mem {p:Nat → Bool} {j:Nat} {x:Int}:x ∈ Ec p j ↔ 0 ≤ x ∧ x < j ∧ p x.toNat = true:=by
 simp only [Ec,List.mem_map,List.mem_filter,List.mem_range]
 constructor
 ·rintro ⟨i,h1,rfl⟩
  exact ⟨Int.natCast_nonneg i,by simp; omega,h1.2⟩
 ·rintro ⟨h1,h2,h3⟩
  exact ⟨x.toNat,⟨by omega,h3⟩,Int.toNat_of_nonneg h1⟩
def It (n:Net) (d:Domain) (i:Nat):Bool:=(nth n.ports i).dev == d.dev && Hv (nth n.ports i) d.vlan
def Ax (n:Net) (i:Int):List Int:=Ec (It n (nth n.domains i)) n.ports.length
def Cb (n:Net) (i:Int):List Int:=if (0 ≤ i ∧ i < n.domains.length) ∧ Ah n = true then Ax n i else []
theorem Hu (n:Net) (hn:n.Fin) (i:Int):Aq (Cb n i):=by
 have:=hn.ports
 unfold Aq at this ⊢
 unfold Cb
 split
 ·have:=D8 (It n (nth n.domains i)) n.ports.length
  unfold Ax
  omega
 ·simp
theorem Yz (n:Net) (hn:n.Fin) (i:Int):Sy.Spec Tryz.prog 288 [Ap n,Aa i] [] (.sl 1 Aa (Cb n i)) []:=Ab Γ hm 100 F288 Tryz.ntmps288 rfl fun F hF=>by
 have hr:=B3 n hn
 have hpl:=Ih 6 Ay n.domains i
 have hsp:=hn.ports
 unfold Aq at hsp
 conv=>whnf
 refine Ag hr F67 E E E E E ?_
 cases hb:Ah n
 ·rw [Cb,if_neg (by simp [hb])]
  (refine rg ?_;(conv=>whnf);refine aT ?_;refine rg ?_;(conv=>whnf);refine aT ?_;refine rg ?_;conv=>whnf)
  refine Am 4 1 Aa E ?_
  refine rg ?_;conv=>whnf
  exact Ac E (.cons .tmp .nil) E E
 (refine rg ?_;(conv=>whnf);refine aF ?_;refine rg ?_;conv=>whnf)
 refine Ag hpl F197 E E E E E ?_
 by_cases hi:0 ≤ i ∧ i < n.domains.length
 rotate_left
 ·have h0:Al i n.domains.length = false:=by simp only [Al,Bool.and_eq_false_iff,decide_eq_false_iff_not]; omega
  rw [Cb,if_neg (by simp [hb,hi]),h0]
  (refine rg ?_;(conv=>whnf);refine aT ?_;refine rg ?_;conv=>whnf)
  refine Am 4 1 Aa E ?_
  refine rg ?_;conv=>whnf
  exact Ac E (.cons .tmp .nil) E E
 have h0:Al i n.domains.length = true:=by simp only [Al,Bool.and_eq_true,decide_eq_true_eq]; exact hi
 rw [Cb,if_pos ⟨hi,hb⟩,h0]
 have hk:i.toNat < n.domains.length:=by omega
 have hf:=Ael hb hk
 have e1:nth n.domains i = n.domains[i.toNat]:=Ao hk
 rw [Ax,e1]
 obtain ⟨d,hd⟩:∃ d,n.domains[i.toNat] = d:=⟨_,rfl⟩
 rw [hd] at hf ⊢
 refine Bf 2 8 (Ap n) E E E ?_
 (refine rg ?_;(conv=>whnf);refine aF ?_;refine rg ?_;conv=>whnf)
 refine Bs 5 1000 1 Aa E E ?_
 refine Av n.ports.length (fun j=>[(1,Aa i),(2,.ref 8 (Ap n) 0),(5,.osl 1000),(19,.sl 7 Bi n.ports),(20,Aa n.ports.length),(21,Aa j)]) (fun j=>[(1000,.row 1 Aa (Ec (It n d) j))]) []
  ⟨⟨rfl,rfl,rfl,rfl,rfl,rfl,rfl,rfl,rfl,rfl,rfl,rfl,trivial⟩,⟨.inl rfl,rfl,trivial⟩,rfl,rfl⟩ ?_
 intro j hj
 refine rg ?_;conv=>whnf
 refine ⟨fun h=>?_,fun h=>?_⟩
 ·have hlt:j < n.ports.length:=by simpa using h
  have hsucc:=L5 (It n d) j
  have hfl:=D8 (It n d) j
  have hin:It n d j = ((n.ports[j]).dev == d.dev && Hv n.ports[j] d.vlan):=by
   rw [It,Ao (l:=n.ports) (i:=(j:Int)) (by simpa using hlt)]; rfl
  rw [hin] at hsucc
  have e1:n.ports[(j:Int).toNat]'(by omega) = n.ports[j]:=rfl
  have hms:=Abh n.ports[j] d.vlan (hn.tagged _ (List.getElem_mem _))
  obtain ⟨p,hp⟩:∃ p,n.ports[j] = p:=⟨_,rfl⟩
  rw [hp] at e1 hsucc hms
  obtain ⟨u,hu⟩:∃ u,Ec (It n d) j = u:=⟨_,rfl⟩
  rw [hu] at hsucc hfl ⊢
  refine rg ?_;conv=>whnf
  refine ⟨E,by omega,by omega,?_⟩
  rw [e1]
  conv=>whnf
  refine ⟨E,hi.1,hk,?_⟩
  rw [hd]
  conv=>whnf
  refine ⟨fun h2=>?_,fun h2=>?_⟩
  ·have h3:∃ k:Nat,(k:Int) = i:=⟨i.toNat,by omega⟩
   rw [h2,Bool.true_and] at hsucc
   refine rd (by kernel_rfl) ?_;conv=>whnf
   refine ⟨E,hi.1,hk,?_⟩
   rw [hd]
   conv=>whnf
   refine At hms F198 E E E (by kernel_rfl) E ?_
   refine rd (by kernel_rfl) ?_;conv=>whnf
   refine ⟨(by kernel_rfl),?_⟩
   conv=>whnf
   refine ⟨fun h4=>?_,fun h4=>?_⟩
   ·rw [if_pos h4] at hsucc
    refine rg ?_;conv=>whnf
    refine Ai (Af Γ.toTy 48 E E E E E (.row E) (.lit (e:=Aa) (l:=[(j:Int)]) E E) (by simp) (by simp; omega) (by simp; omega)) E E ?_
    refine rg ?_;conv=>whnf
    refine ⟨by unfold I64; omega,?_⟩
    conv=>whnf
    exact Ar [(1000,48)] hlt ⟨⟨E,E,E,E,E,E,E,E,E,E,E,E,Y⟩,⟨.inl (congrArg (Ob.row 1 Aa) hsucc),E,Y⟩,E,E⟩
   ·rw [if_neg (by simp [h4])] at hsucc
    refine rg ?_;conv=>whnf
    refine ⟨by unfold I64; omega,?_⟩
    conv=>whnf
    exact Ar [] hlt ⟨⟨E,E,E,E,E,E,E,E,E,E,E,E,Y⟩,⟨.inl (congrArg (Ob.row 1 Aa) hsucc),E,Y⟩,E,E⟩
  ·rw [if_neg (by simp [h2])] at hsucc
   refine rd (by kernel_rfl) ?_;conv=>whnf
   refine ⟨(by kernel_rfl),?_⟩
   ((conv=>whnf);refine aF ?_;refine rg ?_;conv=>whnf)
   refine ⟨by unfold I64; omega,?_⟩
   conv=>whnf
   exact Ar [] hlt ⟨⟨E,E,E,E,E,E,E,E,E,E,E,E,Y⟩,⟨.inl (congrArg (Ob.row 1 Aa) hsucc),E,Y⟩,E,E⟩
 ·have:j = n.ports.length:=by have:=of_decide_eq_false h; omega
  subst this
  refine As 1000 E ?_
  refine rg ?_;conv=>whnf
  exact Ac E (.cons .tmp .nil) E E
theorem Abt (n:Net) (hn:n.Fin) (l:List Domain) (p:Domain → Bool) (f:FuncId) (first cap:List SV) (hc:(SV.clo (.func f) first cap).inn [] = true) (hf:∀ x ∈ l,I4 Tryz.prog f (first ++ [Ay x] ++ cap) (Ad (p x))) (hl:Aq l) :
  Sy.Spec Tryz.prog 238 [Ap n,.sl 6 Ay l,.clo (.func f) first cap] [] (Aa (if Ah n = true then C5 p l else -1)) []:=Ab Γ hm 100 F238 Tryz.ntmps238 rfl fun F hF=>by
 have hr:=B3 n hn
 have q:=Hw l p f first cap hc hf hl
 conv=>whnf
 refine Ag hr F67 E E E E E ?_
 cases hb:Ah n
 ·rw [if_neg (by simp)]
  (refine rg ?_;(conv=>whnf);refine aT ?_;refine rg ?_;conv=>whnf)
  exact Ac E (.cons .tmp .nil) E E
 rw [if_pos rfl]
 (refine rg ?_;(conv=>whnf);refine aF ?_;refine rg ?_;conv=>whnf)
 refine Ag q F262 E E (by simp only [Ci,hc,Bool.and_true]; rfl) E E ?_
 refine rg ?_;conv=>whnf
 exact Ac E (.cons .tmp .nil) E E
theorem Abe (dev vlan:Int) (d:Domain):Sy.Spec Tryz.prog 239 [Ay d,.ref 1 (Aa dev) 0,.ref 1 (Aa vlan) 0] [] (Ad (d.dev == dev && d.vlan == vlan)) []:=Ab Γ hm 100 F239 Tryz.ntmps239 rfl fun F hF=>by
 conv=>whnf
 (repeat' (first | (refine ⟨fun h=>?_,fun h=>?_⟩ <;> (repeat (first | simp only [beq_iff_eq] at h | simp only [beq_eq_false_iff_ne] at h)) <;> ((refine rg ?_);(conv=>whnf))) | (refine Ac rfl (.cons .tmp .nil) ?_ rfl)))
 all_goals (refine congrArg Ad ?_)
 all_goals simp_all
def Kn (n:Net) (dev vlan:Int):Int:=if Ah n = true then Yh n dev vlan else -1
theorem Ti (n:Net) (hn:n.Fin) (dev vlan:Int):Sy.Spec Tryz.prog 169 [Ap n,Aa dev,Aa vlan] [] (Aa (Kn n dev vlan)) []:=Ab Γ hm 100 F169 Tryz.ntmps169 rfl fun F hF=>by
 have q:=Abt n hn n.domains (fun d=>d.dev == dev && d.vlan == vlan) 239 [] [.ref 1 (Aa dev) 0,.ref 1 (Aa vlan) 0] rfl (fun d _=>⟨⟨_,_,F239⟩,Abe dev vlan d⟩) hn.domains
 conv=>whnf
 refine Bf 4 1 (Aa dev) E E E ?_
 refine Bf 5 1 (Aa vlan) E E E ?_
 refine Ag q F238 E E E E E ?_
 refine rg ?_;conv=>whnf
 exact Ac E (.cons .tmp .nil) E E
def D3 (n:Net) (i:Int):Int :=
 if (0 ≤ i ∧ i < n.ports.length) ∧ 0 ≤ (nth n.ports i).link ∧ Ah n = true then
  (if (nth n.links (nth n.ports i).link).a = i then (nth n.links (nth n.ports i).link).b else (nth n.links (nth n.ports i).link).a) else -1
theorem Km {n:Net} (h:Ah n = true) {i:Nat} (hi:i < n.ports.length) (hl:0 ≤ n.ports[i].link) :
  n.ports[i].link.toNat < n.links.length ∧ ((nth n.links n.ports[i].link).a = i ∨ (nth n.links n.ports[i].link).b = i):=by
 have:=Anq h hi
 simp only [El,Al,Bool.and_eq_true,Bool.or_eq_true,decide_eq_true_eq,beq_iff_eq] at this
 rcases this.2 with h1 | h1
 ·omega
 ·exact ⟨by omega,h1.2⟩
theorem Abk (n:Net) (hn:n.Fin) (i:Int):Sy.Spec Tryz.prog 258 [Ap n,Aa i] [] (Aa (D3 n i)) []:=Ab Γ hm 100 F258 Tryz.ntmps258 rfl fun F hF=>by
 have hr:=B3 n hn
 conv=>whnf
 refine ⟨fun h=>?_,fun h=>?_⟩
 ·have h1:i < 0:=of_decide_eq_true h
  rw [D3,if_neg (by omega)]
  (refine rg ?_;(conv=>whnf);refine aT ?_;refine rg ?_;(conv=>whnf);refine aT ?_;refine rg ?_;(conv=>whnf);refine aT ?_;refine rg ?_;conv=>whnf)
  exact Ac E (.cons .tmp .nil) E E
 have h1:0 ≤ i:=by have:=of_decide_eq_false h; omega
 refine rg ?_;conv=>whnf
 refine ⟨fun h=>?_,fun h=>?_⟩
 ·have h2:n.ports.length ≤ i:=of_decide_eq_true h
  rw [D3,if_neg (by omega)]
  (refine rg ?_;(conv=>whnf);refine aT ?_;refine rg ?_;(conv=>whnf);refine aT ?_;refine rg ?_;conv=>whnf)
  exact Ac E (.cons .tmp .nil) E E
 have h2:i < n.ports.length:=by have:=of_decide_eq_false h; omega
 have hk:i.toNat < n.ports.length:=by omega
 have e1:nth n.ports i = n.ports[i.toNat]:=Ao hk
 have hlk:=fun (hb:Ah n = true)=>Km hb hk
 rw [D3,e1]
 obtain ⟨p,hp⟩:∃ p,n.ports[i.toNat] = p:=⟨_,rfl⟩
 rw [hp] at hlk ⊢
 refine rg ?_;conv=>whnf
 refine ⟨E,h1,hk,?_⟩
 rw [hp]
 conv=>whnf
 refine ⟨fun h=>?_,fun h=>?_⟩
 ·have h3:p.link < 0:=of_decide_eq_true h
  rw [if_neg (by omega)]
  (refine rg ?_;(conv=>whnf);refine aT ?_;refine rg ?_;conv=>whnf)
  exact Ac E (.cons .tmp .nil) E E
 have h3:0 ≤ p.link:=by have:=of_decide_eq_false h; omega
 refine rg ?_;conv=>whnf
 refine Ag hr F67 E E E E E ?_
 cases hb:Ah n
 ·rw [if_neg (by simp)]
  (refine rg ?_;(conv=>whnf);refine aT ?_;refine rg ?_;conv=>whnf)
  exact Ac E (.cons .tmp .nil) E E
 rw [if_pos ⟨⟨h1,h2⟩,h3,rfl⟩]
 have hq:=hlk hb h3
 have e2:nth n.links p.link = n.links[p.link.toNat]:=Ao hq.1
 rw [e2]
 obtain ⟨l,hl⟩:∃ l,n.links[p.link.toNat]'hq.1 = l:=⟨_,rfl⟩
 rw [hl]
 (refine rg ?_;(conv=>whnf);refine aF ?_;refine rg ?_;conv=>whnf)
 refine ⟨E,h1,hk,?_⟩
 rw [hp]
 conv=>whnf
 refine ⟨E,h3,hq.1,?_⟩
 rw [hl]
 conv=>whnf
 refine ⟨(by kernel_rfl),?_⟩
 conv=>whnf
 refine ⟨fun h=>?_,fun h=>?_⟩
 ·have h4:l.a = i:=by simpa using h
  rw [if_pos h4]
  refine rg ?_;conv=>whnf
  exact Ac E (.cons .tmp .nil) E E
 ·have h4:¬ l.a = i:=by simpa using h
  rw [if_neg h4]
  refine rg ?_;conv=>whnf
  exact Ac E (.cons .tmp .nil) E E
theorem J3 (l:List Int) (p:Int → Bool) (f:FuncId) (first cap:List SV) (hc:(SV.clo (.func f) first cap).inn [] = true) (hf:∀ x ∈ l,I4 Tryz.prog f (first ++ [Aa x] ++ cap) (Ad (p x))) (hl:Aq l) :
  Sy.Spec Tryz.prog 321 [.sl 1 Aa l,.clo (.func f) first cap] [] (Aa (C5 p l)) []:=Ab Γ hm 100 F321 Tryz.ntmps321 rfl fun F hF=>by
 unfold Aq at hl
 have hin:∀ x:Int,Ci [] (first ++ [Aa x] ++ cap) = true:=fun x=>Db hc rfl
 conv=>whnf
 refine A2 l.length (fun j=>C8 (fun _ x=>!(p x)) l j) (fun j=>[(0,.sl 1 Aa l),(1,.clo (.func f) first cap),(7,Aa l.length),(8,Aa j)]) (fun _=>[]) [] (A5 _ _) ⟨⟨E,E,Bm _,hc,E,E,E,E,Y⟩,Y,E,E⟩ ?_
 intro j hj hI
 refine rg ?_;conv=>whnf
 refine ⟨fun h=>?_,fun h=>?_⟩
 ·have h:=of_decide_eq_true h
  have hj2:j < l.length:=by omega
  refine rg ?_;conv=>whnf
  refine ⟨E,by omega,by omega,?_⟩
  conv=>whnf
  refine Ei (hf l[j] (List.getElem_mem hj2)) E E E (by simp only [hin]; rfl) E E ?_
  refine rg ?_;conv=>whnf
  refine ⟨fun h2=>?_,fun h2=>?_⟩
  ·refine rg ?_;conv=>whnf
   refine Ac E (.cons .tmp .nil) (congrArg Aa ?_) E
   exact Cs hj2 (fun i hi hij=>by simpa using hI i hi hij) h2
  ·refine rg ?_;conv=>whnf
   refine ⟨by unfold I64; omega,?_⟩
   conv=>whnf
   exact Aw [] hI hj2 (A3 hI hj2 (by simp [h2])) ⟨⟨E,E,Bm _,hc,E,E,E,E,Y⟩,Y,E,E⟩
 ·have h:=of_decide_eq_false h
  refine rg ?_;conv=>whnf
  refine Ac E (.cons .tmp .nil) (congrArg Aa ?_) E
  exact C3 (fun i hi=>by simpa using hI i hi (by omega))
theorem T7 (l:List Int) (p:Int → Bool) (f:FuncId) (first cap:List SV) (hc:(SV.clo (.func f) first cap).inn [] = true) (hf:∀ x ∈ l,I4 Tryz.prog f (first ++ [Aa x] ++ cap) (Ad (p x))) (hl:Aq l) :
  Sy.Spec Tryz.prog 345 [.sl 1 Aa l,.clo (.func f) first cap] [] (Ad (decide (0 ≤ C5 p l))) []:=Ab Γ hm 100 F345 Tryz.ntmps345 rfl fun F hF=>by
 have h0:Ci [] [.sl 1 Aa l,.clo (.func f) first cap] = true:=by simp only [Ci,hc]; rfl
 conv=>whnf
 refine Ag (J3 l p f first cap hc hf hl) F321 E E (by simp only [h0]; rfl) E E ?_
 refine rg ?_;conv=>whnf
 exact Ac E (.cons .tmp .nil) E E
theorem Aof (v:Vrf) (hv:Aq v.imports) (t:Int):Sy.Spec Tryz.prog 344 [Aa t,.ref 5 (Cy v) 0] [] (Ad (inB v.imports t)) []:=Ab Γ hm 100 F344 Tryz.ntmps344 rfl fun F hF=>by
 have q:=Du v.imports t hv
 conv=>whnf
 refine Ag q F86 E E E E E ?_
 refine rg ?_;conv=>whnf
 exact Ac E (.cons .tmp .nil) E E
def leaksB (n:Net) (i k:Int):Bool:=i == k || (nth n.vrfs i).dev == (nth n.vrfs k).dev && decide (0 ≤ C5 (inB (nth n.vrfs k).imports) (nth n.vrfs i).exports)
theorem Ae2 (n:Net) (hn:n.Fin) (hb:Ah n = true) (i k:Int) (hi:0 ≤ i ∧ i.toNat < n.vrfs.length) (hk:0 ≤ k ∧ k.toNat < n.vrfs.length) :
  Sy.Spec Tryz.prog 332 [Ap n,Aa i,Aa k] [] (Ad (leaksB n i k)) []:=Ab Γ hm 100 F332 Tryz.ntmps332 rfl fun F hF=>by
 have hr:=B3 n hn
 rw [hb] at hr
 have him:=hn.imports _ (List.getElem_mem hk.2)
 have hex:=hn.exports _ (List.getElem_mem hi.2)
 rw [leaksB,Ao hi.2,Ao hk.2]
 obtain ⟨a,ha⟩:∃ a,n.vrfs[i.toNat]'hi.2 = a:=⟨_,rfl⟩
 obtain ⟨b,hbb⟩:∃ b,n.vrfs[k.toNat]'hk.2 = b:=⟨_,rfl⟩
 rw [ha] at hex ⊢
 rw [hbb] at him ⊢
 have q:=T7 a.exports (inB b.imports) 344 [] [.ref 5 (Cy b) 0] rfl (fun t _=>⟨⟨_,_,F344⟩,Aof b him t⟩) hex
 conv=>whnf
 refine ⟨fun h=>absurd (of_decide_eq_true h) (by omega),fun _=>?_⟩
 refine rg ?_;conv=>whnf
 refine ⟨fun h=>absurd (of_decide_eq_true h) (by omega),fun _=>?_⟩
 refine rg ?_;conv=>whnf
 refine ⟨fun h=>absurd (of_decide_eq_true h) (by omega),fun _=>?_⟩
 refine rg ?_;conv=>whnf
 refine ⟨fun h=>absurd (of_decide_eq_true h) (by omega),fun _=>?_⟩
 refine rg ?_;conv=>whnf
 refine Ag hr F67 E E E E E ?_
 (refine rg ?_;(conv=>whnf);refine aF ?_;refine rg ?_;conv=>whnf)
 refine ⟨E,hi.1,hi.2,?_⟩
 rw [ha]
 conv=>whnf
 refine ⟨E,hk.1,hk.2,?_⟩
 rw [hbb]
 conv=>whnf
 refine ⟨(by kernel_rfl),?_⟩
 conv=>whnf
 refine ⟨fun h=>?_,fun h=>?_⟩
 ·rw [h,Bool.true_or]
  refine rg ?_;conv=>whnf
  exact Ac E (.cons .tmp .nil) E E
 rw [h,Bool.false_or]
 refine rg ?_;conv=>whnf
 refine ⟨fun h=>?_,fun h=>?_⟩
 ·rw [h,Bool.true_and]
  refine Bf 8 5 (Cy b) E E E ?_
  refine rg ?_;conv=>whnf
  refine Ag q F345 E E E E E ?_
  refine rg ?_;conv=>whnf
  exact Ac E (.cons .tmp .nil) E E
 ·rw [h,Bool.false_and]
  refine rg ?_;conv=>whnf
  exact Ac E (.cons .tmp .nil) E E
def Ds (n:Net) (i:Int):Int:=(nth n.domains (nth n.irbs i).domain).dev
theorem Ap5 {n:Net} (h:Ah n = true) {i:Nat} (hi:i < n.irbs.length):Uz n i n.irbs[i] = true:=by
 simp only [Ah,Bool.and_eq_true] at h
 exact allB_iff.1 h.2 i hi
theorem C2 {n:Net} (h:Ah n = true) {i:Nat} (hi:i < n.irbs.length) :
  (0 ≤ n.irbs[i].domain ∧ n.irbs[i].domain.toNat < n.domains.length) ∧ (0 ≤ n.irbs[i].vrf ∧ n.irbs[i].vrf.toNat < n.vrfs.length) ∧ (0 ≤ n.irbs[i].bits ∧ n.irbs[i].bits ≤ 32):=by
 have:=Ap5 h hi
 simp only [Uz,Al,Bool.and_eq_true,decide_eq_true_eq] at this
 omega
theorem Ja (n:Net) (hb:Ah n = true) (i:Int) (hi:0 ≤ i ∧ i.toNat < n.irbs.length):Sy.Spec Tryz.prog 297 [Ap n,Aa i] [] (Aa (Ds n i)) []:=Ab Γ hm 100 F297 Tryz.ntmps297 rfl fun F hF=>by
 have hf:=(C2 hb hi.2).1
 rw [Ds,Ao hi.2]
 obtain ⟨x,hx⟩:∃ x,n.irbs[i.toNat]'hi.2 = x:=⟨_,rfl⟩
 rw [hx] at hf ⊢
 rw [Ao hf.2]
 obtain ⟨d,hd⟩:∃ d,n.domains[x.domain.toNat]'hf.2 = d:=⟨_,rfl⟩
 rw [hd]
 conv=>whnf
 refine ⟨E,hi.1,hi.2,?_⟩
 rw [hx]
 conv=>whnf
 refine ⟨E,hf.1,hf.2,?_⟩
 rw [hd]
 conv=>whnf
 refine ⟨(by kernel_rfl),?_⟩
 conv=>whnf
 exact Ac E (.cons .tmp .nil) E E
def Zm (n:Net) (i k:Int):Bool:=Ds n i == Ds n k && leaksB n (nth n.irbs k).vrf (nth n.irbs i).vrf
theorem Afd (n:Net) (hn:n.Fin) (hb:Ah n = true) (i k:Int) (hi:0 ≤ i ∧ i.toNat < n.irbs.length) (hk:0 ≤ k ∧ k.toNat < n.irbs.length) :
  Sy.Spec Tryz.prog 299 [Ap n,Aa i,Aa k] [] (Ad (Zm n i k)) []:=Ab Γ hm 100 F299 Tryz.ntmps299 rfl fun F hF=>by
 have q1:=Ja n hb i hi
 have q2:=Ja n hb k hk
 have f1:=(C2 hb hi.2).2.1
 have f2:=(C2 hb hk.2).2.1
 have q3:=Ae2 n hn hb _ _ f2 f1
 rw [Zm,Ao hi.2,Ao hk.2]
 obtain ⟨x,hx⟩:∃ x,n.irbs[i.toNat]'hi.2 = x:=⟨_,rfl⟩
 obtain ⟨y,hy⟩:∃ y,n.irbs[k.toNat]'hk.2 = y:=⟨_,rfl⟩
 rw [hx,hy] at q3
 rw [hx,hy]
 generalize Ds n i = di at *
 generalize Ds n k = dk at *
 conv=>whnf
 refine At q1 F297 E E E (by kernel_rfl) E ?_
 refine rd (by kernel_rfl) ?_;conv=>whnf
 refine At q2 F297 E E E (by kernel_rfl) E ?_
 refine rd (by kernel_rfl) ?_;conv=>whnf
 refine ⟨fun h=>?_,fun h=>?_⟩
 ·rw [h,Bool.true_and]
  refine rd (by kernel_rfl) ?_;conv=>whnf
  refine ⟨E,hk.1,hk.2,?_⟩
  rw [hy]
  conv=>whnf
  refine ⟨E,hi.1,hi.2,?_⟩
  rw [hx]
  conv=>whnf
  refine At q3 F332 E E E (by kernel_rfl) E ?_
  refine rd (by kernel_rfl) ?_;conv=>whnf
  refine ⟨(by kernel_rfl),?_⟩
  conv=>whnf
  exact Ac E (.cons .tmp .nil) E E
 ·rw [h,Bool.false_and]
  refine rd (by kernel_rfl) ?_;conv=>whnf
  refine ⟨(by kernel_rfl),?_⟩
  conv=>whnf
  exact Ac E (.cons .tmp .nil) E E
abbrev Adh (a b:Int):SV:=.agg [B0 a,Aa b]
theorem Aj1 (a b:Int) (h:0 ≤ b ∧ b ≤ 32):Sy.Spec Tryz.prog 330 [Adh a b] [] (Ad true) []:=Ab Γ hm 100 F330 Tryz.ntmps330 rfl fun F hF=>by
 conv=>whnf
 refine ⟨fun _=>?_,fun h2=>absurd (of_decide_eq_false h2) (by omega)⟩
 refine rg ?_;conv=>whnf
 refine Ac E (.cons .tmp .nil) (congrArg Ad ?_) E
 simp; omega
def Ac3 (b:Int):Int:=IntKind.u32.wrap (IntKind.u32.wrap (1 * 2 ^ (min (32 - b).toNat IntKind.u32.bits)) - 1)
theorem Amh (a b:Int) (h:0 ≤ b ∧ b ≤ 32):Sy.Spec Tryz.prog 331 [Adh a b] [] (B0 (Ac3 b)) []:=Ab Γ hm 100 F331 Tryz.ntmps331 rfl fun F hF=>by
 conv=>whnf
 refine ⟨by unfold I64; omega,?_⟩
 conv=>whnf
 refine ⟨by omega,?_⟩
 conv=>whnf
 exact Ac E (.cons .tmp .nil) E E
def Y3 (a b x:Int):Bool:=bits .andNot .u32 (bits .xor .u32 a x) (Ac3 b) == 0
theorem An8 (a b x:Int) (h:0 ≤ b ∧ b ≤ 32):Sy.Spec Tryz.prog 298 [Adh a b,B0 x] [] (Ad (Y3 a b x)) []:=Ab Γ hm 100 F298 Tryz.ntmps298 rfl fun F hF=>by
 have q1:=Aj1 a b h
 have q2:=Amh a b h
 rw [Y3]
 generalize Ac3 b = r at *
 conv=>whnf
 refine At q1 F330 E E E (by kernel_rfl) E ?_
 (refine rd (by kernel_rfl) ?_;(conv=>whnf);refine aT ?_;refine rd (by kernel_rfl) ?_;conv=>whnf)
 refine At q2 F331 E E E (by kernel_rfl) E ?_
 refine rd (by kernel_rfl) ?_;conv=>whnf
 refine ⟨(by kernel_rfl),?_⟩
 conv=>whnf
 exact Ac E (.cons .tmp .nil) E E
def Qh (c:Int → Int → Int) (l:List Int) (j:Nat):Int:=((l.drop 1).take j).foldl (fun m x=>if 0 < c x m then x else m) (nth l 0)
theorem Uv (c:Int → Int → Int) (l:List Int) (j:Nat) (h:j + 1 < l.length):Qh c l (j + 1) = if 0 < c l[j + 1] (Qh c l j) then l[j + 1] else Qh c l j:=by
 have hl:j < (l.drop 1).length:=by rw [List.length_drop]; omega
 rw [Qh,List.take_succ_eq_append_getElem hl,List.foldl_append]
 have e:(l.drop 1)[j] = l[j + 1]:=by rw [List.getElem_drop]; congr 1; omega
 simp only [List.foldl_cons,List.foldl_nil,e]
 rfl
theorem Tk (c:Int → Int → Int) (l:List Int) (h:0 < l.length):∀ j,j + 1 ≤ l.length → Qh c l j ∈ l
 | 0,_=>by
  rw [Qh,List.take_zero,List.foldl_nil,Ao (l:=l) (i:=0) (by simpa using h)]
  exact List.getElem_mem _
 | j + 1,hj=>by
  rw [Uv c l j (by omega)]
  split
  ·exact List.getElem_mem _
  ·exact Tk c l h j (by omega)
theorem Amw (l:List Int) (c:Int → Int → Int) (f:FuncId) (first cap:List SV) (hc:(SV.clo (.func f) first cap).inn [] = true) (h0:0 < l.length) (hl:Aq l)
  (hf:∀ x ∈ l,∀ y ∈ l,I4 Tryz.prog f (first ++ [Aa x,Aa y] ++ cap) (Aa (c x y))) :
  Sy.Spec Tryz.prog 301 [.sl 1 Aa l,.clo (.func f) first cap] [] (Aa (Qh c l (l.length - 1))) []:=Ab Γ hm 100 F301 Tryz.ntmps301 rfl fun F hF=>by
 unfold Aq at hl
 have hin:∀ x y:Int,Ci [] (first ++ [Aa x,Aa y] ++ cap) = true:=fun x y=>Db hc rfl
 have hmem:=Tk c l h0
 have hsucc:=Uv c l
 have hz:Qh c l 0 = l[0]:=by rw [Qh,List.take_zero,List.foldl_nil,Ao (l:=l) (i:=0) (by simpa using h0)]; rfl
 generalize Qh c l = m at *
 conv=>whnf
 refine ⟨fun h=>absurd (of_decide_eq_true h) (by omega),fun _=>?_⟩
 refine rg ?_;conv=>whnf
 refine ⟨E,by omega,by simpa using h0,?_⟩
 conv=>whnf
 refine Av (l.length - 1) (fun j=>[(0,.sl 1 Aa l),(1,.clo (.func f) first cap),(5,Aa (m j)),(6,Aa ((j:Int) + 1))]) (fun _=>[]) []
  ⟨⟨rfl,rfl,Bm _,hc,congrArg Aa hz,rfl,rfl,rfl,trivial⟩,trivial,rfl,rfl⟩ ?_
 intro j hj
 have hmj:=hmem j (by omega)
 have hsj:=hsucc j
 refine rg ?_;conv=>whnf
 refine ⟨fun h=>?_,fun h=>?_⟩
 ·have hlt:j + 1 < l.length:=by have:=of_decide_eq_true h; omega
  have hsj:=hsj hlt
  have hk:((j:Int) + 1).toNat < l.length:=by omega
  have e1:l[((j:Int) + 1).toNat]'hk = l[j + 1]:=by congr 1
  obtain ⟨x,hx⟩:∃ x,l[j + 1] = x:=⟨_,rfl⟩
  have hxm:x ∈ l:=hx ▸ List.getElem_mem hlt
  rw [hx] at e1 hsj
  refine rg ?_;conv=>whnf
  refine ⟨E,by omega,hk,?_⟩
  rw [e1]
  conv=>whnf
  refine Ei (hf x hxm (m j) hmj) E E E (by simp only [hin]; rfl) E E ?_
  refine rg ?_;conv=>whnf
  refine ⟨fun h2=>?_,fun h2=>?_⟩
  ·rw [if_pos (of_decide_eq_true h2)] at hsj
   refine rg ?_;conv=>whnf
   refine ⟨E,by omega,hk,?_⟩
   rw [e1]
   conv=>whnf
   refine ⟨by unfold I64; omega,?_⟩
   conv=>whnf
   exact Ar [] (by omega) ⟨⟨E,E,Bm _,hc,congrArg Aa hsj,E,congrArg Aa (by omega),E,Y⟩,Y,E,E⟩
  ·rw [if_neg (of_decide_eq_false h2)] at hsj
   refine rg ?_;conv=>whnf
   refine ⟨by unfold I64; omega,?_⟩
   conv=>whnf
   exact Ar [] (by omega) ⟨⟨E,E,Bm _,hc,congrArg Aa hsj,E,congrArg Aa (by omega),E,Y⟩,Y,E,E⟩
 ·have:j = l.length - 1:=by have:=of_decide_eq_false h; omega
  subst this
  refine rg ?_;conv=>whnf
  exact Ac E (.cons .tmp .nil) E E
def Yx (n:Net) (irb i:Int):Int:=if (nth n.irbs i).vrf = (nth n.irbs irb).vrf then 1 else 0
abbrev InIrbs (n:Net) (i:Int):Prop:=0 ≤ i ∧ i.toNat < n.irbs.length
theorem Adu (n:Net) (irb i:Int) (hi:InIrbs n i) (hk:InIrbs n irb):Sy.Spec Tryz.prog 300 [Aa i,.ref 8 (Ap n) 0,.ref 1 (Aa irb) 0] [] (Aa (Yx n irb i)) []:=Ab Γ hm 100 F300 Tryz.ntmps300 rfl fun F hF=>by
 rw [Yx,Ao hi.2,Ao hk.2]
 obtain ⟨x,hx⟩:∃ x,n.irbs[i.toNat]'hi.2 = x:=⟨_,rfl⟩
 obtain ⟨y,hy⟩:∃ y,n.irbs[irb.toNat]'hk.2 = y:=⟨_,rfl⟩
 rw [hx,hy]
 conv=>whnf
 refine ⟨E,hi.1,hi.2,?_⟩
 rw [hx]
 conv=>whnf
 refine ⟨E,hk.1,hk.2,?_⟩
 rw [hy]
 conv=>whnf
 refine ⟨(by kernel_rfl),?_⟩
 conv=>whnf
 refine ⟨fun h=>?_,fun h=>?_⟩
 ·rw [if_pos (by simpa using h)]
  refine rg ?_;conv=>whnf
  exact Ac E (.cons .tmp .nil) E E
 ·rw [if_neg (by simpa using h)]
  refine rg ?_;conv=>whnf
  exact Ac E (.cons .tmp .nil) E E
def cmpR (n:Net) (irb a b:Int):Int:=if (nth n.irbs a).bits ≠ (nth n.irbs b).bits then (nth n.irbs a).bits - (nth n.irbs b).bits else Yx n irb a - Yx n irb b
theorem Ah7 (n:Net) (irb i:Int):0 ≤ Yx n irb i ∧ Yx n irb i ≤ 1:=by
 unfold Yx; split <;> omega
theorem Amx (n:Net) (hb:Ah n = true) (irb a b:Int) (hk:InIrbs n irb) (ha:InIrbs n a) (hb2:InIrbs n b) :
  Sy.Spec Tryz.prog 302 [Aa a,Aa b,.ref 8 (Ap n) 0,.ref 1 (.clo (.func 300) [] [.ref 8 (Ap n) 0,.ref 1 (Aa irb) 0]) 0] [] (Aa (cmpR n irb a b)) []:=Ab Γ hm 100 F302 Tryz.ntmps302 rfl fun F hF=>by
 have fa:=(C2 hb ha.2).2.2
 have fb:=(C2 hb hb2.2).2.2
 have q1:=Adu n irb a ha hk
 have q2:=Adu n irb b hb2 hk
 have l1:=Ah7 n irb a
 have l2:=Ah7 n irb b
 rw [cmpR,Ao ha.2,Ao hb2.2]
 obtain ⟨x,hx⟩:∃ x,n.irbs[a.toNat]'ha.2 = x:=⟨_,rfl⟩
 obtain ⟨y,hy⟩:∃ y,n.irbs[b.toNat]'hb2.2 = y:=⟨_,rfl⟩
 rw [hx] at fa ⊢
 rw [hy] at fb ⊢
 generalize Yx n irb a = oa at *
 generalize Yx n irb b = ob at *
 conv=>whnf
 refine ⟨E,ha.1,ha.2,?_⟩
 rw [hx]
 conv=>whnf
 refine ⟨E,hb2.1,hb2.2,?_⟩
 rw [hy]
 conv=>whnf
 refine ⟨(by kernel_rfl),?_⟩
 conv=>whnf
 refine ⟨fun h=>?_,fun h=>?_⟩
 ·rw [if_pos (by simpa using h)]
  refine rg ?_;conv=>whnf
  refine ⟨by unfold I64; omega,?_⟩
  conv=>whnf
  exact Ac E (.cons .tmp .nil) E E
 ·rw [if_neg (by simpa using h)]
  refine rg ?_;conv=>whnf
  refine Ahk ⟨⟨_,_,F300⟩,q1⟩ E E E E (by kernel_rfl) E ?_
  refine rd (by kernel_rfl) ?_;conv=>whnf
  refine Ahk ⟨⟨_,_,F300⟩,q2⟩ E E E E (by kernel_rfl) E ?_
  refine rd (by kernel_rfl) ?_;conv=>whnf
  refine ⟨by unfold I64; omega,?_⟩
  conv=>whnf
  refine ⟨(by kernel_rfl),?_⟩
  conv=>whnf
  exact Ac E (.cons .tmp .nil) E E
def Hc (n:Net) (irb dst:Int) (i:Nat):Bool:=Ds n i == Ds n irb && (nth n.irbs i).addr == dst
def J8 (n:Net) (irb dst:Int) (i:Nat):Bool:=Y3 (nth n.irbs i).addr (nth n.irbs i).bits dst && Zm n irb i
def Kz (n:Net) (irb dst:Int):List Int:=Ec (J8 n irb dst) n.irbs.length
def lookT (n:Net) (irb dst:Int):Int × Bool :=
 if (List.range n.irbs.length).any (Hc n irb dst) = true then (0,false)
 else if Kz n irb dst = [] then (0,false) else (Qh (cmpR n irb) (Kz n irb dst) ((Kz n irb dst).length - 1),true)
theorem Ao9 (n:Net) (hn:n.Fin) (hb:Ah n = true) (irb dst:Int) (hk:InIrbs n irb):Sy.Spec Tryz.prog 247 [Ap n,Aa irb,B0 dst] [] (.tup [Aa (lookT n irb dst).1,Ad (lookT n irb dst).2]) []:=Ab Γ hm 100 F247 Tryz.ntmps247 rfl fun F hF=>by
 have hlk:=lookT.eq_1 n irb dst
 generalize lookT n irb dst = r at *
 have hsi:=hn.irbs
 unfold Aq at hsi
 have qk:=Ja n hb irb hk
 conv=>whnf
 refine Bf 3 8 (Ap n) E E E ?_
 refine Bf 4 1 (Aa irb) E E E ?_
 refine Bs 8 1000 1 Aa E E ?_
 refine A2 n.irbs.length (fun j=>∀ i,i < j → Hc n irb dst i = false) (fun j=>[(2,B0 dst),(3,.ref 8 (Ap n) 0),(4,.ref 1 (Aa irb) 0),(8,.osl 1000),(13,.sl 5 Dl n.irbs),(14,Aa n.irbs.length),(15,Aa j)]) (fun j=>[(1000,.row 1 Aa (Ec (J8 n irb dst) j))]) [] (fun i hi=>absurd hi (by omega))
  ⟨⟨rfl,rfl,rfl,rfl,rfl,rfl,rfl,rfl,rfl,rfl,rfl,rfl,rfl,rfl,trivial⟩,⟨.inl rfl,rfl,trivial⟩,rfl,rfl⟩ ?_
 intro j hj hI
 refine rg ?_;conv=>whnf
 refine ⟨fun h=>?_,fun h=>?_⟩
 ·have hlt:j < n.irbs.length:=by simpa using h
  have hij:InIrbs n (j:Int):=⟨by omega,by simpa using hlt⟩
  have qj:=Ja n hb j hij
  have hsucc:=L5 (J8 n irb dst) j
  have hfl:=D8 (J8 n irb dst) j
  have hta:Hc n irb dst j = (Ds n j == Ds n irb && (nth n.irbs j).addr == dst):=rfl
  have hwa:J8 n irb dst j = (Y3 (nth n.irbs j).addr (nth n.irbs j).bits dst && Zm n irb j):=rfl
  have enj:nth n.irbs (j:Int) = n.irbs[j]:=Ao (l:=n.irbs) (i:=(j:Int)) (by simpa using hlt)
  have hf:=(C2 hb hlt).2.2
  have e1:n.irbs[(j:Int).toNat]'(by omega) = n.irbs[j]:=rfl
  rw [enj] at hta hwa
  obtain ⟨x,hx⟩:∃ x,n.irbs[j] = x:=⟨_,rfl⟩
  rw [hx] at e1 hta hwa hf
  have q1:=An8 x.addr x.bits dst hf
  have q2:=Afd n hn hb irb j hk hij
  rw [hwa] at hsucc
  obtain ⟨u,hu⟩:∃ u,Ec (J8 n irb dst) j = u:=⟨_,rfl⟩
  rw [hu] at hsucc hfl ⊢
  refine rg ?_;conv=>whnf
  refine ⟨E,by omega,by omega,?_⟩
  rw [e1]
  conv=>whnf
  refine At qj F297 E E E (by kernel_rfl) E ?_
  refine rd (by kernel_rfl) ?_;conv=>whnf
  refine At qk F297 E E E (by kernel_rfl) E ?_
  refine rd (by kernel_rfl) ?_;conv=>whnf
  refine ⟨fun h2=>?_,fun h2=>?_⟩
  ·rw [h2,Bool.true_and] at hta
   refine rd (by kernel_rfl) ?_;conv=>whnf
   refine ⟨(by kernel_rfl),?_⟩
   conv=>whnf
   refine ⟨fun h3=>?_,fun h3=>?_⟩
   ·have:(List.range n.irbs.length).any (Hc n irb dst) = true:=List.any_eq_true.2 ⟨j,by simpa using hlt,hta.trans h3⟩
    rw [if_pos this] at hlk
    subst hlk
    refine rg ?_;conv=>whnf
    exact Ac E (.cons .tmp (.cons .tmp .nil)) E E
   ·have hnt:=hta.trans h3
    refine rg ?_;conv=>whnf
    refine Ag q1 F298 E E E E E ?_
    refine rg ?_;conv=>whnf
    refine ⟨fun h4=>?_,fun h4=>?_⟩
    ·rw [h4,Bool.true_and] at hsucc
     refine rg ?_;conv=>whnf
     refine Ag q2 F299 E E E E E ?_
     refine rg ?_;conv=>whnf
     refine ⟨fun h5=>?_,fun h5=>?_⟩
     ·rw [if_pos h5] at hsucc
      refine rg ?_;conv=>whnf
      refine Ai (Af Γ.toTy 47 E E E E E (.row E) (.lit (e:=Aa) (l:=[(j:Int)]) E E) (by simp) (by simp; omega) (by simp; omega)) E E ?_
      refine rg ?_;conv=>whnf
      refine ⟨by unfold I64; omega,?_⟩
      conv=>whnf
      exact Aw [(1000,47)] hI hlt (fun i hi=>if e:i = j then (by rw [e]; exact hnt) else hI i (by omega)) ⟨⟨E,E,E,E,E,E,E,E,E,E,E,E,E,E,Y⟩,⟨.inl (congrArg (Ob.row 1 Aa) hsucc),E,Y⟩,E,E⟩
     ·rw [if_neg (by simp [h5])] at hsucc
      refine rg ?_;conv=>whnf
      refine ⟨by unfold I64; omega,?_⟩
      conv=>whnf
      exact Aw [] hI hlt (fun i hi=>if e:i = j then (by rw [e]; exact hnt) else hI i (by omega)) ⟨⟨E,E,E,E,E,E,E,E,E,E,E,E,E,E,Y⟩,⟨.inl (congrArg (Ob.row 1 Aa) hsucc),E,Y⟩,E,E⟩
    ·rw [if_neg (by simp [h4])] at hsucc
     (refine rg ?_;(conv=>whnf);refine aF ?_;refine rg ?_;conv=>whnf)
     refine ⟨by unfold I64; omega,?_⟩
     conv=>whnf
     exact Aw [] hI hlt (fun i hi=>if e:i = j then (by rw [e]; exact hnt) else hI i (by omega)) ⟨⟨E,E,E,E,E,E,E,E,E,E,E,E,E,E,Y⟩,⟨.inl (congrArg (Ob.row 1 Aa) hsucc),E,Y⟩,E,E⟩
  ·have hnt:Hc n irb dst j = false:=by rw [hta,h2,Bool.false_and]
   refine rd (by kernel_rfl) ?_;conv=>whnf
   refine ⟨(by kernel_rfl),?_⟩
   ((conv=>whnf);refine aF ?_;refine rg ?_;conv=>whnf)
   refine Ag q1 F298 E E E E E ?_
   refine rg ?_;conv=>whnf
   refine ⟨fun h4=>?_,fun h4=>?_⟩
   ·rw [h4,Bool.true_and] at hsucc
    refine rg ?_;conv=>whnf
    refine Ag q2 F299 E E E E E ?_
    refine rg ?_;conv=>whnf
    refine ⟨fun h5=>?_,fun h5=>?_⟩
    ·rw [if_pos h5] at hsucc
     refine rg ?_;conv=>whnf
     refine Ai (Af Γ.toTy 47 E E E E E (.row E) (.lit (e:=Aa) (l:=[(j:Int)]) E E) (by simp) (by simp; omega) (by simp; omega)) E E ?_
     refine rg ?_;conv=>whnf
     refine ⟨by unfold I64; omega,?_⟩
     conv=>whnf
     exact Aw [(1000,47)] hI hlt (fun i hi=>if e:i = j then (by rw [e]; exact hnt) else hI i (by omega)) ⟨⟨E,E,E,E,E,E,E,E,E,E,E,E,E,E,Y⟩,⟨.inl (congrArg (Ob.row 1 Aa) hsucc),E,Y⟩,E,E⟩
    ·rw [if_neg (by simp [h5])] at hsucc
     refine rg ?_;conv=>whnf
     refine ⟨by unfold I64; omega,?_⟩
     conv=>whnf
     exact Aw [] hI hlt (fun i hi=>if e:i = j then (by rw [e]; exact hnt) else hI i (by omega)) ⟨⟨E,E,E,E,E,E,E,E,E,E,E,E,E,E,Y⟩,⟨.inl (congrArg (Ob.row 1 Aa) hsucc),E,Y⟩,E,E⟩
   ·rw [if_neg (by simp [h4])] at hsucc
    (refine rg ?_;(conv=>whnf);refine aF ?_;refine rg ?_;conv=>whnf)
    refine ⟨by unfold I64; omega,?_⟩
    conv=>whnf
    exact Aw [] hI hlt (fun i hi=>if e:i = j then (by rw [e]; exact hnt) else hI i (by omega)) ⟨⟨E,E,E,E,E,E,E,E,E,E,E,E,E,E,Y⟩,⟨.inl (congrArg (Ob.row 1 Aa) hsucc),E,Y⟩,E,E⟩
 ·have:j = n.irbs.length:=by have:=of_decide_eq_false h; omega
  subst this
  have hno:¬ (List.range n.irbs.length).any (Hc n irb dst) = true:=fun h=>by
   obtain ⟨i,h1,h2⟩:=List.any_eq_true.1 h
   rw [hI i (by simpa using h1)] at h2
   cases h2
  rw [if_neg hno] at hlk
  have hin:∀ y ∈ Kz n irb dst,InIrbs n y:=fun y hy=>by
   have:=(filtI_mem (p:=J8 n irb dst) (j:=n.irbs.length)).1 hy
   exact ⟨this.1,by omega⟩
  have hwl:=D8 (J8 n irb dst) n.irbs.length
  have hwe:Ec (J8 n irb dst) n.irbs.length = Kz n irb dst:=rfl
  rw [hwe] at hwl ⊢
  have q:∀ h0:0 < (Kz n irb dst).length,_:=fun h0=>Amw (Kz n irb dst) (cmpR n irb) 302 [] [.ref 8 (Ap n) 0,.ref 1 (.clo (.func 300) [] [.ref 8 (Ap n) 0,.ref 1 (Aa irb) 0]) 0] rfl h0 (by unfold Aq; omega) (fun y hy z hz=>⟨⟨_,_,F302⟩,Amx n hb irb y z hk (hin y hy) (hin z hz)⟩)
  generalize Kz n irb dst = l at *
  refine As 1000 E ?_
  refine rg ?_;conv=>whnf
  refine ⟨fun h3=>?_,fun h3=>?_⟩
  ·have h4:l = []:=by simpa using h3
   rw [if_pos h4] at hlk
   subst hlk
   refine rg ?_;conv=>whnf
   exact Ac E (.cons .tmp (.cons .tmp .nil)) E E
  ·have h4:¬ l = []:=by simpa using h3
   rw [if_neg h4] at hlk
   have q:=q (List.length_pos_iff.2 h4)
   subst hlk
   refine rg ?_;conv=>whnf
   refine Bf 11 1 (.clo (.func 300) [] [.ref 8 (Ap n) 0,.ref 1 (Aa irb) 0]) E E E ?_
   refine rg ?_;conv=>whnf
   refine Ag q F301 E E E E E ?_
   refine rg ?_;conv=>whnf
   exact Ac E (.cons .tmp (.cons .tmp .nil)) E E
theorem Adt {n:Net} {irb dst:Int} (h:(lookT n irb dst).2 = true):InIrbs n (lookT n irb dst).1:=by
 unfold lookT at h ⊢
 split at h
 ·cases h
 rename_i h1
 rw [if_neg h1]
 split at h
 ·cases h
 rename_i h2
 rw [if_neg h2]
 have hm:=Tk (cmpR n irb) (Kz n irb dst) (List.length_pos_iff.2 h2) ((Kz n irb dst).length - 1) (by have:=List.length_pos_iff.2 h2; omega)
 have:=(filtI_mem (p:=J8 n irb dst) (j:=n.irbs.length)).1 hm
 exact ⟨this.1,by omega⟩
end Go.Sy.YtmelpejjondedaaGreat
namespace Go.Sy
def Aez (C:Cx) {β:Type} (I:β → Prop) (L:β → List (Nat × SV)) (O:β → Obs) (μ:β → Nat) (x:β) (a:Act) (w:World):Prop :=
 ∃ x':{y:β // I y},∃ κ,μ x'.1 < μ x ∧ St C.F C.n (mkS (L x'.1) (O x'.1)) κ a w
theorem Apu {C:Cx} {k:List KI} {s:SS} {body:Code} {β:Type} (I:β → Prop) (L:β → List (Nat × SV)) (O:β → Obs) (μ:β → Nat) (x₀:β) (ρ:List (Nat × Nat)) (h0:I x₀) (hsub:Sub C s ρ (L x₀) (O x₀))
  (h:∀ x,I x → G C (.code body :: .inv (Aez C I L O μ x) :: k) (mkS (L x) (O x))):G C (.code (.loop body) :: k) s :=
 Ov (α:={y:β // I y}) (fun x=>L x.1) (fun x=>O x.1) (fun x=>μ x.1) ⟨x₀,h0⟩ ρ hsub (fun x=>h x.1 x.2)
theorem Aoa {C:Cx} {k:List KI} {s:SS} {β:Type} {I:β → Prop} {L:β → List (Nat × SV)} {O:β → Obs} {μ:β → Nat} {x:β} (x':β) (ρ:List (Nat × Nat)) (h':I x') (hμ:μ x' < μ x) (hsub:Sub C s ρ (L x') (O x')) :
  G C (.inv (Aez C I L O μ x) :: k) s:=fun _ _ _ hs=>⟨⟨x',h'⟩,_,hμ,hsub.st hs⟩
theorem D9 {C:Cx} {k:List KI} {s:SS} (d:Nat) {sz:Nat} {α:Type} (e:α → SV) (l:List α) {svs:List SV} (h:s.h d = .lit sz svs) (hl:l.map e = svs) (hg:G C k ⟨s.σ,upd s.h d (.row sz e l)⟩):G C k s:=fun κ a w hs=>by
 refine hg κ a w ⟨hs.defers,hs.size,hs.inv,hs.ctx,hs.slot,fun j=>?_⟩
 show ObOK κ w j (upd s.h d (.row sz e l) j)
 by_cases hj:j = d
 ·subst hj
  rw [Bt]
  have hob:=hs.obj j
  rw [h] at hob
  have hlen:l.length = svs.length:=by rw [← hl,List.length_map]
  obtain ⟨b,cap,cs,T,fr,e1,e2,e3,e4,e5,e6⟩:=hob
  exact .inr ⟨b,cap,cs,T,fr,by rw [hlen]; exact e1,e2,e3,e4,by omega,fun i x hx=>by rw [hlen]; exact e6 i x (K2 hl i x hx)⟩
 ·rw [Cd _ _ hj]; exact hs.obj j
end Go.Sy
namespace Go.Sy.YtmelpejjondedaaGreat
open Go.Proofs
attribute [local irreducible] Go.Sy.G Go.Sy.DR
set_option maxRecDepth 20000
set_option maxHeartbeats 4000000
theorem Afk (l:List Int) (least most:Int) (hl:Aq l):Sy.Spec Tryz.prog 266 [.sl 1 Aa l,Aa least,Aa most] [] (Ad (Dg l least most)) []:=Ab Γ hm 100 F266 Tryz.ntmps266 rfl fun F hF=>by
 unfold Aq at hl
 conv=>whnf
 (repeat' (first | (refine ⟨fun h=>?_,fun h=>?_⟩ <;> (repeat (first | simp only [decide_eq_true_eq] at h | simp only [decide_eq_false_iff_not] at h)) <;> ((refine rg ?_);(conv=>whnf);repeat((refine aT ?_);(refine rg ?_);(conv=>whnf)))) | (refine Ac rfl (.cons .tmp .nil) ?_ rfl)))
 all_goals try (refine congrArg Ad ?_)
 ·rw [Dg]; simp; omega
 ·rw [Dg]; simp; omega
 refine A2 l.length (fun j=>C8 (K3 l least most) l j) (fun j=>[(0,.sl 1 Aa l),(1,Aa least),(2,Aa most),(7,Aa j)]) (fun _=>[]) [] (A5 _ _) ⟨⟨E,E,E,E,E,E,E,E,Y⟩,Y,E,E⟩ ?_
 intro j hj hI
 refine rg ?_;conv=>whnf
 (repeat' (first | (refine ⟨fun h=>?_,fun h=>?_⟩ <;> (repeat (first | simp only [decide_eq_true_eq] at h | simp only [decide_eq_false_iff_not] at h)) <;> ((first|refine rg ?_|refine rd (by kernel_rfl) ?_);(conv=>whnf);repeat((refine aT ?_);(refine rd (by kernel_rfl) ?_);(conv=>whnf)))) | (refine Ac rfl (.cons .tmp .nil) ?_ rfl) | (refine ⟨(by kernel_rfl),?_⟩; ((conv=>whnf);repeat((first|refine aF ?_|refine aT ?_);(refine rg ?_);(conv=>whnf)))) | (refine ⟨by (first | (unfold I64; omega) | omega),by (omega),?_⟩; ((conv=>whnf))) | (refine ⟨by (unfold I64; omega),?_⟩; ((conv=>whnf))) | refine Aw [] hI (by omega) ?_ ⟨⟨rfl,rfl,rfl,rfl,rfl,rfl,rfl,rfl,trivial⟩,trivial,rfl,rfl⟩))
 all_goals try (refine congrArg Ad ?_)
 all_goals try simp only [Int.toNat_natCast,Int.pred_toNat] at *
 ·rw [Dg,Bd (i:=j) (by omega) (by simp [K3]; omega)]; simp
 ·rw [Dg,Bd (i:=j) (by omega) (by simp [K3]; omega)]; simp
 ·rw [Dg,Bd (i:=j) (by omega) (by simp only [K3,Ao (show ((j:Int) - 1).toNat < l.length by omega),Int.pred_toNat,Int.toNat_natCast]; simp; omega)]; simp
 ·exact A3 hI (by omega) (by simp only [K3,Ao (show ((j:Int) - 1).toNat < l.length by omega),Int.pred_toNat,Int.toNat_natCast]; simp; omega)
 ·exact A3 hI (by omega) (by simp [K3]; omega)
 ·rw [Dg,B7 hI (by omega),Bool.eq_iff_iff]; simp; omega
theorem Lv (l:List Int) (most:Int) (hl:Aq l):Sy.Spec Tryz.prog 206 [.sl 1 Aa l,Aa most] [] (Ad (decide (l.length = 0) || Dg l 1 most)) []:=Ab Γ hm 100 F206 Tryz.ntmps206 rfl fun F hF=>by
 conv=>whnf
 (repeat' (first | (refine ⟨fun h=>?_,fun h=>?_⟩ <;> (repeat (first | simp only [beq_iff_eq] at h | simp only [beq_eq_false_iff_ne] at h)) <;> ((refine rg ?_);(conv=>whnf))) | (refine Ac rfl (.cons .tmp .nil) ?_ rfl) | (refine Ag (Afk l 1 most hl) F266 rfl rfl rfl rfl rfl ?_; ((refine rg ?_);(conv=>whnf)))))
 all_goals (refine congrArg Ad ?_)
 all_goals grind
theorem Ba (i:Int) (n:Nat):Sy.Spec Tryz.prog 35 [Aa i,Aa n] [] (Ad (Al i n)) []:=Ab Γ hm 100 F35 Tryz.ntmps35 rfl fun F hF=>by
 conv=>whnf
 (repeat' (first | (refine ⟨fun h=>?_,fun h=>?_⟩ <;> (repeat (first | simp only [decide_eq_true_eq] at h | simp only [decide_eq_false_iff_not] at h)) <;> ((refine rg ?_);(conv=>whnf))) | (refine Ac rfl (.cons .tmp .nil) ?_ rfl)))
 all_goals (refine congrArg Ad ?_)
 all_goals grind [Al]
theorem Jj {α:Type} {p:α → Bool} {l:List α} {j:Nat} (hI:C8 (fun _ x=>!(p x)) l j) (hj:l.length ≤ j):l.any p = false:=by
 rw [List.any_eq_false]
 intro x hx
 obtain ⟨i,hi,rfl⟩:=List.mem_iff_getElem.1 hx
 simpa using hI i hi (by omega)
theorem Ln {α:Type} {p:α → Bool} {l:List α} {j:Nat} (hj:j < l.length) (h:p l[j] = true):l.any p = true:=List.any_eq_true.2 ⟨_,List.getElem_mem hj,h⟩
theorem Ek (l:List Int) (x:Int) (hl:Aq l):Sy.Spec Tryz.prog 142 [.sl 1 Aa l,Aa x] [] (Ad (inB l x)) []:=Ab Γ hm 100 F142 Tryz.ntmps142 rfl fun F hF=>by
 unfold Aq at hl
 conv=>whnf
 refine A2 l.length (fun j=>C8 (fun _ y=>!(y == x)) l j) (fun j=>[(0,.sl 1 Aa l),(1,Aa x),(5,Aa j)]) (fun _=>[]) [] (A5 _ _) ⟨⟨E,E,E,E,E,E,Y⟩,Y,E,E⟩ ?_
 intro j hj hI
 refine rg ?_;conv=>whnf
 (repeat' (first | (refine ⟨fun h=>?_,fun h=>?_⟩ <;> (repeat (first | simp only [decide_eq_true_eq] at h | simp only [decide_eq_false_iff_not] at h | simp only [beq_iff_eq] at h | simp only [beq_eq_false_iff_ne] at h)) <;> ((refine rg ?_);(conv=>whnf))) | (refine Ac rfl (.cons .tmp .nil) ?_ rfl) | (refine ⟨(by kernel_rfl),?_⟩; ((conv=>whnf))) | (refine ⟨by (omega),by (omega),?_⟩; ((conv=>whnf))) | (refine ⟨by (unfold I64; omega),?_⟩; ((conv=>whnf))) | refine Aw [] hI (by omega) ?_ ⟨⟨rfl,rfl,rfl,rfl,rfl,rfl,trivial⟩,trivial,rfl,rfl⟩))
 all_goals try (refine congrArg Ad ?_)
 ·exact Ln (j:=j) (by omega) (by simpa using h)
 ·exact A3 hI (by omega) (by simpa using h)
 ·exact Jj hI (by omega)
theorem Ta (p:Port) (v:Int) (hl:Aq p.tagged):Sy.Spec Tryz.prog 207 [Bi p,Aa v] [] (Ad (Hv p v)) []:=Ab Γ hm 100 F207 Tryz.ntmps207 rfl fun F hF=>by
 conv=>whnf
 (repeat' (first | (refine ⟨fun h=>?_,fun h=>?_⟩ <;> (repeat (first | simp only [beq_iff_eq] at h | simp only [beq_eq_false_iff_ne] at h | simp only [bne_iff_ne] at h | simp only [bne_eq_false_iff_eq] at h)) <;> ((refine rg ?_);(conv=>whnf))) | (refine Ac rfl (.cons .tmp .nil) ?_ rfl) | (refine Ag (Ek p.tagged v hl) F142 rfl rfl rfl rfl rfl ?_; ((refine rg ?_);(conv=>whnf)))))
 all_goals (refine congrArg Ad ?_)
 all_goals grind [Hv]
theorem Mw (n:Net) (dev vlan:Int) (hl:Aq n.domains):Sy.Spec Tryz.prog 79 [Ap n,Aa dev,Aa vlan] [] (Aa (Yh n dev vlan)) []:=Ab Γ hm 100 F79 Tryz.ntmps79 rfl fun F hF=>by
 unfold Aq at hl
 conv=>whnf
 refine Bf 3 8 (Ap n) E E E ?_
 refine A2 n.domains.length (fun j=>C8 (fun _ d=>!(d.dev == dev && d.vlan == vlan)) n.domains j) (fun j=>[(1,Aa dev),(2,Aa vlan),(3,.ref 8 (Ap n) 0),(7,Aa j)]) (fun _=>[]) [] (A5 _ _) ⟨⟨E,E,E,E,E,E,E,E,Y⟩,Y,E,E⟩ ?_
 intro j hj hI
 refine rg ?_;conv=>whnf
 (repeat' (first | (refine ⟨fun h=>?_,fun h=>?_⟩ <;> (repeat (first | simp only [decide_eq_true_eq] at h | simp only [decide_eq_false_iff_not] at h | simp only [beq_iff_eq] at h | simp only [beq_eq_false_iff_ne] at h)) <;> ((refine rg ?_);(conv=>whnf);repeat((refine aF ?_);(refine rg ?_);(conv=>whnf)))) | (refine Ac rfl (.cons .tmp .nil) ?_ rfl) | (refine ⟨(by kernel_rfl),?_⟩; ((conv=>whnf))) | (refine ⟨by (omega),by (omega),?_⟩; ((conv=>whnf))) | (refine ⟨by (unfold I64; omega),?_⟩; ((conv=>whnf))) | refine Aw [] hI (by omega) ?_ ⟨⟨rfl,rfl,rfl,rfl,rfl,rfl,rfl,rfl,trivial⟩,trivial,rfl,rfl⟩))
 all_goals try (refine congrArg Aa ?_)
 ·exact Cs (by omega) (fun i hi hij=>by have:=hI i hi hij; grind) (by simp_all)
 ·exact A3 hI (by omega) (by simp_all)
 ·exact A3 hI (by omega) (by simp_all)
 ·exact C3 (fun i hi=>by have:=hI i hi (by omega); grind)
theorem Ac9 (n:Net) (hn:n.Fin):Sy.Spec Tryz.prog 138 [Ap n] [] (Ad (C0 (J0 n) n.links)) []:=Ab Γ hm 100 F138 Tryz.ntmps138 rfl fun F hF=>by
 have hl:=hn.links
 unfold Aq at hl
 conv=>whnf
 refine Bf 1 8 (Ap n) E E E ?_
 refine A2 n.links.length (fun j=>C8 (J0 n) n.links j) (fun j=>[(1,.ref 8 (Ap n) 0),(3,Aa j)]) (fun _=>[]) [] (A5 _ _) ⟨⟨E,E,E,E,Y⟩,Y,E,E⟩ ?_
 intro j hj hI
 refine rg ?_;conv=>whnf
 (repeat' (first | (refine ⟨fun h=>?_,fun h=>?_⟩ <;> (repeat (first | simp only [Al] at h | simp only [decide_eq_true_eq] at h | simp only [decide_eq_false_iff_not] at h | simp only [beq_iff_eq] at h | simp only [beq_eq_false_iff_ne] at h | simp only [bne_iff_ne] at h | simp only [bne_eq_false_iff_eq] at h | simp only [Bool.and_eq_true] at h | simp only [Bool.and_eq_false_iff] at h | simp only [Bool.not_eq_true'] at h | simp only [Bool.not_eq_false'] at h)) <;> ((first|refine rg ?_|refine rd (by kernel_rfl) ?_);(conv=>whnf);repeat((refine aT ?_);(first|refine rg ?_|refine rd (by kernel_rfl) ?_);(conv=>whnf)))) | (refine Ac rfl (.cons .tmp .nil) ?_ rfl) | (refine ⟨(by kernel_rfl),?_⟩; ((conv=>whnf);repeat((refine aT ?_);(refine rg ?_);(conv=>whnf)))) | (refine ⟨by (first | omega | (simp only [Int.toNat_natCast]; omega)),by (first | omega | (simp only [Int.toNat_natCast]; omega)),?_⟩; ((conv=>whnf))) | (refine ⟨by (unfold I64; omega),?_⟩; ((conv=>whnf))) | (refine Ag (Ba (n.links[j]'(by omega)).a n.ports.length) F35 rfl rfl rfl rfl rfl ?_; ((refine rg ?_);(conv=>whnf))) | (refine Ag (Ba (n.links[j]'(by omega)).b n.ports.length) F35 rfl rfl rfl rfl rfl ?_; ((refine rg ?_);(conv=>whnf))) | refine Aw [] hI (by omega) ?_ ⟨⟨rfl,rfl,rfl,rfl,trivial⟩,trivial,rfl,rfl⟩))
 all_goals (simp only [Int.toNat_natCast] at *)
 all_goals first
  | exact A3 hI (by omega) (by clear hI hF; grind [J0,Al,Ao])
  | (refine congrArg Ad ?_; exact Bd (i:=j) (by omega) (by clear hI hF; grind [J0,Al,Ao]))
  | (refine congrArg Ad ?_; exact B7 hI (by omega))
theorem Ac8 (n:Net) (hn:n.Fin):Sy.Spec Tryz.prog 137 [Ap n] [] (Ad (C0 (El n) n.ports)) []:=Ab Γ hm 100 F137 Tryz.ntmps137 rfl fun F hF=>by
 have hl:=hn.ports
 unfold Aq at hl
 conv=>whnf
 refine Bf 1 8 (Ap n) E E E ?_
 refine A2 n.ports.length (fun j=>C8 (El n) n.ports j) (fun j=>[(1,.ref 8 (Ap n) 0),(3,Aa j)]) (fun _=>[]) [] (A5 _ _) ⟨⟨E,E,E,E,Y⟩,Y,E,E⟩ ?_
 intro j hj hI
 refine rg ?_;conv=>whnf
 refine ⟨fun h=>?_,fun h=>?_⟩
 ·have hjl:j < n.ports.length:=by simpa using h
  have ht:=hn.tagged _ (List.getElem_mem hjl)
  generalize hp:n.ports[j] = p at ht
  have hp':n.ports[(j:Int).toNat]'(by omega) = p:=hp
  refine rg ?_;conv=>whnf
  refine ⟨E,by omega,by omega,?_⟩
  rw [hp']
  conv=>whnf
  (repeat' (first | (refine ⟨fun h=>?_,fun h=>?_⟩ <;> (repeat (first | simp only [Al] at h | simp only [decide_eq_true_eq] at h | simp only [decide_eq_false_iff_not] at h | simp only [beq_iff_eq] at h | simp only [beq_eq_false_iff_ne] at h | simp only [Bool.and_eq_true] at h | simp only [Bool.or_eq_true] at h | simp only [Bool.and_eq_false_iff] at h | simp only [Bool.or_eq_false_iff] at h | simp only [Bool.not_eq_true'] at h | simp only [Bool.not_eq_false'] at h)) <;> ((refine rg ?_);(conv=>whnf);repeat((first|refine aF ?_|refine aT ?_);(refine rg ?_);(conv=>whnf)))) | (refine Ac rfl (.cons .tmp .nil) ?_ rfl) | (refine Ag (Ba p.dev n.devices.length) F35 rfl rfl rfl rfl rfl ?_; ((refine rg ?_);(conv=>whnf))) | (refine Ag (Lv p.tagged 4094 ht) F206 rfl rfl rfl rfl rfl ?_; ((refine rg ?_);(conv=>whnf))) | (refine Ag (Ek p.tagged p.native ht) F142 rfl rfl rfl rfl rfl ?_; ((refine rg ?_);(conv=>whnf))) | (refine Ag (Mw n p.dev p.native hn.domains) F79 rfl rfl rfl rfl rfl ?_; ((refine rg ?_);(conv=>whnf)))))
  all_goals first
   | (refine congrArg Ad ?_; exact Bd hjl (by rw [hp]; clear hI hF hp'; grind [El,Al,Cg]))
   | skip
  all_goals (
   refine Bf 4 7 (Bi p) E E E ?_
   refine A2 p.tagged.length (fun k=>C8 (fun _ v=>Cg n p.dev v) p.tagged k) (fun k=>[(1,.ref 8 (Ap n) 0),(3,Aa j),(4,.ref 7 (Bi p) 0),(5,Aa k)]) (fun _=>[]) [] (A5 _ _) ⟨⟨E,E,E,E,E,E,E,E,Y⟩,Y,E,E⟩ ?_
   intro k hk hI2
   have hsh:=ht
   unfold Aq at hsh
   ((first|refine rG Γ hm ?_|refine rD Γ hm (by kernel_rfl) ?_);(conv=>whnf);repeat((first|refine aF ?_|refine aT ?_);(first|refine rG Γ hm ?_|refine rD Γ hm (by kernel_rfl) ?_);conv=>whnf)))
  all_goals (
   (repeat' (first | (refine ⟨fun h=>?_,fun h=>?_⟩ <;> (repeat (first | simp only [Al] at h | simp only [decide_eq_true_eq] at h | simp only [decide_eq_false_iff_not] at h | simp only [beq_iff_eq] at h | simp only [beq_eq_false_iff_ne] at h | simp only [bne_iff_ne] at h | simp only [bne_eq_false_iff_eq] at h | simp only [Bool.and_eq_true] at h | simp only [Bool.and_eq_false_iff] at h | simp only [Bool.not_eq_true'] at h | simp only [Bool.not_eq_false'] at h)) <;> ((refine rg ?_);(conv=>whnf);repeat((first|refine aF ?_|refine aT ?_);(refine rg ?_);(conv=>whnf)))) | (refine Ac rfl (.cons .tmp .nil) ?_ rfl) | (refine ⟨(by kernel_rfl),?_⟩; ((conv=>whnf))) | (refine ⟨by (omega),by (omega),?_⟩; ((conv=>whnf))) | (refine ⟨by (unfold I64; omega),?_⟩; ((conv=>whnf))) | (refine At (Mw n p.dev (p.tagged[k]'(by omega)) hn.domains) F79 rfl rfl rfl (by kernel_rfl) rfl ?_; ((refine rd (by kernel_rfl) ?_);(conv=>whnf))) | (refine Ag (Ba p.link n.links.length) F35 rfl rfl rfl rfl rfl ?_; ((refine rg ?_);(conv=>whnf))) | refine Aw [] hI2 (by omega) ?_ ⟨⟨rfl,rfl,rfl,rfl,rfl,rfl,rfl,rfl,trivial⟩,trivial,rfl,rfl⟩ | refine Aw [] hI (by omega) ?_ ⟨⟨rfl,rfl,rfl,rfl,trivial⟩,trivial,rfl,rfl⟩)))
  all_goals first
   | exact A3 hI2 (by omega) (by simp only [Cg,decide_eq_true_eq]; omega)
   | (refine congrArg Ad ?_
      have h0:C0 (fun _ v=>Cg n p.dev v) p.tagged = false:=Bd (i:=k) (by omega) (by simp only [Cg,decide_eq_false_iff_not]; omega)
      exact Bd hjl (by rw [hp]; clear hI hI2 hF hp'; grind [El]))
   | skip
  all_goals have h0:C0 (fun _ v=>Cg n p.dev v) p.tagged = true:=B7 hI2 (by omega)
  all_goals first
   | exact A3 hI hjl (by rw [hp]; clear hI hI2 hF hp'; grind [El,Al,Cg,Ao])
   | (refine congrArg Ad ?_
      exact Bd hjl (by rw [hp]; clear hI hI2 hF hp'; grind [El,Al,Cg,Ao]))
 ·refine rg ?_;conv=>whnf
  exact Ac E (.cons .tmp .nil) (congrArg Ad (B7 hI (by simpa using h))) E
theorem Afv (n:Net) (i:Nat) (k:Int) (hn:n.Fin) (hi:i < n.domains.length) (hb:C0 (H3 n) n.domains = true):Sy.Spec Tryz.prog 205 [Ap n,Aa i,Aa k] [] (Ad (M1 n i n.domains[i] k)) []:=Ab Γ hm 100 F205 Tryz.ntmps205 rfl fun F hF=>by
 have hd:=Lm hb hi
 have ha:n.domains[(i:Int).toNat]'(by omega) = n.domains[i]:=rfl
 have hr:∀ x:Bool,M1 n i n.domains[i] k = x → M1 n i (n.domains[(i:Int).toNat]'(by omega)) k = x:=fun x h=>h
 generalize n.domains[i] = d at *
 simp only [Al,Bool.and_eq_true,decide_eq_true_eq] at hd
 conv=>whnf
 (repeat' (first | (refine ⟨fun h=>?_,fun h=>?_⟩ <;> (repeat (first | simp only [Al] at h | simp only [decide_eq_true_eq] at h | simp only [decide_eq_false_iff_not] at h | simp only [beq_iff_eq] at h | simp only [beq_eq_false_iff_ne] at h | simp only [bne_iff_ne] at h | simp only [bne_eq_false_iff_eq] at h | simp only [Bool.and_eq_true] at h | simp only [Bool.and_eq_false_iff] at h | simp only [Bool.not_eq_true'] at h | simp only [Bool.not_eq_false'] at h)) <;> ((refine rg ?_);(conv=>whnf);repeat((first|refine aF ?_|refine aT ?_);(refine rg ?_);(conv=>whnf)))) | (refine Ac rfl (.cons .tmp .nil) ?_ rfl) | (refine ⟨(by kernel_rfl),?_⟩; ((conv=>whnf))) | (refine ⟨by (first | omega | (first | (simp only [ha]; omega) | (have hq:=Lm hb (i:=k.toNat) (by omega); simp only [Al,Bool.and_eq_true,decide_eq_true_eq] at hq; omega))),by (first | omega | (first | (simp only [ha]; omega) | (have hq:=Lm hb (i:=k.toNat) (by omega); simp only [Al,Bool.and_eq_true,decide_eq_true_eq] at hq; omega))),?_⟩; ((conv=>whnf))) | (refine Ag (Ba k n.domains.length) F35 rfl rfl rfl rfl rfl ?_; ((refine rg ?_);(conv=>whnf))) | (refine Ag (Ek (n.domains[k.toNat]'(by omega)).peers i (hn.peers _ (List.getElem_mem _))) F142 rfl rfl rfl rfl rfl ?_; ((refine rg ?_);(conv=>whnf)))))
 all_goals (
  refine congrArg Ad ?_
  have hq:∀ h:k.toNat < n.domains.length,0 ≤ n.domains[k.toNat].dev ∧ n.domains[k.toNat].dev < n.devices.length:=fun h=>by
   have:=Lm hb h
   simpa only [Al,Bool.and_eq_true,decide_eq_true_eq] using this
  clear hF hr; grind [M1,Ab9,Al,Ao])
theorem Apd (l:List Int) (k:Nat) (hk:k < l.length):inB (l.take k) l[k] = !(C5 (· == l[k]) l == (k:Int)):=by
 have h0:∀ x,C5 (· == l[k]) l = x → inB (l.take k) l[k] = !(x == (k:Int)):=by
  intro x hx
  subst hx
  unfold C5
  split
  ·rename_i i h
   rw [List.findIdx?_eq_some_iff_getElem] at h
   obtain ⟨hi,h1,h2⟩:=h
   have hle:i ≤ k:=by
    rcases Nat.lt_or_ge k i with h3 | h3
    ·exact absurd (h2 k h3) (by simp)
    ·exact h3
   by_cases he:i = k
   ·subst he
    simp only [inB,beq_self_eq_true,Bool.not_true]
    rw [List.any_eq_false]
    intro x hx
    obtain ⟨m,hm,rfl⟩:=List.mem_iff_getElem.1 hx
    simp only [List.length_take] at hm
    rw [List.getElem_take]
    have:=h2 m (by omega)
    simpa using this
   ·have:((i:Int) == (k:Int)) = false:=by simp; omega
    rw [this]
    simp only [inB,Bool.not_false]
    refine List.any_eq_true.2 ⟨l[i],?_,h1⟩
    exact List.mem_iff_getElem.2 ⟨i,by simp; omega,by simp⟩
  ·rename_i h
   rw [List.findIdx?_eq_none_iff] at h
   have:=h l[k] (List.getElem_mem hk)
   simp at this
 exact h0 _ E
theorem Y5 {P:Program} (Γ:Ty P) {o:Oper} {s:SS} {t:TypeId} {ti:TI} {et:TypeId} {sz eb lo hi:Nat} {ez:List Value} {x:Operand} {lx hx:Option Operand} {α:Type} {e:α → SV} {l:List α} (r:List α)
  (h:o.op = .slice t x lx hx none) (ht:Γ.get t = some ti) (hk:ti.k = .slice et sz eb ez) (hxe:ev s x = .sl sz e l) (hlo:BoundIs s lx 0 lo) (hhi:BoundIs s hx l.length hi) (h1:lo ≤ hi) (h2:hi ≤ l.length) (hr:(l.take hi).drop lo = r) :
  Good P o s ⟨.sl sz e r,[],[]⟩:=by
 subst hr
 exact Bc Γ h ht hk hxe hlo hhi h1 h2
theorem Yt (n:Net) (hn:n.Fin):Sy.Spec Tryz.prog 136 [Ap n] [] (Ad (C0 (H3 n) n.domains && C0 (M0 n) n.domains)) []:=Ab Γ hm 100 F136 Tryz.ntmps136 rfl fun F hF=>by
 have hl:=hn.domains
 unfold Aq at hl
 conv=>whnf
 refine Bf 1 8 (Ap n) E E E ?_
 refine A2 n.domains.length (fun j=>C8 (H3 n) n.domains j) (fun j=>[(1,.ref 8 (Ap n) 0),(3,Aa j)]) (fun _=>[]) [] (A5 _ _) ⟨⟨E,E,E,E,Y⟩,Y,E,E⟩ ?_
 intro j hj hI
 refine rg ?_;conv=>whnf
 refine ⟨fun h=>?_,fun h=>?_⟩
 ·have hjl:j < n.domains.length:=by simpa using h
  generalize hp:n.domains[j] = p
  have hp':n.domains[(j:Int).toNat]'(by omega) = p:=hp
  refine rg ?_;conv=>whnf
  refine ⟨E,by omega,by omega,?_⟩
  rw [hp']
  conv=>whnf
  (repeat' (first | (refine ⟨fun h=>?_,fun h=>?_⟩ <;> (repeat (first | simp only [Al] at h | simp only [decide_eq_true_eq] at h | simp only [decide_eq_false_iff_not] at h | simp only [bne_iff_ne] at h | simp only [bne_eq_false_iff_eq] at h | simp only [Bool.and_eq_true] at h | simp only [Bool.and_eq_false_iff] at h | simp only [Bool.not_eq_true'] at h | simp only [Bool.not_eq_false'] at h)) <;> ((refine rg ?_);(conv=>whnf);repeat((first|refine aF ?_|refine aT ?_);(refine rg ?_);(conv=>whnf)))) | (refine Ac rfl (.cons .tmp .nil) ?_ rfl) | (refine ⟨(by kernel_rfl),?_⟩; ((conv=>whnf))) | (refine ⟨by (omega),by (omega),?_⟩; ((conv=>whnf))) | (refine ⟨by (unfold I64; omega),?_⟩; ((conv=>whnf))) | (refine Ag (Ba p.dev n.devices.length) F35 rfl rfl rfl rfl rfl ?_; ((refine rg ?_);(conv=>whnf))) | (refine Ag (Ba p.irb n.irbs.length) F35 rfl rfl rfl rfl rfl ?_; ((refine rg ?_);(conv=>whnf))) | (refine Ag (Mw n p.dev p.vlan hn.domains) F79 rfl rfl rfl rfl rfl ?_; ((refine rg ?_);(conv=>whnf))) | refine Aw [] hI (by omega) ?_ ⟨⟨rfl,rfl,rfl,rfl,trivial⟩,trivial,rfl,rfl⟩))
  all_goals first
   | exact A3 hI hjl (by rw [hp]; clear hI hF hp'; grind [H3,Al,Ao])
   | (refine congrArg Ad ?_; rw [Bd (p:=H3 n) hjl (by rw [hp]; clear hI hF hp'; grind [H3,Al,Ao])]; rfl)
 have hb:C0 (H3 n) n.domains = true:=B7 hI (by simpa using h)
 clear hI
 refine rg ?_;conv=>whnf
 refine A2 n.domains.length (fun j=>C8 (M0 n) n.domains j) (fun j=>[(1,.ref 8 (Ap n) 0),(5,Aa j)]) (fun _=>[]) [] (A5 _ _) ⟨⟨E,E,E,E,Y⟩,Y,E,E⟩ ?_
 clear hj h
 intro j hj hI
 refine rg ?_;conv=>whnf
 refine ⟨fun h=>?_,fun h=>?_⟩
 ·have hjl:j < n.domains.length:=by simpa using h
  have hpe:=fun k=>Afv n j k hn hjl hb
  have hsh:=hn.peers _ (List.getElem_mem hjl)
  generalize hp:n.domains[j] = p at hpe hsh
  have hp':n.domains[(j:Int).toNat]'(by omega) = p:=hp
  refine rg ?_;conv=>whnf
  refine ⟨E,by omega,by omega,?_⟩
  rw [hp']
  conv=>whnf
  refine Bf 6 6 (Ay p) E E E ?_
  refine A2 p.peers.length (fun k=>C8 (fun at_ k=>M1 n j p k && C5 (· == k) p.peers == at_) p.peers k) (fun k=>[(1,.ref 8 (Ap n) 0),(5,Aa j),(6,.ref 6 (Ay p) 0),(7,Aa k)]) (fun _=>[]) [] (A5 _ _) ⟨⟨E,E,E,E,E,E,E,E,Y⟩,Y,E,E⟩ ?_
  intro k hk hI2
  unfold Aq at hsh
  refine rg ?_;conv=>whnf
  refine ⟨fun h2=>?_,fun h2=>?_⟩
  ·have hkl:k < p.peers.length:=by simpa using h2
   have hkk:p.peers[(k:Int).toNat]'(by omega) = p.peers[k]:=rfl
   have hty:=Apd p.peers k hkl
   refine rg ?_;conv=>whnf
   refine ⟨(by kernel_rfl),?_⟩
   refine ⟨by omega,by omega,?_⟩
   rw [hkk]
   generalize p.peers[k] = x at *
   conv=>whnf
   (repeat' (first | (refine ⟨fun h=>?_,fun h=>?_⟩ <;> (repeat (first | simp only [Bool.not_eq_true'] at h | simp only [Bool.not_eq_false'] at h)) <;> ((first|refine rg ?_|refine rd (by kernel_rfl) ?_);(conv=>whnf))) | (refine Ac rfl (.cons .tmp .nil) ?_ rfl) | (refine ⟨(by kernel_rfl),?_⟩; ((conv=>whnf);repeat((refine aT ?_);(refine rg ?_);(conv=>whnf)))) | (refine ⟨by (omega),by (omega),?_⟩; ((conv=>whnf))) | (refine ⟨by (unfold I64; omega),?_⟩; ((conv=>whnf))) | (refine At (hpe x) F205 rfl rfl rfl (by kernel_rfl) rfl ?_; ((refine rd (by kernel_rfl) ?_);(conv=>whnf))) | (refine At (Ek (p.peers.take k) (p.peers[(k:Int).toNat]'(by omega)) (by unfold Aq; simp; omega)) F142 rfl rfl rfl (by kernel_rfl) rfl ?_; ((refine rd (by kernel_rfl) ?_);(conv=>whnf))) | refine Aw [] hI2 (by omega) ?_ ⟨⟨rfl,rfl,rfl,rfl,rfl,rfl,rfl,rfl,trivial⟩,trivial,rfl,rfl⟩ | ((refine Bj (Y5 Γ.toTy (lo:=0) (hi:=k) (p.peers.take k) rfl rfl rfl rfl (.inl ⟨rfl,rfl⟩) (.inr ⟨_,_,rfl,rfl⟩) (by omega) (by omega) rfl) (by kernel_rfl) rfl ?_; ((refine rd (by kernel_rfl) ?_);(conv=>whnf))))))
   all_goals first
    | exact A3 hI2 hkl (by clear hF; grind)
    | (refine congrArg Ad ?_
       have h0:M0 n j p = false:=Bd hkl (by clear hF; grind)
       rw [hb,Bd (p:=M0 n) hjl (by rw [hp]; exact h0)]; rfl)
  ·have h0:M0 n j p = true:=B7 hI2 (by simpa using h2)
   refine rg ?_;conv=>whnf
   (repeat' (first | (refine ⟨by (unfold I64; omega),?_⟩; ((conv=>whnf))) | refine Aw [] hI (by omega) ?_ ⟨⟨rfl,rfl,rfl,rfl,trivial⟩,trivial,rfl,rfl⟩))
   exact A3 hI hjl (by rw [hp]; exact h0)
 ·refine rg ?_;conv=>whnf
  refine Ac E (.cons .tmp .nil) (congrArg Ad ?_) E
  rw [hb,B7 hI (by simpa using h)]
  rfl
def Ms (n:Net):Bool:=C0 (fun _=>E6 n) n.statics && C0 (fun _=>Kw n) n.floods && C0 (fun _=>Yn n) n.vrfs && C0 (Uz n) n.irbs
theorem rest1 {n:Net} (h:C0 (fun _=>E6 n) n.statics = false):Ms n = false:=by simp [Ms,h]
theorem rest2 {n:Net} (h:C0 (fun _=>Kw n) n.floods = false):Ms n = false:=by simp [Ms,h]
theorem rest3 {n:Net} (h:C0 (fun _=>Yn n) n.vrfs = false):Ms n = false:=by simp [Ms,h]
theorem rest4 {n:Net} (h:C0 (Uz n) n.irbs = false):Ms n = false:=by simp [Ms,h]
theorem Afu (n:Net) (hn:n.Fin):Sy.Spec Tryz.prog 139 [Ap n] [] (Ad (Ms n)) []:=Ab Γ hm 100 F139 Tryz.ntmps139 rfl fun F hF=>by
 have hl1:=hn.statics
 have hl2:=hn.floods
 have hl3:=hn.vrfs
 have hl4:=hn.irbs
 unfold Aq at hl1 hl2 hl3 hl4
 conv=>whnf
 refine Bf 1 8 (Ap n) E E E ?_
 refine A2 n.statics.length (fun j=>C8 (fun _=>E6 n) n.statics j) (fun j=>[(1,.ref 8 (Ap n) 0),(3,Aa j)]) (fun _=>[]) [] (A5 _ _) ⟨⟨E,E,E,E,Y⟩,Y,E,E⟩ ?_
 intro j hj hI
 refine rg ?_;conv=>whnf
 refine ⟨fun h=>?_,fun h=>?_⟩
 ·have hjl:j < n.statics.length:=by simpa using h
  generalize hp:n.statics[j] = s
  have hp':n.statics[(j:Int).toNat]'(by omega) = s:=hp
  refine rg ?_;conv=>whnf
  refine ⟨E,by omega,by omega,?_⟩
  rw [hp']
  conv=>whnf
  (repeat' (first | (refine ⟨fun h=>?_,fun h=>?_⟩ <;> (repeat (first | simp only [Al] at h | simp only [decide_eq_true_eq] at h | simp only [decide_eq_false_iff_not] at h | simp only [bne_iff_ne] at h | simp only [bne_eq_false_iff_eq] at h | simp only [Bool.and_eq_true] at h | simp only [Bool.and_eq_false_iff] at h | simp only [Bool.not_eq_true'] at h | simp only [Bool.not_eq_false'] at h)) <;> ((first|refine rg ?_|refine rd (by kernel_rfl) ?_);(conv=>whnf);repeat((refine aT ?_);(refine rg ?_);(conv=>whnf)))) | (refine Ac rfl (.cons .tmp .nil) ?_ rfl) | (refine ⟨(by kernel_rfl),?_⟩; ((conv=>whnf);repeat((refine aT ?_);(refine rg ?_);(conv=>whnf)))) | (refine ⟨by (omega),by (omega),?_⟩; ((conv=>whnf))) | (refine ⟨by (unfold I64; omega),?_⟩; ((conv=>whnf))) | (refine Ag (Ba s.domain n.domains.length) F35 rfl rfl rfl rfl rfl ?_; ((refine rg ?_);(conv=>whnf))) | (refine Ag (Ba s.port n.ports.length) F35 rfl rfl rfl rfl rfl ?_; ((refine rg ?_);(conv=>whnf))) | (refine At (Ta (n.ports[s.port.toNat]'(by omega)) (n.domains[s.domain.toNat]'(by omega)).vlan (hn.tagged _ (List.getElem_mem _))) F207 rfl rfl rfl (by kernel_rfl) rfl ?_; ((refine rd (by kernel_rfl) ?_);(conv=>whnf))) | refine Aw [] hI (by omega) ?_ ⟨⟨rfl,rfl,rfl,rfl,trivial⟩,trivial,rfl,rfl⟩))
  all_goals first
   | exact A3 hI hjl (by rw [hp]; clear hI hF hp'; grind [E6,Al,Ao])
   | (refine congrArg Ad ?_; exact rest1 (Bd hjl (by rw [hp]; clear hI hF hp'; grind [E6,Al,Ao])))
 have a1:C0 (fun _=>E6 n) n.statics = true:=B7 hI (by simpa using h)
 clear hI
 refine rg ?_;conv=>whnf
 refine A2 n.floods.length (fun j=>C8 (fun _=>Kw n) n.floods j) (fun j=>[(1,.ref 8 (Ap n) 0),(6,Aa j)]) (fun _=>[]) [] (A5 _ _) ⟨⟨E,E,E,E,Y⟩,Y,E,E⟩ ?_
 clear hj h
 intro j hj hI
 refine rg ?_;conv=>whnf
 refine ⟨fun h=>?_,fun h=>?_⟩
 ·have hjl:j < n.floods.length:=by simpa using h
  refine rg ?_;conv=>whnf
  (repeat' (first | (refine ⟨fun h=>?_,fun h=>?_⟩ <;> (repeat (first | simp only [Al] at h | simp only [decide_eq_true_eq] at h | simp only [decide_eq_false_iff_not] at h | simp only [Bool.and_eq_true] at h | simp only [Bool.and_eq_false_iff] at h | simp only [Bool.not_eq_true'] at h | simp only [Bool.not_eq_false'] at h)) <;> ((first|refine rg ?_|refine rd (by kernel_rfl) ?_);(conv=>whnf))) | (refine Ac rfl (.cons .tmp .nil) ?_ rfl) | (refine ⟨(by kernel_rfl),?_⟩; ((conv=>whnf);repeat((refine aT ?_);(refine rg ?_);(conv=>whnf)))) | (refine ⟨by (omega),by (omega),?_⟩; ((conv=>whnf))) | (refine ⟨by (unfold I64; omega),?_⟩; ((conv=>whnf))) | (refine At (Ba (n.floods[(j:Int).toNat]'(by omega)).dev n.devices.length) F35 rfl rfl rfl (by kernel_rfl) rfl ?_; ((refine rd (by kernel_rfl) ?_);(conv=>whnf))) | refine Aw [] hI (by omega) ?_ ⟨⟨rfl,rfl,rfl,rfl,trivial⟩,trivial,rfl,rfl⟩))
  all_goals (simp only [Int.toNat_natCast] at *)
  all_goals first
   | exact A3 hI hjl (by clear hI hF; grind [Kw,Al])
   | (refine congrArg Ad ?_; exact rest2 (Bd hjl (by clear hI hF; grind [Kw,Al])))
 have a2:C0 (fun _=>Kw n) n.floods = true:=B7 hI (by simpa using h)
 clear hI
 refine rg ?_;conv=>whnf
 refine A2 n.vrfs.length (fun j=>C8 (fun _=>Yn n) n.vrfs j) (fun j=>[(1,.ref 8 (Ap n) 0),(7,Aa j)]) (fun _=>[]) [] (A5 _ _) ⟨⟨E,E,E,E,Y⟩,Y,E,E⟩ ?_
 clear hj h
 intro j hj hI
 refine rg ?_;conv=>whnf
 refine ⟨fun h=>?_,fun h=>?_⟩
 ·have hjl:j < n.vrfs.length:=by simpa using h
  have h1:=hn.imports _ (List.getElem_mem hjl)
  have h2:=hn.exports _ (List.getElem_mem hjl)
  generalize hp:n.vrfs[j] = v at h1 h2
  have hp':n.vrfs[(j:Int).toNat]'(by omega) = v:=hp
  refine rg ?_;conv=>whnf
  refine ⟨E,by omega,by omega,?_⟩
  rw [hp']
  conv=>whnf
  (repeat' (first | (refine ⟨fun h=>?_,fun h=>?_⟩ <;> (repeat (first | simp only [Al] at h | simp only [decide_eq_true_eq] at h | simp only [decide_eq_false_iff_not] at h | simp only [Bool.and_eq_true] at h | simp only [Bool.or_eq_true] at h | simp only [Bool.and_eq_false_iff] at h | simp only [Bool.or_eq_false_iff] at h | simp only [Bool.not_eq_true'] at h | simp only [Bool.not_eq_false'] at h)) <;> ((refine rg ?_);(conv=>whnf);repeat((refine aT ?_);(refine rg ?_);(conv=>whnf)))) | (refine Ac rfl (.cons .tmp .nil) ?_ rfl) | (refine ⟨by (unfold I64; omega),?_⟩; ((conv=>whnf))) | (refine Ag (Ba v.dev n.devices.length) F35 rfl rfl rfl rfl rfl ?_; ((refine rg ?_);(conv=>whnf))) | (refine Ag (Lv v.imports 65535 h1) F206 rfl rfl rfl rfl rfl ?_; ((refine rg ?_);(conv=>whnf))) | (refine Ag (Lv v.exports 65535 h2) F206 rfl rfl rfl rfl rfl ?_; ((refine rg ?_);(conv=>whnf))) | refine Aw [] hI (by omega) ?_ ⟨⟨rfl,rfl,rfl,rfl,trivial⟩,trivial,rfl,rfl⟩))
  all_goals first
   | exact A3 hI hjl (by rw [hp]; clear hI hF hp'; grind [Yn,Ac1,Al])
   | (refine congrArg Ad ?_; exact rest3 (Bd hjl (by rw [hp]; clear hI hF hp'; grind [Yn,Ac1,Al])))
 have a3:C0 (fun _=>Yn n) n.vrfs = true:=B7 hI (by simpa using h)
 clear hI
 refine rg ?_;conv=>whnf
 refine A2 n.irbs.length (fun j=>C8 (Uz n) n.irbs j) (fun j=>[(1,.ref 8 (Ap n) 0),(9,Aa j)]) (fun _=>[]) [] (A5 _ _) ⟨⟨E,E,E,E,Y⟩,Y,E,E⟩ ?_
 clear hj h
 intro j hj hI
 refine rg ?_;conv=>whnf
 refine ⟨fun h=>?_,fun h=>?_⟩
 ·have hjl:j < n.irbs.length:=by simpa using h
  generalize hp:n.irbs[j] = x
  have hp':n.irbs[(j:Int).toNat]'(by omega) = x:=hp
  refine rg ?_;conv=>whnf
  refine ⟨E,by omega,by omega,?_⟩
  rw [hp']
  conv=>whnf
  (repeat' (first | (refine ⟨fun h=>?_,fun h=>?_⟩ <;> (repeat (first | simp only [Al] at h | simp only [decide_eq_true_eq] at h | simp only [decide_eq_false_iff_not] at h | simp only [bne_iff_ne] at h | simp only [bne_eq_false_iff_eq] at h | simp only [Bool.and_eq_true] at h | simp only [Bool.and_eq_false_iff] at h | simp only [Bool.not_eq_true'] at h | simp only [Bool.not_eq_false'] at h)) <;> ((first|refine rg ?_|refine rd (by kernel_rfl) ?_);(conv=>whnf);repeat((refine aT ?_);(refine rg ?_);(conv=>whnf)))) | (refine Ac rfl (.cons .tmp .nil) ?_ rfl) | (refine ⟨(by kernel_rfl),?_⟩; ((conv=>whnf);repeat((refine aT ?_);(refine rg ?_);(conv=>whnf)))) | (refine ⟨by (omega),by (omega),?_⟩; ((conv=>whnf))) | (refine ⟨by (unfold I64; omega),?_⟩; ((conv=>whnf))) | (refine Ag (Ba x.domain n.domains.length) F35 rfl rfl rfl rfl rfl ?_; ((refine rg ?_);(conv=>whnf))) | (refine Ag (Ba x.vrf n.vrfs.length) F35 rfl rfl rfl rfl rfl ?_; ((refine rg ?_);(conv=>whnf))) | refine Aw [] hI (by omega) ?_ ⟨⟨rfl,rfl,rfl,rfl,trivial⟩,trivial,rfl,rfl⟩))
  all_goals first
   | exact A3 hI hjl (by rw [hp]; clear hI hF hp'; grind [Uz,Al,Ao])
   | (refine congrArg Ad ?_; exact rest4 (Bd hjl (by rw [hp]; clear hI hF hp'; grind [Uz,Al,Ao])))
 have a4:C0 (Uz n) n.irbs = true:=B7 hI (by simpa using h)
 refine rg ?_;conv=>whnf
 exact Ac E (.cons .tmp .nil) (congrArg Ad (by simp [Ms,a1,a2,a3,a4])) E
theorem Dv (n:Net) (hn:n.Fin):Sy.Spec Tryz.prog 74 [Ap n] [] (Ad (Ah n)) []:=Ab Γ hm 100 F74 Tryz.ntmps74 rfl fun F hF=>by
 conv=>whnf
 (repeat' (first | (refine ⟨fun h=>?_,fun h=>?_⟩ <;> (repeat (first | simp only [decide_eq_true_eq] at h | simp only [decide_eq_false_iff_not] at h | simp only [Bool.and_eq_true] at h | simp only [Bool.and_eq_false_iff] at h)) <;> ((refine rg ?_);(conv=>whnf);repeat((first|refine aF ?_|refine aT ?_);(refine rg ?_);(conv=>whnf)))) | (refine Ac rfl (.cons .tmp .nil) ?_ rfl) | (refine Ag (Yt n hn) F136 rfl rfl rfl rfl rfl ?_; ((refine rg ?_);(conv=>whnf))) | (refine Ag (Ac8 n hn) F137 rfl rfl rfl rfl rfl ?_; ((refine rg ?_);(conv=>whnf))) | (refine Ag (Ac9 n hn) F138 rfl rfl rfl rfl rfl ?_; ((refine rg ?_);(conv=>whnf))) | (refine Ag (Afu n hn) F139 rfl rfl rfl rfl rfl ?_; ((refine rg ?_);(conv=>whnf)))))
 all_goals (refine congrArg Ad ?_; clear hF)
 all_goals (first | grind [Ah,Aks,Ms] | trace_state)
theorem Z4 (a:Int):Sy.Spec Tryz.prog 283 [Aa a] [] (Ad false) []:=Ab Γ hm 100 F283 Tryz.ntmps283 rfl fun F hF=>by
 conv=>whnf
 exact Ac E (.cons .tmp .nil) (congrArg Ad (by simp)) E
theorem Z3 (a:Int):Sy.Spec Tryz.prog 284 [Az a] [] (Ad false) []:=Ab Γ hm 100 F284 Tryz.ntmps284 rfl fun F hF=>by
 conv=>whnf
 exact Ac E (.cons .tmp .nil) (congrArg Ad (by simp)) E
def cmpI (a b:Int):Int:=if a < b then -1 else if a > b then 1 else 0
theorem Hm (a b:Int):Sy.Spec Tryz.prog 231 [Aa a,Aa b] [] (Aa (cmpI a b)) []:=Ab Γ hm 100 F231 Tryz.ntmps231 rfl fun F hF=>by
 conv=>whnf
 (repeat' (first | (refine ⟨fun h=>?_,fun h=>?_⟩ <;> (repeat (first | simp only [decide_eq_true_eq] at h | simp only [decide_eq_false_iff_not] at h)) <;> ((refine rg ?_);(conv=>whnf))) | (refine Ac rfl (.cons .tmp .nil) ?_ rfl) | (refine Ag (Z4 a) F283 rfl rfl rfl rfl rfl ?_; ((refine rg ?_);(conv=>whnf))) | (refine Ag (Z4 b) F283 rfl rfl rfl rfl rfl ?_; ((refine rg ?_);(conv=>whnf);repeat((refine aF ?_);(refine rg ?_);(conv=>whnf))))))
 all_goals (refine congrArg Aa ?_; clear hF; grind [cmpI])
theorem Aeq (a b:Int):Sy.Spec Tryz.prog 232 [Az a,Az b] [] (Aa (cmpI a b)) []:=Ab Γ hm 100 F232 Tryz.ntmps232 rfl fun F hF=>by
 conv=>whnf
 (repeat' (first | (refine ⟨fun h=>?_,fun h=>?_⟩ <;> (repeat (first | simp only [decide_eq_true_eq] at h | simp only [decide_eq_false_iff_not] at h)) <;> ((refine rg ?_);(conv=>whnf))) | (refine Ac rfl (.cons .tmp .nil) ?_ rfl) | (refine Ag (Z3 a) F284 rfl rfl rfl rfl rfl ?_; ((refine rg ?_);(conv=>whnf))) | (refine Ag (Z3 b) F284 rfl rfl rfl rfl rfl ?_; ((refine rg ?_);(conv=>whnf);repeat((refine aF ?_);(refine rg ?_);(conv=>whnf))))))
 all_goals (refine congrArg Aa ?_; clear hF; grind [cmpI])
def orI:List Int → Int
 | []=>0
 | x :: l=>if x = 0 then orI l else x
theorem Xl:∀ {l:List Int} {j:Nat},(∀ i (h:i < l.length),i < j → l[i] = 0) → orI l = orI (l.drop j)
 | l,0,_=>rfl
 | [],j + 1,_=>rfl
 | x :: l,j + 1,h=>by
  have h0:=h 0 (by simp) (by omega)
  simp only [List.getElem_cons_zero] at h0
  rw [orI,if_pos h0,List.drop_succ_cons]
  exact Xl fun i hi hij=>h (i + 1) (by simp; omega) (by omega)
theorem orS (l:List Int) (hl:Aq l):Sy.Spec Tryz.prog 230 [.sl 1 Aa l] [] (Aa (orI l)) []:=Ab Γ hm 100 F230 Tryz.ntmps230 rfl fun F hF=>by
 unfold Aq at hl
 conv=>whnf
 refine A2 l.length (fun j=>∀ i (h:i < l.length),i < j → l[i] = 0) (fun j=>[(3,Aa 0),(6,.sl 1 Aa l),(7,Aa l.length),(8,Aa j)]) (fun _=>[]) [] (fun i h hj=>absurd hj (by omega)) ⟨⟨E,E,E,E,E,E,E,E,Y⟩,Y,E,E⟩ ?_
 intro j hj hI
 refine rg ?_;conv=>whnf
 (repeat' (first | (refine ⟨fun h=>?_,fun h=>?_⟩ <;> (repeat (first | simp only [decide_eq_true_eq] at h | simp only [decide_eq_false_iff_not] at h | simp only [bne_iff_ne] at h | simp only [bne_eq_false_iff_eq] at h)) <;> ((refine rg ?_);(conv=>whnf))) | (refine Ac rfl (.cons .tmp .nil) ?_ rfl) | (refine ⟨(by kernel_rfl),?_⟩; ((conv=>whnf))) | (refine ⟨by (omega),by (omega),?_⟩; ((conv=>whnf))) | (refine ⟨by (unfold I64; omega),?_⟩; ((conv=>whnf))) | refine Aw [] hI (by omega) ?_ ⟨⟨rfl,rfl,rfl,rfl,rfl,rfl,rfl,rfl,trivial⟩,trivial,rfl,rfl⟩))
 all_goals try (refine congrArg Aa ?_)
 ·have hj2:j < l.length:=by omega
  rw [Xl hI,List.drop_eq_getElem_cons hj2,orI,if_neg (by simpa using h)]
  rfl
 ·intro i hi hij
  rcases Nat.lt_or_ge i j with h1 | h1
  ·exact hI i hi h1
  ·have:i = j:=by omega
   subst this
   simpa using h
 ·rw [Xl hI,List.drop_of_length_le (by omega)]
  rfl
theorem Lz (a b:Int) (l:List Int):decide (orI (cmpI a b :: l) < 0) = if a ≠ b then decide (a < b) else decide (orI l < 0):=by
 rw [orI,cmpI]
 by_cases h1:a < b
 ·simp [h1,show a ≠ b by omega]
 ·by_cases h2:a > b
  ·simp [h1,h2,show a ≠ b by omega]
  ·simp [show a = b by omega]
structure Vec where
 (root cost bridge port own:Int)
def Dk (v:Vec):SV:=.agg [Aa v.root,Aa v.cost,Aa v.bridge,Aa v.port,Aa v.own]
def Cc (a b:Vec):Bool :=
 if a.root ≠ b.root then decide (a.root < b.root) else if a.cost ≠ b.cost then decide (a.cost < b.cost) else if a.bridge ≠ b.bridge then decide (a.bridge < b.bridge) else
  if a.port ≠ b.port then decide (a.port < b.port) else decide (a.own < b.own)
theorem lessS (a b:Vec):Sy.Spec Tryz.prog 287 [Dk a,Dk b] [] (Ad (Cc a b)) []:=Ab Γ hm 100 F287 Tryz.ntmps287 rfl fun F hF=>by
 conv=>whnf
 (repeat' (first | (refine ⟨fun h=>?_,fun h=>?_⟩ <;> (repeat (first | simp only [beq_iff_eq] at h | simp only [beq_eq_false_iff_ne] at h | simp only [Bool.and_eq_true] at h | simp only [Bool.and_eq_false_iff] at h)) <;> ((refine rg ?_);(conv=>whnf))) | (refine Ac rfl (.cons .tmp .nil) ?_ rfl) | (refine ⟨(by kernel_rfl),?_⟩; ((conv=>whnf))) | (refine At (Hm a.root b.root) F231 rfl rfl rfl (by kernel_rfl) rfl ?_; ((refine rd (by kernel_rfl) ?_);(conv=>whnf))) | (refine At (Hm a.cost b.cost) F231 rfl rfl rfl (by kernel_rfl) rfl ?_; ((refine rd (by kernel_rfl) ?_);(conv=>whnf))) | (refine At (Hm a.bridge b.bridge) F231 rfl rfl rfl (by kernel_rfl) rfl ?_; ((refine rd (by kernel_rfl) ?_);(conv=>whnf))) | (refine At (Hm a.port b.port) F231 rfl rfl rfl (by kernel_rfl) rfl ?_; ((refine rd (by kernel_rfl) ?_);(conv=>whnf))) | (refine At (Hm a.own b.own) F231 rfl rfl rfl (by kernel_rfl) rfl ?_; ((refine rd (by kernel_rfl) ?_);(conv=>whnf))) | (refine Any [33] (orS [cmpI a.root b.root,cmpI a.cost b.cost,cmpI a.bridge b.bridge,cmpI a.port b.port,cmpI a.own b.own] (by simp [Aq])) F230 rfl (.cons (.lit rfl rfl rfl) .nil) rfl (by kernel_rfl) rfl ?_; ((refine rd (by kernel_rfl) ?_);(conv=>whnf)))))
 all_goals (refine congrArg Ad ?_; clear hF)
 ·grind [Cc]
 ·rw [Lz,Lz,Lz,Lz,Lz,Cc]
  by_cases h1:a.own = b.own
  ·simp [h1,orI]
  ·simp [h1]
theorem Al9 (a b:Vec):Sy.Spec Tryz.prog 203 [Dk a,Dk b] [] (Ad (Cc a b)) []:=Ab Γ hm 100 F203 Tryz.ntmps203 rfl fun F hF=>by
 conv=>whnf
 (repeat' (first | (refine ⟨fun h=>?_,fun h=>?_⟩ <;> (repeat (first | simp only [bne_iff_ne] at h | simp only [bne_eq_false_iff_eq] at h)) <;> ((refine rg ?_);(conv=>whnf))) | (refine Ac rfl (.cons .tmp .nil) ?_ rfl)))
 all_goals (refine congrArg Ad ?_; clear hF; grind [Cc])
def M8 (lt:Int → Int → Bool) (x:Int):List Int → List Int
 | []=>[x]
 | y :: r=>if lt x y then y :: M8 lt x r else x :: y :: r
def En (lt:Int → Int → Bool) (l:List Int):List Int:=l.foldl (fun r x=>M8 lt x r) []
def Qu (lt:Int → Int → Bool) (l:List Int):List Int:=(En lt l).reverse
theorem U0 (lt:Int → Int → Bool) (x:Int):∀ r,(M8 lt x r).Perm (x :: r)
 | []=>.refl _
 | y :: r=>by
  rw [M8]
  split
  ·exact ((U0 lt x r).cons y).trans (.swap x y r)
  ·exact .refl _
theorem Mf (lt:Int → Int → Bool):∀ (l r:List Int),(l.foldl (fun r x=>M8 lt x r) r).Perm (l ++ r)
 | [],r=>.refl _
 | x :: l,r=>by
  rw [List.foldl_cons]
  refine (Mf lt l _).trans ?_
  refine ((U0 lt x r).append_left l).trans ?_
  simp
theorem Ki (lt:Int → Int → Bool) (l:List Int):(En lt l).Perm l:=by
 have:=Mf lt l []
 simpa [En] using this
theorem Sf (lt:Int → Int → Bool) (l:List Int):(Qu lt l).Perm l:=(List.reverse_perm _).trans (Ki lt l)
theorem Ad0 (lt:Int → Int → Bool) (l:List Int) (i:Nat) (h:i < l.length):En lt (l.take (i + 1)) = M8 lt l[i] (En lt (l.take i)):=by
 rw [List.take_succ_eq_append_getElem h,En,List.foldl_append]
 rfl
mutual
theorem Tn {K:List Nat}:∀ x:SV,x.inn [] = true → x.inn K = true
 | .ptr _ _,h=>by simp [SV.inn,K8] at h
 | .rpt _ _ _ _,h=>by simp [SV.inn,K8] at h
 | .osl _,h=>by simp [SV.inn,K8] at h
 | .agg l,h=>by simp only [SV.inn] at h ⊢; exact M9 l h
 | .tup l,h=>by simp only [SV.inn] at h ⊢; exact M9 l h
 | .ifc _ x,h=>by simp only [SV.inn] at h ⊢; exact Tn x h
 | .clo _ f l,h=>by simp only [SV.inn,Bool.and_eq_true] at h ⊢; exact ⟨M9 f h.1,M9 l h.2⟩
 | .top,_=>rfl
 | .val _,_=>rfl
 | .sl _ _ _,_=>rfl
 | .ref _ _ _,_=>rfl
theorem M9 {K:List Nat}:∀ l:List SV,Ci [] l = true → Ci K l = true
 | [],_=>rfl
 | x :: l,h=>by simp only [Ci,Bool.and_eq_true] at h ⊢; exact ⟨Tn x h.1,M9 l h.2⟩
end
theorem Xy (l:List Int) (c:Int → Int → Int) (Q:Int → Prop) (f:FuncId) (first cap:List SV) (hc:(SV.clo (.func f) first cap).inn [] = true) (hf:∀ a b,Q a → Q b → I4 Tryz.prog f (first ++ [Aa a,Aa b] ++ cap) (Aa (c a b))) (hQ:∀ a ∈ l,Q a) (hl:Aq l) :
  Sy.Spec Tryz.prog 327 [.osl 0,Aa 0,Aa l.length,.clo (.func f) first cap] [(0,.row 1 Aa l)] (.tup []) [(0,.row 1 Aa (Qu (fun a b=>decide (c a b < 0)) l))]:=Ab Γ hm 100 F327 Tryz.ntmps327 rfl fun F hF=>by
 unfold Aq at hl
 have hin:∀ x y:Int,Ci [] (first ++ [Aa x,Aa y] ++ cap) = true:=fun x y=>Db hc rfl
 have hc':(SV.clo (.func f) first cap).inn [0] = true:=Tn _ hc
 generalize hlt:(fun a b=>decide (c a b < 0)) = lt
 conv=>whnf
 (repeat' (refine ⟨by (unfold I64; omega),?_⟩; ((conv=>whnf))))
 refine A2 l.length (fun _=>True) (fun j=>[(0,.osl 0),(1,Aa 0),(2,Aa l.length),(3,.clo (.func f) first cap),(8,Aa ((j:Int) + 1))]) (fun j=>[(0,.row 1 Aa ((En lt (l.take (j + 1))).reverse ++ l.drop (j + 1)))]) [] Y ⟨⟨E,E,E,E,E,E,Bm _,hc',E,E,Y⟩,⟨.inl (congrArg (Ob.row 1 Aa) ?_),E,Y⟩,E,E⟩ ?_
 ·cases l with
  | nil=>rfl
  | cons a l=>simp [En,M8]
 intro j hj _
 refine rg ?_;conv=>whnf
 refine ⟨fun h=>?_,fun h=>?_⟩
 ·have hjl:j + 1 < l.length:=by have:=of_decide_eq_true h; omega
  have hdrop:l.drop (j + 1) = l[j + 1] :: l.drop (j + 1 + 1):=List.drop_eq_getElem_cons hjl
  have htake:=Ad0 lt l (j + 1) hjl
  have hr:(En lt (l.take (j + 1))).length = j + 1:=by rw [(Ki lt _).length_eq]; simp; omega
  have hQx:Q l[j + 1]:=hQ _ (List.getElem_mem hjl)
  have hQr:∀ z ∈ En lt (l.take (j + 1)),Q z:=fun z hz=>hQ z (List.mem_of_mem_take ((Ki lt _).mem_iff.1 hz))
  rw [hdrop]
  generalize l[j + 1] = x at htake hQx
  generalize En lt (l.take (j + 1)) = r at htake hr hQr
  generalize hR:l.drop (j + 1 + 1) = R at *
  refine rg ?_;conv=>whnf
  refine Ov (α:={p:List Int × List Int // M8 lt x r = p.2.reverse ++ M8 lt x p.1 ∧ p.1.length + p.2.length = j + 1 ∧ ∀ z ∈ p.1,Q z}) (fun p=>[(0,.osl 0),(1,Aa 0),(2,Aa l.length),(3,.clo (.func f) first cap),(8,Aa ((j:Int) + 1)),(9,Aa p.1.1.length)]) (fun p=>[(0,.row 1 Aa (p.1.1.reverse ++ x :: (p.1.2 ++ R)))]) (fun p=>p.1.1.length) ⟨(r,[]),by simp,by simpa using hr,hQr⟩ []
   ⟨⟨rfl,rfl,rfl,rfl,rfl,rfl,Bm _,hc',rfl,rfl,congrArg Aa (by rw [hr]; omega),rfl,trivial⟩,⟨.inl rfl,rfl,trivial⟩,rfl,rfl⟩ ?_
  rintro ⟨⟨A,B⟩,hp1,hp2,hp3⟩
  simp only at hp1 hp2 hp3
  dsimp only
  cases A with
  | nil =>
   simp only [M8] at hp1
   (refine rg ?_;(conv=>whnf);refine aF ?_;refine rd (by kernel_rfl) ?_;conv=>whnf)
   refine ⟨(by kernel_rfl),?_⟩
   ((conv=>whnf);refine aF ?_;refine rg ?_;conv=>whnf)
   refine ⟨by unfold I64; omega,?_⟩
   conv=>whnf
   refine Aw [] Y (by omega) Y ⟨⟨E,E,E,E,E,E,Bm _,hc',congrArg Aa (by omega),E,Y⟩,⟨.inl (congrArg (Ob.row 1 Aa) ?_),E,Y⟩,E,E⟩
   show (En lt (l.take (j + 1 + 1))).reverse ++ l.drop (j + 1 + 1) = [].reverse ++ x :: (B ++ R)
   rw [htake,hp1,hR]
   simp
  | cons y A =>
   have hQy:=hp3 y (by simp)
   refine rg ?_;conv=>whnf
   refine ⟨fun _=>?_,fun h=>absurd (of_decide_eq_false h) (by simp)⟩
   refine rd (by kernel_rfl) ?_;conv=>whnf
   have e1:((y :: A).reverse ++ x :: (B ++ R))[(((y :: A).length:Nat):Int).toNat]'(by simp) = x:=by simp
   have e2:((y :: A).reverse ++ x :: (B ++ R))[((((y :: A).length:Nat):Int) - 1).toNat]'(by simp) = y:=by simp
   refine ⟨by omega,by simp,?_⟩
   conv=>whnf
   refine ⟨E,by simp,?_⟩
   rw [e1]
   conv=>whnf
   refine ⟨by unfold I64; simp at hp2; simp; omega,?_⟩
   conv=>whnf
   refine ⟨by simp,by simp,?_⟩
   conv=>whnf
   refine ⟨E,by simp,?_⟩
   rw [e2]
   conv=>whnf
   refine Ahk (hf x y hQx hQy) E E E (by simp only [hin]; rfl) (by kernel_rfl) E ?_
   refine rd (by kernel_rfl) ?_;conv=>whnf
   refine ⟨(by kernel_rfl),?_⟩
   conv=>whnf
   refine ⟨fun h2=>?_,fun h2=>?_⟩
   ·refine rg ?_;conv=>whnf
    refine ⟨by unfold I64; simp at hp2; simp; omega,?_⟩
    conv=>whnf
    refine ⟨by unfold I64; simp at hp2; simp; omega,?_⟩
    conv=>whnf
    refine ⟨by simp,by simp,?_⟩
    conv=>whnf
    refine ⟨E,by simp,?_⟩
    rw [e2]
    conv=>whnf
    refine ⟨by omega,by simp,?_⟩
    conv=>whnf
    refine ⟨E,by simp,?_⟩
    rw [e1]
    conv=>whnf
    refine ⟨by omega,by simp,?_⟩
    conv=>whnf
    refine ⟨E,by simp,y,E,E,?_⟩
    conv=>whnf
    refine ⟨by simp,by simp,?_⟩
    conv=>whnf
    refine ⟨E,by simp,x,E,E,?_⟩
    conv=>whnf
    refine ⟨(by kernel_rfl),?_⟩
    conv=>whnf
    refine ⟨by unfold I64; simp at hp2; simp; omega,?_⟩
    conv=>whnf
    have hxy:lt x y = true:=by rw [← hlt]; exact h2
    refine Qy (α:={p:List Int × List Int // M8 lt x r = p.2.reverse ++ M8 lt x p.1 ∧ p.1.length + p.2.length = j + 1 ∧ ∀ z ∈ p.1,Q z}) (L:=fun p=>[(0,.osl 0),(1,Aa 0),(2,Aa l.length),(3,.clo (.func f) first cap),(8,Aa ((j:Int) + 1)),(9,Aa p.1.1.length)]) (O:=fun p=>[(0,.row 1 Aa (p.1.1.reverse ++ x :: (p.1.2 ++ R)))]) (μ:=fun p=>p.1.1.length) (x:=⟨(y :: A,B),hp1,hp2,hp3⟩)
     ⟨(A,y :: B),by simp only [hp1,M8,hxy,if_true]; simp,by simp at hp2 ⊢; omega,fun z hz=>hp3 z (by simp [hz])⟩ [] (by simp)
     ⟨⟨rfl,rfl,rfl,rfl,rfl,rfl,Bm _,hc',rfl,rfl,congrArg Aa (by simp),rfl,trivial⟩,⟨.inl (congrArg (Ob.row 1 Aa) ?_),rfl,trivial⟩,rfl,rfl⟩
    simp
   ·refine rg ?_;conv=>whnf
    have hxy:lt x y = false:=by rw [← hlt]; exact h2
    refine ⟨by unfold I64; omega,?_⟩
    conv=>whnf
    refine Aw [] Y (by omega) Y ⟨⟨E,E,E,E,E,E,Bm _,hc',congrArg Aa (by omega),E,Y⟩,⟨.inl (congrArg (Ob.row 1 Aa) ?_),E,Y⟩,E,E⟩
    show (En lt (l.take (j + 1 + 1))).reverse ++ l.drop (j + 1 + 1) = (y :: A).reverse ++ x :: (B ++ R)
    rw [htake,hp1,hR,M8,hxy]
    simp
 ·have h:=of_decide_eq_false h
  have e:(En lt (l.take (j + 1))).reverse ++ l.drop (j + 1) = Qu lt l:=by
   rw [List.take_of_length_le (by omega),List.drop_of_length_le (by omega),List.append_nil]
   rfl
  rw [e]
  refine rg ?_;conv=>whnf
  exact Bx E .nil [] [(0,.row 1 Aa (Qu lt l))] (fun _ h=>h) E E ⟨Y,⟨.inl E,E,Y⟩,E,E⟩
theorem Aop (l:List Int) (c:Int → Int → Int) (Q:Int → Prop) (f:FuncId) (first cap:List SV) (hc:(SV.clo (.func f) first cap).inn [] = true) (hf:∀ a b,Q a → Q b → I4 Tryz.prog f (first ++ [Aa a,Aa b] ++ cap) (Aa (c a b))) (hQ:∀ a ∈ l,Q a) (hl:l.length < 20) :
  Sy.Spec Tryz.prog 282 [.osl 0,Aa l.length,.clo (.func f) first cap] [(0,.row 1 Aa l)] (.tup []) [(0,.row 1 Aa (Qu (fun a b=>decide (c a b < 0)) l))]:=Ab Γ hm 100 F282 Tryz.ntmps282 rfl fun F hF=>by
 have hc':(SV.clo (.func f) first cap).inn [0] = true:=Tn _ hc
 have hins:=Xy l c Q f first cap hc hf hQ (by unfold Aq; omega)
 generalize Qu (fun a b=>decide (c a b < 0)) l = l' at hins
 conv=>whnf
 refine Av 0 (fun j=>[(0,.osl 0),(1,Aa l.length),(2,.clo (.func f) first cap),(6,Aa 20),(7,Aa 0),(8,Aa 20)]) (fun _=>[(0,.row 1 Aa l)]) [] ⟨⟨E,E,E,E,Bm _,hc',E,E,E,E,E,E,Y⟩,⟨.inl E,E,Y⟩,E,E⟩ ?_
 intro j hj
 refine rg ?_;conv=>whnf
 refine ⟨fun h=>absurd (of_decide_eq_true h) (by omega),fun _=>?_⟩
 refine rg ?_;conv=>whnf
 refine Ai (Ak [] E F327 hins (E8 _) ⟨E,Y⟩ (by
  have h0:Ci [0] [.osl 0,Aa 0,Aa l.length,.clo (.func f) first cap] = true:=by simp only [Ci,hc']; rfl
  simp only [I3,Obs.keys,List.map_cons,List.map_nil,h0]; rfl) ⟨.inl rfl,trivial⟩) rfl rfl ?_
 refine rg ?_;conv=>whnf
 refine Av 0 (fun j=>[(1,Aa l.length),(6,Aa 20)]) (fun _=>[(0,.row 1 Aa l')]) [] ⟨⟨E,E,E,E,Y⟩,⟨.inl E,E,Y⟩,E,E⟩ ?_
 clear hj
 intro j hj
 refine rg ?_;conv=>whnf
 refine ⟨fun h=>absurd (of_decide_eq_true h) (by omega),fun _=>?_⟩
 refine rg ?_;conv=>whnf
 exact Bx E .nil [] [(0,.row 1 Aa l')] (fun _ h=>h) E E ⟨Y,⟨.inl E,E,Y⟩,E,E⟩
theorem Acn (l:List Int) (c:Int → Int → Int) (Q:Int → Prop) (f:FuncId) (first cap:List SV) (hc:(SV.clo (.func f) first cap).inn [] = true) (hf:∀ a b,Q a → Q b → I4 Tryz.prog f (first ++ [Aa a,Aa b] ++ cap) (Aa (c a b))) (hQ:∀ a ∈ l,Q a) (hl:l.length < 20) :
  Sy.Spec Tryz.prog 228 [.osl 0,.clo (.func f) first cap] [(0,.row 1 Aa l)] (.tup []) [(0,.row 1 Aa (Qu (fun a b=>decide (c a b < 0)) l))]:=Ab Γ hm 100 F228 Tryz.ntmps228 rfl fun F hF=>by
 have hc':(SV.clo (.func f) first cap).inn [0] = true:=Tn _ hc
 have hst:=Aop l c Q f first cap hc hf hQ hl
 generalize Qu (fun a b=>decide (c a b < 0)) l = l' at hst
 conv=>whnf
 refine Ai (Ak [] E F282 hst (E8 _) ⟨E,Y⟩ (by
  have h0:Ci [0] [.osl 0,Aa l.length,.clo (.func f) first cap] = true:=by simp only [Ci,hc']; rfl
  simp only [I3,Obs.keys,List.map_cons,List.map_nil,h0]; rfl) ⟨.inl rfl,trivial⟩) rfl rfl ?_
 refine rg ?_;conv=>whnf
 exact Bx E .nil [] [(0,.row 1 Aa l')] (fun _ h=>h) E E ⟨Y,⟨.inl E,E,Y⟩,E,E⟩
def Y1 (n:Net) (a b:Int):Int:=orI [cmpI (nth n.devices a).prio (nth n.devices b).prio,cmpI (nth n.devices a).mac (nth n.devices b).mac]
theorem ranks1 (n:Net) (a b:Int) (ha:0 ≤ a ∧ a < n.devices.length) (hb:0 ≤ b ∧ b < n.devices.length):Sy.Spec Tryz.prog 229 [Aa a,Aa b,.ref 8 (Ap n) 0] [] (Aa (Y1 n a b)) []:=Ab Γ hm 100 F229 Tryz.ntmps229 rfl fun F hF=>by
 have e1:Y1 n a b = orI [cmpI (n.devices[a.toNat]'(by omega)).prio (n.devices[b.toNat]'(by omega)).prio,cmpI (n.devices[a.toNat]'(by omega)).mac (n.devices[b.toNat]'(by omega)).mac]:=by
  rw [Y1,Ao (by omega),Ao (by omega)]
 rw [e1]
 conv=>whnf
 (repeat' (first | (refine Ac rfl (.cons .tmp .nil) ?_ rfl) | (refine ⟨(by kernel_rfl),?_⟩; ((conv=>whnf))) | (refine ⟨by (omega),by (omega),?_⟩; ((conv=>whnf))) | (refine At (Hm (n.devices[a.toNat]'(by omega)).prio (n.devices[b.toNat]'(by omega)).prio) F231 rfl rfl rfl (by kernel_rfl) rfl ?_; ((refine rd (by kernel_rfl) ?_);(conv=>whnf))) | (refine At (Aeq (n.devices[a.toNat]'(by omega)).mac (n.devices[b.toNat]'(by omega)).mac) F232 rfl rfl rfl (by kernel_rfl) rfl ?_; ((refine rd (by kernel_rfl) ?_);(conv=>whnf))) | (refine Any [28] (orS [cmpI (n.devices[a.toNat]'(by omega)).prio (n.devices[b.toNat]'(by omega)).prio,cmpI (n.devices[a.toNat]'(by omega)).mac (n.devices[b.toNat]'(by omega)).mac] (by simp [Aq])) F230 rfl (.cons (.lit rfl rfl rfl) .nil) rfl (by kernel_rfl) rfl ?_; ((refine rd (by kernel_rfl) ?_);(conv=>whnf)))))
 all_goals rfl
def Tf (m:Nat):List Int:=(List.range m).map fun (i:Nat)=>(i:Int)
theorem Zt (m:Nat):Tf (m + 1) = Tf m ++ [(m:Int)]:=by simp [Tf,List.range_succ]
theorem Is (m:Nat):(Tf m).length = m:=by simp [Tf]
def Ht (ord:List Int):Nat → List Int
 | 0=>List.replicate ord.length 0
 | j + 1=>(Ht ord j).set (nth ord j).toNat j
theorem E9 (ord:List Int):∀ j,(Ht ord j).length = ord.length
 | 0=>by simp [Ht]
 | j + 1=>by simp [Ht,E9 ord j]
def D1 (n:Net):List Int:=Qu (fun a b=>decide (Y1 n a b < 0)) (Tf n.devices.length)
def Cm (n:Net):List Int:=Ht (D1 n) n.devices.length
theorem ranksS (n:Net) (hn:n.Fin):Sy.Spec Tryz.prog 156 [Ap n] [] (.sl 1 Aa (if Ah n then Cm n else [])) []:=Ab Γ hm 100 F156 Tryz.ntmps156 rfl fun F hF=>by
 have hl:=hn.devices
 unfold Aq at hl
 conv=>whnf
 refine Ag (B3 n hn) F67 E E E E E ?_
 refine rg ?_;conv=>whnf
 refine ⟨fun h=>?_,fun h=>?_⟩
 ·have h:Ah n = false:=by simpa using h
  refine rg ?_;conv=>whnf
  refine Am 2 1 Aa E ?_
  exact Ac E (.cons .tmp .nil) (by rw [h]; rfl) E
 have h:Ah n = true:=by simpa using h
 have h8:n.devices.length ≤ 8:=by
  simp only [Ah,Aks,Bool.and_eq_true,decide_eq_true_eq] at h
  exact h.1.1.1.1.1.1.1.1.1.1.1.1.1.1.1
 rw [h,if_pos rfl,Cm]
 refine rg ?_;conv=>whnf
 refine Bf 1 8 (Ap n) E E E ?_
 refine Bs 3 1000 1 Aa E E ?_
 refine Av n.devices.length (fun j=>[(1,.ref 8 (Ap n) 0),(3,.osl 1000),(13,Aa n.devices.length),(14,Aa j)]) (fun j=>[(1000,.row 1 Aa (Tf j))]) [] ⟨⟨E,E,E,E,E,E,E,E,Y⟩,⟨.inl E,E,Y⟩,E,E⟩ ?_
 intro j hj
 refine rg ?_;conv=>whnf
 refine ⟨fun h2=>?_,fun h2=>?_⟩
 ·have hlt:j < n.devices.length:=by simpa using h2
  refine rg ?_;conv=>whnf
  refine Ai (Af Γ.toTy 20 E E E E E (.row E) (.lit (l:=[(j:Int)]) E E) (by simp) (by simp [Is]; omega) (by simp [Is]; omega)) E E ?_
  refine rg ?_;conv=>whnf
  refine ⟨by unfold I64; omega,?_⟩
  conv=>whnf
  exact Ar [(1000,20)] hlt ⟨⟨E,E,E,E,E,E,E,E,Y⟩,⟨.inl (congrArg (Ob.row 1 Aa) (Zt j)),E,Y⟩,E,E⟩
 have hjl:j = n.devices.length:=by have:¬ j < n.devices.length:=(by simpa using h2); omega
 subst hjl
 refine rg ?_;conv=>whnf
 have hsort:=Acn (Tf n.devices.length) (Y1 n) (fun a=>0 ≤ a ∧ a < n.devices.length) 229 [] [.ref 8 (Ap n) 0] rfl (fun a b ha hb=>⟨⟨_,_,F229⟩,ranks1 n a b ha hb⟩) (fun a ha=>by
  obtain ⟨i,hi,rfl⟩:=List.mem_map.1 ha
  have:=List.mem_range.1 hi
  omega) (by rw [Is]; omega)
 have hslen:(D1 n).length = n.devices.length:=by rw [D1,(Sf _ _).length_eq,Is]
 have hsm:∀ a ∈ D1 n,0 ≤ a ∧ a < n.devices.length:=fun a ha=>by
  have:=(Sf _ _).mem_iff.1 ha
  obtain ⟨i,hi,rfl⟩:=List.mem_map.1 this
  have:=List.mem_range.1 hi
  omega
 change Sy.Spec _ _ _ _ _ [(0,.row 1 Aa (D1 n))] at hsort
 generalize D1 n = sl at hsort hslen hsm
 refine Ai (Ak [(0,1000)] E F228 hsort E ⟨E,Y⟩ E ⟨.inl E,Y⟩) E E ?_
 refine rg ?_;conv=>whnf
 refine Ai (Bw Γ.toTy (d:=27) (n:=sl.length) Aa 0 E E E E E E E E (by omega) (by omega) E E E) E E ?_
 refine rg ?_;conv=>whnf
 refine Av sl.length (fun j=>[(5,.osl 27),(28,.osl 1000),(29,Aa sl.length),(30,Aa j)]) (fun j=>[(1000,.row 1 Aa sl),(27,.row 1 Aa (Ht sl j))]) [] ⟨⟨E,E,E,E,E,E,E,E,Y⟩,⟨.inl E,E,.inl E,E,Y⟩,E,E⟩ ?_
 clear hj h2
 intro j hj
 refine rg ?_;conv=>whnf
 refine ⟨fun h2=>?_,fun h2=>?_⟩
 ·have hlt:j < sl.length:=by simpa using h2
  have hmj:=hsm _ (List.getElem_mem hlt)
  have hnth:nth sl j = sl[j]:=Ao (by simpa using hlt)
  have hfl:=E9 sl j
  refine rg ?_;conv=>whnf
  refine ⟨by omega,by omega,?_⟩
  conv=>whnf
  refine ⟨E,by omega,?_⟩
  conv=>whnf
  refine ⟨hmj.1,by rw [hfl]; exact (by omega:sl[j].toNat < sl.length),?_⟩
  conv=>whnf
  refine ⟨E,by rw [hfl]; exact (by omega:sl[j].toNat < sl.length),(j:Int),E,E,?_⟩
  conv=>whnf
  refine ⟨by unfold I64; omega,?_⟩
  conv=>whnf
  exact Ar [] hlt ⟨⟨E,E,E,E,E,E,E,E,Y⟩,⟨.inl E,E,.inl (congrArg (Ob.row 1 Aa) (by rw [Ht,hnth]; rfl)),E,Y⟩,E,E⟩
 have hjl:j = n.devices.length:=by
  have:¬ j < sl.length:=by simpa using h2
  omega
 subst hjl
 refine rg ?_;conv=>whnf
 refine As 27 E ?_
 exact Ac E (.cons .tmp .nil) E E
def Cf (n:Net) (a b:Int):Bool :=
 if (nth n.devices a).prio ≠ (nth n.devices b).prio then decide ((nth n.devices a).prio < (nth n.devices b).prio) else
  if (nth n.devices a).mac ≠ (nth n.devices b).mac then decide ((nth n.devices a).mac < (nth n.devices b).mac) else decide (a < b)
theorem aheadS (n:Net) (a b:Int) (ha:0 ≤ a ∧ a < n.devices.length) (hb:0 ≤ b ∧ b < n.devices.length):Sy.Spec Tryz.prog 265 [Ap n,Aa a,Aa b] [] (Ad (Cf n a b)) []:=Ab Γ hm 100 F265 Tryz.ntmps265 rfl fun F hF=>by
 have e1:=Ao (l:=n.devices) (i:=a) (by omega)
 have e2:=Ao (l:=n.devices) (i:=b) (by omega)
 unfold Cf
 rw [e1,e2]
 conv=>whnf
 (repeat' (first | (refine ⟨fun h=>?_,fun h=>?_⟩ <;> (repeat (first | simp only [bne_iff_ne] at h | simp only [bne_eq_false_iff_eq] at h)) <;> ((refine rg ?_);(conv=>whnf))) | (refine Ac rfl (.cons .tmp .nil) ?_ rfl) | (refine ⟨(by kernel_rfl),?_⟩; ((conv=>whnf))) | (refine ⟨by (omega),by (omega),?_⟩; ((conv=>whnf)))))
 all_goals (refine congrArg Ad ?_; clear hF; grind)
def Ji (n:Net):List Int:=(List.range n.devices.length).map fun (i:Nat)=>(((List.range n.devices.length).countP fun k=>Cf n (k:Nat) i:Nat):Int)
theorem Ajn (n:Net) (hn:n.Fin):Sy.Spec Tryz.prog 202 [Ap n] [] (.sl 1 Aa (Ji n)) []:=Ab Γ hm 100 F202 Tryz.ntmps202 rfl fun F hF=>by
 have hl:=hn.devices
 unfold Aq at hl
 conv=>whnf
 refine Bf 1 8 (Ap n) E E E ?_
 refine Bs 3 1000 1 Aa E E ?_
 refine Av n.devices.length (fun j=>[(1,.ref 8 (Ap n) 0),(3,.osl 1000),(4,Aa j)]) (fun j=>[(1000,.row 1 Aa ((List.range j).map fun (i:Nat)=>(((List.range n.devices.length).countP fun k=>Cf n (k:Nat) i:Nat):Int)))]) [] ⟨⟨E,E,E,E,E,E,Y⟩,⟨.inl E,E,Y⟩,E,E⟩ ?_
 intro j hj
 refine rg ?_;conv=>whnf
 refine ⟨fun h2=>?_,fun h2=>?_⟩
 ·have hlt:j < n.devices.length:=by simpa using h2
  refine rg ?_;conv=>whnf
  refine Av n.devices.length (fun k=>[(1,.ref 8 (Ap n) 0),(3,.osl 1000),(4,Aa j),(5,Aa ((List.range k).countP fun q=>Cf n (q:Nat) j:Nat)),(6,Aa k)]) (fun _=>[(1000,.row 1 Aa ((List.range j).map fun (i:Nat)=>(((List.range n.devices.length).countP fun k=>Cf n (k:Nat) i:Nat):Int)))]) [] ⟨⟨E,E,E,E,E,E,E,E,E,E,Y⟩,⟨.inl E,E,Y⟩,E,E⟩ ?_
  intro k hk
  have hcnt:((List.range k).countP fun q=>Cf n (q:Nat) j) ≤ k:=by
   have:=List.countP_le_length (p:=fun q=>Cf n (q:Nat) j) (l:=List.range k)
   simpa using this
  refine rg ?_;conv=>whnf
  refine ⟨fun h3=>?_,fun h3=>?_⟩
  ·have hlt2:k < n.devices.length:=by simpa using h3
   refine rg ?_;conv=>whnf
   refine Ag (aheadS n k j (by omega) (by omega)) F265 E E E E E ?_
   refine rg ?_;conv=>whnf
   refine ⟨fun h4=>?_,fun h4=>?_⟩
   ·refine rg ?_;conv=>whnf
    refine ⟨by unfold I64; omega,?_⟩
    conv=>whnf
    refine ⟨by unfold I64; omega,?_⟩
    conv=>whnf
    exact Ar [] hlt2 ⟨⟨E,E,E,E,E,E,congrArg Aa (by rw [List.range_succ]; simp [h4]),E,E,E,Y⟩,⟨.inl E,E,Y⟩,E,E⟩
   ·refine rg ?_;conv=>whnf
    refine ⟨by unfold I64; omega,?_⟩
    conv=>whnf
    exact Ar [] hlt2 ⟨⟨E,E,E,E,E,E,congrArg Aa (by rw [List.range_succ]; simp [h4]),E,E,E,Y⟩,⟨.inl E,E,Y⟩,E,E⟩
  have hkl:k = n.devices.length:=by
   have:¬ k < n.devices.length:=by simpa using h3
   omega
  subst hkl
  refine rg ?_;conv=>whnf
  refine Ai (Af Γ.toTy 30 E E E E E (.row E) (.lit (l:=[_]) E E) (by simp) (by simp; omega) (by simp; omega)) E E ?_
  refine rg ?_;conv=>whnf
  refine ⟨by unfold I64; omega,?_⟩
  conv=>whnf
  exact Ar [(1000,30)] hlt ⟨⟨E,E,E,E,E,E,Y⟩,⟨.inl (congrArg (Ob.row 1 Aa) (by rw [List.range_succ,List.map_append]; rfl)),E,Y⟩,E,E⟩
 have hjl:j = n.devices.length:=by
  have:¬ j < n.devices.length:=by simpa using h2
  omega
 subst hjl
 refine rg ?_;conv=>whnf
 refine As 1000 E ?_
 exact Ac E (.cons .tmp .nil) E E
end Go.Sy.YtmelpejjondedaaGreat
