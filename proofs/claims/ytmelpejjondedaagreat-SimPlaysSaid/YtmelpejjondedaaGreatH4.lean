/-
  N2 N3 N4 E2 E3 N5 N6 N7 E4 E5 E6 E7 E8 E9 E10 E11 E12 Sy29 B0 D1 N8 N9 N10 N11 V1 V2 V3: parts of a proof, joined by program.
-/
import Derived.Test.YtmelpejjondedaaGreatH3
namespace Go.Sy.YtmelpejjondedaaGreat
open Go.Proofs
attribute [local irreducible] Go.Sy.G Go.Sy.DR
set_option maxRecDepth 20000
set_option maxHeartbeats 4000000
theorem E6 {α:Type} (sz:Nat) (e:α → SV) (l:List α) (i:Int):Sy.Spec Tryz.prog 126 [.sl sz e l,Aa i] [] (Ad (Am i l.length)) []:=Ab Γ hm 100 F126 Tryz.ntmps126 rfl fun F hF=>by
 conv=>whnf
 (repeat' (first | (refine ⟨fun h=>?_,fun h=>?_⟩ <;> (repeat (first | simp only [decide_eq_true_eq] at h | simp only [decide_eq_false_iff_not] at h)) <;> ((refine rg ?_);(conv=>whnf))) | (refine Ac rfl (.cons .tmp .nil) ?_ rfl)))
 all_goals (refine congrArg Ad ?_)
 all_goals grind [Am]
theorem Agr {α:Type} (sz:Nat) (e:α → SV) (l:List α) (i:Int):Sy.Spec Tryz.prog 190 [.sl sz e l,Aa i] [] (Ad (Am i l.length)) []:=Ab Γ hm 100 F190 Tryz.ntmps190 rfl fun F hF=>by
 conv=>whnf
 (repeat' (first | (refine ⟨fun h=>?_,fun h=>?_⟩ <;> (repeat (first | simp only [decide_eq_true_eq] at h | simp only [decide_eq_false_iff_not] at h)) <;> ((refine rg ?_);(conv=>whnf))) | (refine Ac rfl (.cons .tmp .nil) ?_ rfl)))
 all_goals (refine congrArg Ad ?_)
 all_goals grind [Am]
theorem Adx {α:Type} (sz:Nat) (e:α → SV) (l:List α) (i:Int):Sy.Spec Tryz.prog 195 [.sl sz e l,Aa i] [] (Ad (Am i l.length)) []:=Ab Γ hm 100 F195 Tryz.ntmps195 rfl fun F hF=>by
 conv=>whnf
 (repeat' (first | (refine ⟨fun h=>?_,fun h=>?_⟩ <;> (repeat (first | simp only [decide_eq_true_eq] at h | simp only [decide_eq_false_iff_not] at h)) <;> ((refine rg ?_);(conv=>whnf))) | (refine Ac rfl (.cons .tmp .nil) ?_ rfl)))
 all_goals (refine congrArg Ad ?_)
 all_goals grind [Am]
theorem M4 {α:Type} (sz:Nat) (e:α → SV) (l:List α) (i:Int):Sy.Spec Tryz.prog 196 [.sl sz e l,Aa i] [] (Ad (Am i l.length)) []:=Ab Γ hm 100 F196 Tryz.ntmps196 rfl fun F hF=>by
 conv=>whnf
 (repeat' (first | (refine ⟨fun h=>?_,fun h=>?_⟩ <;> (repeat (first | simp only [decide_eq_true_eq] at h | simp only [decide_eq_false_iff_not] at h)) <;> ((refine rg ?_);(conv=>whnf))) | (refine Ac rfl (.cons .tmp .nil) ?_ rfl)))
 all_goals (refine congrArg Ad ?_)
 all_goals grind [Am]
theorem Ip {α:Type} (sz:Nat) (e:α → SV) (l:List α) (i:Int):Sy.Spec Tryz.prog 197 [.sl sz e l,Aa i] [] (Ad (Am i l.length)) []:=Ab Γ hm 100 F197 Tryz.ntmps197 rfl fun F hF=>by
 conv=>whnf
 (repeat' (first | (refine ⟨fun h=>?_,fun h=>?_⟩ <;> (repeat (first | simp only [decide_eq_true_eq] at h | simp only [decide_eq_false_iff_not] at h)) <;> ((refine rg ?_);(conv=>whnf))) | (refine Ac rfl (.cons .tmp .nil) ?_ rfl)))
 all_goals (refine congrArg Ad ?_)
 all_goals grind [Am]
theorem Agq {α:Type} (sz:Nat) (e:α → SV) (l:List α) (i:Int):Sy.Spec Tryz.prog 200 [.sl sz e l,Aa i] [] (Ad (Am i l.length)) []:=Ab Γ hm 100 F200 Tryz.ntmps200 rfl fun F hF=>by
 conv=>whnf
 (repeat' (first | (refine ⟨fun h=>?_,fun h=>?_⟩ <;> (repeat (first | simp only [decide_eq_true_eq] at h | simp only [decide_eq_false_iff_not] at h)) <;> ((refine rg ?_);(conv=>whnf))) | (refine Ac rfl (.cons .tmp .nil) ?_ rfl)))
 all_goals (refine congrArg Ad ?_)
 all_goals grind [Am]
theorem Ant (l:List Int) (x:Int) (hl:Aq l):Sy.Spec Tryz.prog 161 [.sl 1 Aa l,Aa x] [] (Aa (C7 (· == x) l)) []:=Ab Γ hm 100 F161 Tryz.ntmps161 rfl fun F hF=>by
 unfold Aq at hl
 conv=>whnf
 refine A2 l.length (fun j=>∀ i (h:i < l.length),i < j → (l[i] == x) = false) (fun j=>[(0,.sl 1 Aa l),(1,Aa x),(7,Aa l.length),(8,Aa j)]) (fun _=>[]) [] (fun i h hj=>absurd hj (by omega)) ⟨⟨E,E,E,E,E,E,E,E,Y⟩,Y,E,E⟩ ?_
 intro j hj hI
 refine rg ?_;conv=>whnf
 (repeat' (first | (refine ⟨fun h=>?_,fun h=>?_⟩ <;> (repeat (first | simp only [decide_eq_true_eq] at h | simp only [decide_eq_false_iff_not] at h | simp only [beq_iff_eq] at h | simp only [beq_eq_false_iff_ne] at h)) <;> ((refine rg ?_);(conv=>whnf))) | (refine Ac rfl (.cons .tmp .nil) ?_ rfl) | (refine ⟨(by kernel_rfl),?_⟩; ((conv=>whnf))) | (refine ⟨by (omega),by (omega),?_⟩; ((conv=>whnf))) | (refine ⟨by (unfold I64; omega),?_⟩; ((conv=>whnf))) | refine Ax [] hI (by omega) ?_ ⟨⟨rfl,rfl,rfl,rfl,rfl,rfl,rfl,rfl,trivial⟩,trivial,rfl,rfl⟩))
 all_goals try (refine congrArg Aa ?_)
 ·exact Ct (by omega) hI (by simpa using h.symm)
 ·intro i hi hij
  rcases Nat.lt_or_ge i j with h1 | h1
  ·exact hI i hi h1
  ·have:i = j:=by omega
   subst this
   simpa using Ne.symm h
 ·exact C3 (fun i hi=>hI i hi (by omega))
theorem Dv (l:List Int) (x:Int) (hl:Aq l):Sy.Spec Tryz.prog 86 [.sl 1 Aa l,Aa x] [] (Ad (inB l x)) []:=Ab Γ hm 100 F86 Tryz.ntmps86 rfl fun F hF=>by
 conv=>whnf
 (repeat' (first | (refine Ac rfl (.cons .tmp .nil) ?_ rfl) | (refine Ag (Ant _ _ hl) F161 rfl rfl rfl rfl rfl ?_; ((refine rg ?_);(conv=>whnf)))))
 exact congrArg Ad (Yc _ _).symm
def Hy (p:Port) (v:Int):Bool:=v != 0 && (v == p.native || inB p.tagged v)
theorem Abt (p:Port) (v:Int) (hl:Aq p.tagged):Sy.Spec Tryz.prog 198 [Bh p,Aa v] [] (Ad (Hy p v)) []:=Ab Γ hm 100 F198 Tryz.ntmps198 rfl fun F hF=>by
 conv=>whnf
 (repeat' (first | (refine ⟨fun h=>?_,fun h=>?_⟩ <;> (repeat (first | simp only [beq_iff_eq] at h | simp only [beq_eq_false_iff_ne] at h | simp only [bne_iff_ne] at h | simp only [bne_eq_false_iff_eq] at h)) <;> ((refine rg ?_);(conv=>whnf))) | (refine Ac rfl (.cons .tmp .nil) ?_ rfl) | (refine Ag (Dv _ _ hl) F86 rfl rfl rfl rfl rfl ?_; ((refine rg ?_);(conv=>whnf)))))
 all_goals (refine congrArg Ad ?_)
 all_goals grind [Hy]
def K7 (l:List Int) (least most:Int) (i:Nat) (x:Int):Bool:=decide (least ≤ x) && decide (x ≤ most) && (i == 0 || decide (nth l ((i:Int) - 1) < x))
def Dg (l:List Int) (least most:Int):Bool:=decide (0 < l.length) && decide (l.length ≤ 16) && C0 (K7 l least most) l
theorem Ag3 (l:List Int) (least most:Int) (hl:Aq l):Sy.Spec Tryz.prog 199 [.sl 1 Aa l,Aa least,Aa most] [] (Ad (Dg l least most)) []:=Ab Γ hm 100 F199 Tryz.ntmps199 rfl fun F hF=>by
 unfold Aq at hl
 conv=>whnf
 refine A2 l.length (fun j=>Da (K7 l least most) l j) (fun j=>[(0,.sl 1 Aa l),(1,Aa least),(2,Aa most),(9,.sl 1 Aa l),(10,Aa l.length),(11,Aa j)]) (fun _=>[]) [] (A5 _ _) ⟨⟨E,E,E,E,E,E,E,E,E,E,E,E,Y⟩,Y,E,E⟩ ?_
 intro j hj hI
 refine rg ?_;conv=>whnf
 (repeat' (first | (refine ⟨fun h=>?_,fun h=>?_⟩ <;> (repeat (first | simp only [decide_eq_true_eq] at h | simp only [decide_eq_false_iff_not] at h)) <;> ((refine rg ?_);(conv=>whnf);repeat((first|refine aF ?_|refine aT ?_);(refine rg ?_);(conv=>whnf)))) | (refine Ac rfl (.cons .tmp .nil) ?_ rfl) | (refine ⟨(by kernel_rfl),?_⟩; ((conv=>whnf))) | (refine ⟨by (first | (unfold I64; omega) | omega),by (omega),?_⟩; ((conv=>whnf))) | (refine ⟨by (unfold I64; omega),?_⟩; ((conv=>whnf))) | refine Ax [] hI (by omega) ?_ ⟨⟨rfl,rfl,rfl,rfl,rfl,rfl,rfl,rfl,rfl,rfl,rfl,rfl,trivial⟩,trivial,rfl,rfl⟩))
 all_goals try (refine congrArg Ad ?_)
 all_goals try simp only [Int.toNat_natCast,Int.pred_toNat] at *
 ·rw [Dg,Bd (i:=j) (by omega) (by simp [K7]; omega)]; simp
 ·rw [Dg,Bd (i:=j) (by omega) (by simp [K7]; omega)]; simp
 ·rw [Dg,Bd (i:=j) (by omega) (by simp only [K7,Ao (show ((j:Int) - 1).toNat < l.length by omega),Int.pred_toNat,Int.toNat_natCast]; simp; omega)]; simp
 ·exact A3 hI (by omega) (by simp only [K7,Ao (show ((j:Int) - 1).toNat < l.length by omega),Int.pred_toNat,Int.toNat_natCast]; simp; omega)
 ·exact A3 hI (by omega) (by simp [K7]; omega)
 ·rw [Dg,Ca hI (by omega),Bool.eq_iff_iff]; simp; omega
 ·rw [Dg]; simp; omega
theorem Aa8 (l:List Int) (most:Int) (hl:Aq l):Sy.Spec Tryz.prog 129 [.sl 1 Aa l,Aa most] [] (Ad (decide (l.length = 0) || Dg l 1 most)) []:=Ab Γ hm 100 F129 Tryz.ntmps129 rfl fun F hF=>by
 conv=>whnf
 (repeat' (first | (refine ⟨fun h=>?_,fun h=>?_⟩ <;> (repeat (first | simp only [beq_iff_eq] at h | simp only [beq_eq_false_iff_ne] at h)) <;> ((refine rg ?_);(conv=>whnf))) | (refine Ac rfl (.cons .tmp .nil) ?_ rfl) | (refine Ag (Ag3 l 1 most hl) F199 rfl rfl rfl rfl rfl ?_; ((refine rg ?_);(conv=>whnf)))))
 all_goals (refine congrArg Ad ?_)
 all_goals grind
theorem Of {K:List Nat}:∀ (a b:List SV),Cj K (a ++ b) = (Cj K a && Cj K b)
 | [],b=>by simp [Cj]
 | x :: a,b=>by simp [Cj,Of a b,Bool.and_assoc]
theorem Dd {f:FuncId} {first cap xs:List SV} (hc:(SV.clo (.func f) first cap).inn [] = true) (hx:Cj [] xs = true):Cj [] (first ++ xs ++ cap) = true:=by
 simp only [SV.inn,Bool.and_eq_true] at hc
 rw [Of,Of,hc.1,hc.2,hx]
 rfl
theorem Hz (l:List Domain) (p:Domain → Bool) (f:FuncId) (first cap:List SV) (hc:(SV.clo (.func f) first cap).inn [] = true) (hf:∀ x ∈ l,Jb Tryz.prog f (first ++ [A0 x] ++ cap) (Ad (p x))) (hl:Aq l) :
  Sy.Spec Tryz.prog 262 [.sl 6 A0 l,.clo (.func f) first cap] [] (Aa (C7 p l)) []:=Ab Γ hm 100 F262 Tryz.ntmps262 rfl fun F hF=>by
 unfold Aq at hl
 have hin:∀ x:Domain,Cj [] (first ++ [A0 x] ++ cap) = true:=fun x=>Dd hc rfl
 conv=>whnf
 refine A2 l.length (fun j=>Da (fun _ x=>!(p x)) l j) (fun j=>[(0,.sl 6 A0 l),(1,.clo (.func f) first cap),(7,Aa l.length),(8,Aa j)]) (fun _=>[]) [] (A5 _ _) ⟨⟨E,E,Bm _,hc,E,E,E,E,Y⟩,Y,E,E⟩ ?_
 intro j hj hI
 refine rg ?_;conv=>whnf
 refine ⟨fun h=>?_,fun h=>?_⟩
 ·have h:=of_decide_eq_true h
  have hj2:j < l.length:=by omega
  refine rg ?_;conv=>whnf
  refine ⟨E,by omega,by omega,?_⟩
  conv=>whnf
  refine Ep (hf l[j] (List.getElem_mem hj2)) E E E (by simp only [hin]; rfl) E E ?_
  refine rg ?_;conv=>whnf
  refine ⟨fun h2=>?_,fun h2=>?_⟩
  ·refine rg ?_;conv=>whnf
   refine Ac E (.cons .tmp .nil) (congrArg Aa ?_) E
   exact Ct hj2 (fun i hi hij=>by simpa using hI i hi hij) h2
  ·refine rg ?_;conv=>whnf
   refine ⟨by unfold I64; omega,?_⟩
   conv=>whnf
   exact Ax [] hI hj2 (A3 hI hj2 (by simp [h2])) ⟨⟨E,E,Bm _,hc,E,E,E,E,Y⟩,Y,E,E⟩
 ·have h:=of_decide_eq_false h
  refine rg ?_;conv=>whnf
  refine Ac E (.cons .tmp .nil) (congrArg Aa ?_) E
  exact C3 (fun i hi=>by simpa using hI i hi (by omega))
theorem Wb (l:List Port) (p:Port → Bool) (f:FuncId) (first cap:List SV) (hc:(SV.clo (.func f) first cap).inn [] = true) (hf:∀ x ∈ l,Jb Tryz.prog f (first ++ [Bh x] ++ cap) (Ad (p x))) (hl:Aq l) :
  Sy.Spec Tryz.prog 281 [.sl 7 Bh l,.clo (.func f) first cap] [] (Aa (C7 p l)) []:=Ab Γ hm 100 F281 Tryz.ntmps281 rfl fun F hF=>by
 unfold Aq at hl
 have hin:∀ x:Port,Cj [] (first ++ [Bh x] ++ cap) = true:=fun x=>Dd hc rfl
 conv=>whnf
 refine A2 l.length (fun j=>Da (fun _ x=>!(p x)) l j) (fun j=>[(0,.sl 7 Bh l),(1,.clo (.func f) first cap),(7,Aa l.length),(8,Aa j)]) (fun _=>[]) [] (A5 _ _) ⟨⟨E,E,Bm _,hc,E,E,E,E,Y⟩,Y,E,E⟩ ?_
 intro j hj hI
 refine rg ?_;conv=>whnf
 refine ⟨fun h=>?_,fun h=>?_⟩
 ·have h:=of_decide_eq_true h
  have hj2:j < l.length:=by omega
  refine rg ?_;conv=>whnf
  refine ⟨E,by omega,by omega,?_⟩
  conv=>whnf
  refine Ep (hf l[j] (List.getElem_mem hj2)) E E E (by simp only [hin]; rfl) E E ?_
  refine rg ?_;conv=>whnf
  refine ⟨fun h2=>?_,fun h2=>?_⟩
  ·refine rg ?_;conv=>whnf
   refine Ac E (.cons .tmp .nil) (congrArg Aa ?_) E
   exact Ct hj2 (fun i hi hij=>by simpa using hI i hi hij) h2
  ·refine rg ?_;conv=>whnf
   refine ⟨by unfold I64; omega,?_⟩
   conv=>whnf
   exact Ax [] hI hj2 (A3 hI hj2 (by simp [h2])) ⟨⟨E,E,Bm _,hc,E,E,E,E,Y⟩,Y,E,E⟩
 ·have h:=of_decide_eq_false h
  refine rg ?_;conv=>whnf
  refine Ac E (.cons .tmp .nil) (congrArg Aa ?_) E
  exact C3 (fun i hi=>by simpa using hI i hi (by omega))
theorem Alv (l:List Port) (p:Nat → Port → Bool) (f:FuncId) (first cap:List SV) (hc:(SV.clo (.func f) first cap).inn [] = true) (hf:∀ i (h:i < l.length),Jb Tryz.prog f (first ++ [Aa i,Bh l[i]] ++ cap) (Ad (p i l[i]))) (hl:Aq l) :
  Sy.Spec Tryz.prog 118 [.sl 7 Bh l,.clo (.func f) first cap] [] (Ad (C0 p l)) []:=Ab Γ hm 100 F118 Tryz.ntmps118 rfl fun F hF=>by
 unfold Aq at hl
 have hin:∀ (i:Nat) (x:Port),Cj [] (first ++ [Aa i,Bh x] ++ cap) = true:=fun i x=>Dd hc rfl
 conv=>whnf
 refine A2 l.length (fun j=>Da p l j) (fun j=>[(0,.sl 7 Bh l),(1,.clo (.func f) first cap),(7,.sl 7 Bh l),(8,Aa l.length),(9,Aa j)]) (fun _=>[]) [] (A5 _ _) ⟨⟨E,E,Bm _,hc,E,E,E,E,E,E,Y⟩,Y,E,E⟩ ?_
 intro j hj hI
 refine rg ?_;conv=>whnf
 refine ⟨fun h=>?_,fun h=>?_⟩
 ·have h:=of_decide_eq_true h
  have hj2:j < l.length:=by omega
  refine rg ?_;conv=>whnf
  refine ⟨E,by omega,by omega,?_⟩
  conv=>whnf
  refine Ep (hf j hj2) E E E (by simp only [hin]; rfl) E E ?_
  refine rg ?_;conv=>whnf
  refine ⟨fun h2=>?_,fun h2=>?_⟩
  ·refine rg ?_;conv=>whnf
   refine Ac E (.cons .tmp .nil) (congrArg Ad ?_) E
   exact Bd hj2 (by simpa using h2)
  ·refine rg ?_;conv=>whnf
   refine ⟨by unfold I64; omega,?_⟩
   conv=>whnf
   exact Ax [] hI hj2 (A3 hI hj2 (by simpa using h2)) ⟨⟨E,E,Bm _,hc,E,E,E,E,E,E,Y⟩,Y,E,E⟩
 ·have h:=of_decide_eq_false h
  refine rg ?_;conv=>whnf
  refine Ac E (.cons .tmp .nil) (congrArg Ad ?_) E
  exact Ca hI (by omega)
theorem Alw (l:List Link) (p:Nat → Link → Bool) (f:FuncId) (first cap:List SV) (hc:(SV.clo (.func f) first cap).inn [] = true) (hf:∀ i (h:i < l.length),Jb Tryz.prog f (first ++ [Aa i,Cp l[i]] ++ cap) (Ad (p i l[i]))) (hl:Aq l) :
  Sy.Spec Tryz.prog 120 [.sl 3 Cp l,.clo (.func f) first cap] [] (Ad (C0 p l)) []:=Ab Γ hm 100 F120 Tryz.ntmps120 rfl fun F hF=>by
 unfold Aq at hl
 have hin:∀ (i:Nat) (x:Link),Cj [] (first ++ [Aa i,Cp x] ++ cap) = true:=fun i x=>Dd hc rfl
 conv=>whnf
 refine A2 l.length (fun j=>Da p l j) (fun j=>[(0,.sl 3 Cp l),(1,.clo (.func f) first cap),(7,.sl 3 Cp l),(8,Aa l.length),(9,Aa j)]) (fun _=>[]) [] (A5 _ _) ⟨⟨E,E,Bm _,hc,E,E,E,E,E,E,Y⟩,Y,E,E⟩ ?_
 intro j hj hI
 refine rg ?_;conv=>whnf
 refine ⟨fun h=>?_,fun h=>?_⟩
 ·have h:=of_decide_eq_true h
  have hj2:j < l.length:=by omega
  refine rg ?_;conv=>whnf
  refine ⟨E,by omega,by omega,?_⟩
  conv=>whnf
  refine Ep (hf j hj2) E E E (by simp only [hin]; rfl) E E ?_
  refine rg ?_;conv=>whnf
  refine ⟨fun h2=>?_,fun h2=>?_⟩
  ·refine rg ?_;conv=>whnf
   refine Ac E (.cons .tmp .nil) (congrArg Ad ?_) E
   exact Bd hj2 (by simpa using h2)
  ·refine rg ?_;conv=>whnf
   refine ⟨by unfold I64; omega,?_⟩
   conv=>whnf
   exact Ax [] hI hj2 (A3 hI hj2 (by simpa using h2)) ⟨⟨E,E,Bm _,hc,E,E,E,E,E,E,Y⟩,Y,E,E⟩
 ·have h:=of_decide_eq_false h
  refine rg ?_;conv=>whnf
  refine Ac E (.cons .tmp .nil) (congrArg Ad ?_) E
  exact Ca hI (by omega)
theorem V5 (l:List Domain) (p:Nat → Domain → Bool) (f:FuncId) (first cap:List SV) (hc:(SV.clo (.func f) first cap).inn [] = true) (hf:∀ i (h:i < l.length),Jb Tryz.prog f (first ++ [Aa i,A0 l[i]] ++ cap) (Ad (p i l[i]))) (hl:Aq l) :
  Sy.Spec Tryz.prog 115 [.sl 6 A0 l,.clo (.func f) first cap] [] (Ad (C0 p l)) []:=Ab Γ hm 100 F115 Tryz.ntmps115 rfl fun F hF=>by
 unfold Aq at hl
 have hin:∀ (i:Nat) (x:Domain),Cj [] (first ++ [Aa i,A0 x] ++ cap) = true:=fun i x=>Dd hc rfl
 conv=>whnf
 refine A2 l.length (fun j=>Da p l j) (fun j=>[(0,.sl 6 A0 l),(1,.clo (.func f) first cap),(7,.sl 6 A0 l),(8,Aa l.length),(9,Aa j)]) (fun _=>[]) [] (A5 _ _) ⟨⟨E,E,Bm _,hc,E,E,E,E,E,E,Y⟩,Y,E,E⟩ ?_
 intro j hj hI
 refine rg ?_;conv=>whnf
 refine ⟨fun h=>?_,fun h=>?_⟩
 ·have h:=of_decide_eq_true h
  have hj2:j < l.length:=by omega
  refine rg ?_;conv=>whnf
  refine ⟨E,by omega,by omega,?_⟩
  conv=>whnf
  refine Ep (hf j hj2) E E E (by simp only [hin]; rfl) E E ?_
  refine rg ?_;conv=>whnf
  refine ⟨fun h2=>?_,fun h2=>?_⟩
  ·refine rg ?_;conv=>whnf
   refine Ac E (.cons .tmp .nil) (congrArg Ad ?_) E
   exact Bd hj2 (by simpa using h2)
  ·refine rg ?_;conv=>whnf
   refine ⟨by unfold I64; omega,?_⟩
   conv=>whnf
   exact Ax [] hI hj2 (A3 hI hj2 (by simpa using h2)) ⟨⟨E,E,Bm _,hc,E,E,E,E,E,E,Y⟩,Y,E,E⟩
 ·have h:=of_decide_eq_false h
  refine rg ?_;conv=>whnf
  refine Ac E (.cons .tmp .nil) (congrArg Ad ?_) E
  exact Ca hI (by omega)
theorem Afg (l:List Static) (p:Nat → Static → Bool) (f:FuncId) (first cap:List SV) (hc:(SV.clo (.func f) first cap).inn [] = true) (hf:∀ i (h:i < l.length),Jb Tryz.prog f (first ++ [Aa i,Bp l[i]] ++ cap) (Ad (p i l[i]))) (hl:Aq l) :
  Sy.Spec Tryz.prog 122 [.sl 4 Bp l,.clo (.func f) first cap] [] (Ad (C0 p l)) []:=Ab Γ hm 100 F122 Tryz.ntmps122 rfl fun F hF=>by
 unfold Aq at hl
 have hin:∀ (i:Nat) (x:Static),Cj [] (first ++ [Aa i,Bp x] ++ cap) = true:=fun i x=>Dd hc rfl
 conv=>whnf
 refine A2 l.length (fun j=>Da p l j) (fun j=>[(0,.sl 4 Bp l),(1,.clo (.func f) first cap),(7,.sl 4 Bp l),(8,Aa l.length),(9,Aa j)]) (fun _=>[]) [] (A5 _ _) ⟨⟨E,E,Bm _,hc,E,E,E,E,E,E,Y⟩,Y,E,E⟩ ?_
 intro j hj hI
 refine rg ?_;conv=>whnf
 refine ⟨fun h=>?_,fun h=>?_⟩
 ·have h:=of_decide_eq_true h
  have hj2:j < l.length:=by omega
  refine rg ?_;conv=>whnf
  refine ⟨E,by omega,by omega,?_⟩
  conv=>whnf
  refine Ep (hf j hj2) E E E (by simp only [hin]; rfl) E E ?_
  refine rg ?_;conv=>whnf
  refine ⟨fun h2=>?_,fun h2=>?_⟩
  ·refine rg ?_;conv=>whnf
   refine Ac E (.cons .tmp .nil) (congrArg Ad ?_) E
   exact Bd hj2 (by simpa using h2)
  ·refine rg ?_;conv=>whnf
   refine ⟨by unfold I64; omega,?_⟩
   conv=>whnf
   exact Ax [] hI hj2 (A3 hI hj2 (by simpa using h2)) ⟨⟨E,E,Bm _,hc,E,E,E,E,E,E,Y⟩,Y,E,E⟩
 ·have h:=of_decide_eq_false h
  refine rg ?_;conv=>whnf
  refine Ac E (.cons .tmp .nil) (congrArg Ad ?_) E
  exact Ca hI (by omega)
theorem Aif (l:List Flood) (p:Nat → Flood → Bool) (f:FuncId) (first cap:List SV) (hc:(SV.clo (.func f) first cap).inn [] = true) (hf:∀ i (h:i < l.length),Jb Tryz.prog f (first ++ [Aa i,B6 l[i]] ++ cap) (Ad (p i l[i]))) (hl:Aq l) :
  Sy.Spec Tryz.prog 124 [.sl 4 B6 l,.clo (.func f) first cap] [] (Ad (C0 p l)) []:=Ab Γ hm 100 F124 Tryz.ntmps124 rfl fun F hF=>by
 unfold Aq at hl
 have hin:∀ (i:Nat) (x:Flood),Cj [] (first ++ [Aa i,B6 x] ++ cap) = true:=fun i x=>Dd hc rfl
 conv=>whnf
 refine A2 l.length (fun j=>Da p l j) (fun j=>[(0,.sl 4 B6 l),(1,.clo (.func f) first cap),(7,.sl 4 B6 l),(8,Aa l.length),(9,Aa j)]) (fun _=>[]) [] (A5 _ _) ⟨⟨E,E,Bm _,hc,E,E,E,E,E,E,Y⟩,Y,E,E⟩ ?_
 intro j hj hI
 refine rg ?_;conv=>whnf
 refine ⟨fun h=>?_,fun h=>?_⟩
 ·have h:=of_decide_eq_true h
  have hj2:j < l.length:=by omega
  refine rg ?_;conv=>whnf
  refine ⟨E,by omega,by omega,?_⟩
  conv=>whnf
  refine Ep (hf j hj2) E E E (by simp only [hin]; rfl) E E ?_
  refine rg ?_;conv=>whnf
  refine ⟨fun h2=>?_,fun h2=>?_⟩
  ·refine rg ?_;conv=>whnf
   refine Ac E (.cons .tmp .nil) (congrArg Ad ?_) E
   exact Bd hj2 (by simpa using h2)
  ·refine rg ?_;conv=>whnf
   refine ⟨by unfold I64; omega,?_⟩
   conv=>whnf
   exact Ax [] hI hj2 (A3 hI hj2 (by simpa using h2)) ⟨⟨E,E,Bm _,hc,E,E,E,E,E,E,Y⟩,Y,E,E⟩
 ·have h:=of_decide_eq_false h
  refine rg ?_;conv=>whnf
  refine Ac E (.cons .tmp .nil) (congrArg Ad ?_) E
  exact Ca hI (by omega)
theorem Aou (l:List Vrf) (p:Nat → Vrf → Bool) (f:FuncId) (first cap:List SV) (hc:(SV.clo (.func f) first cap).inn [] = true) (hf:∀ i (h:i < l.length),Jb Tryz.prog f (first ++ [Aa i,Cz l[i]] ++ cap) (Ad (p i l[i]))) (hl:Aq l) :
  Sy.Spec Tryz.prog 127 [.sl 5 Cz l,.clo (.func f) first cap] [] (Ad (C0 p l)) []:=Ab Γ hm 100 F127 Tryz.ntmps127 rfl fun F hF=>by
 unfold Aq at hl
 have hin:∀ (i:Nat) (x:Vrf),Cj [] (first ++ [Aa i,Cz x] ++ cap) = true:=fun i x=>Dd hc rfl
 conv=>whnf
 refine A2 l.length (fun j=>Da p l j) (fun j=>[(0,.sl 5 Cz l),(1,.clo (.func f) first cap),(7,.sl 5 Cz l),(8,Aa l.length),(9,Aa j)]) (fun _=>[]) [] (A5 _ _) ⟨⟨E,E,Bm _,hc,E,E,E,E,E,E,Y⟩,Y,E,E⟩ ?_
 intro j hj hI
 refine rg ?_;conv=>whnf
 refine ⟨fun h=>?_,fun h=>?_⟩
 ·have h:=of_decide_eq_true h
  have hj2:j < l.length:=by omega
  refine rg ?_;conv=>whnf
  refine ⟨E,by omega,by omega,?_⟩
  conv=>whnf
  refine Ep (hf j hj2) E E E (by simp only [hin]; rfl) E E ?_
  refine rg ?_;conv=>whnf
  refine ⟨fun h2=>?_,fun h2=>?_⟩
  ·refine rg ?_;conv=>whnf
   refine Ac E (.cons .tmp .nil) (congrArg Ad ?_) E
   exact Bd hj2 (by simpa using h2)
  ·refine rg ?_;conv=>whnf
   refine ⟨by unfold I64; omega,?_⟩
   conv=>whnf
   exact Ax [] hI hj2 (A3 hI hj2 (by simpa using h2)) ⟨⟨E,E,Bm _,hc,E,E,E,E,E,E,Y⟩,Y,E,E⟩
 ·have h:=of_decide_eq_false h
  refine rg ?_;conv=>whnf
  refine Ac E (.cons .tmp .nil) (congrArg Ad ?_) E
  exact Ca hI (by omega)
theorem Aov (l:List Irb) (p:Nat → Irb → Bool) (f:FuncId) (first cap:List SV) (hc:(SV.clo (.func f) first cap).inn [] = true) (hf:∀ i (h:i < l.length),Jb Tryz.prog f (first ++ [Aa i,Dm l[i]] ++ cap) (Ad (p i l[i]))) (hl:Aq l) :
  Sy.Spec Tryz.prog 130 [.sl 5 Dm l,.clo (.func f) first cap] [] (Ad (C0 p l)) []:=Ab Γ hm 100 F130 Tryz.ntmps130 rfl fun F hF=>by
 unfold Aq at hl
 have hin:∀ (i:Nat) (x:Irb),Cj [] (first ++ [Aa i,Dm x] ++ cap) = true:=fun i x=>Dd hc rfl
 conv=>whnf
 refine A2 l.length (fun j=>Da p l j) (fun j=>[(0,.sl 5 Dm l),(1,.clo (.func f) first cap),(7,.sl 5 Dm l),(8,Aa l.length),(9,Aa j)]) (fun _=>[]) [] (A5 _ _) ⟨⟨E,E,Bm _,hc,E,E,E,E,E,E,Y⟩,Y,E,E⟩ ?_
 intro j hj hI
 refine rg ?_;conv=>whnf
 refine ⟨fun h=>?_,fun h=>?_⟩
 ·have h:=of_decide_eq_true h
  have hj2:j < l.length:=by omega
  refine rg ?_;conv=>whnf
  refine ⟨E,by omega,by omega,?_⟩
  conv=>whnf
  refine Ep (hf j hj2) E E E (by simp only [hin]; rfl) E E ?_
  refine rg ?_;conv=>whnf
  refine ⟨fun h2=>?_,fun h2=>?_⟩
  ·refine rg ?_;conv=>whnf
   refine Ac E (.cons .tmp .nil) (congrArg Ad ?_) E
   exact Bd hj2 (by simpa using h2)
  ·refine rg ?_;conv=>whnf
   refine ⟨by unfold I64; omega,?_⟩
   conv=>whnf
   exact Ax [] hI hj2 (A3 hI hj2 (by simpa using h2)) ⟨⟨E,E,Bm _,hc,E,E,E,E,E,E,Y⟩,Y,E,E⟩
 ·have h:=of_decide_eq_false h
  refine rg ?_;conv=>whnf
  refine Ac E (.cons .tmp .nil) (congrArg Ad ?_) E
  exact Ca hI (by omega)
theorem Aot (l:List Int) (p:Nat → Int → Bool) (f:FuncId) (first cap:List SV) (hc:(SV.clo (.func f) first cap).inn [] = true) (hf:∀ i (h:i < l.length),Jb Tryz.prog f (first ++ [Aa i,Aa l[i]] ++ cap) (Ad (p i l[i]))) (hl:Aq l) :
  Sy.Spec Tryz.prog 192 [.sl 1 Aa l,.clo (.func f) first cap] [] (Ad (C0 p l)) []:=Ab Γ hm 100 F192 Tryz.ntmps192 rfl fun F hF=>by
 unfold Aq at hl
 have hin:∀ (i:Nat) (x:Int),Cj [] (first ++ [Aa i,Aa x] ++ cap) = true:=fun i x=>Dd hc rfl
 conv=>whnf
 refine A2 l.length (fun j=>Da p l j) (fun j=>[(0,.sl 1 Aa l),(1,.clo (.func f) first cap),(7,.sl 1 Aa l),(8,Aa l.length),(9,Aa j)]) (fun _=>[]) [] (A5 _ _) ⟨⟨E,E,Bm _,hc,E,E,E,E,E,E,Y⟩,Y,E,E⟩ ?_
 intro j hj hI
 refine rg ?_;conv=>whnf
 refine ⟨fun h=>?_,fun h=>?_⟩
 ·have h:=of_decide_eq_true h
  have hj2:j < l.length:=by omega
  refine rg ?_;conv=>whnf
  refine ⟨E,by omega,by omega,?_⟩
  conv=>whnf
  refine Ep (hf j hj2) E E E (by simp only [hin]; rfl) E E ?_
  refine rg ?_;conv=>whnf
  refine ⟨fun h2=>?_,fun h2=>?_⟩
  ·refine rg ?_;conv=>whnf
   refine Ac E (.cons .tmp .nil) (congrArg Ad ?_) E
   exact Bd hj2 (by simpa using h2)
  ·refine rg ?_;conv=>whnf
   refine ⟨by unfold I64; omega,?_⟩
   conv=>whnf
   exact Ax [] hI hj2 (A3 hI hj2 (by simpa using h2)) ⟨⟨E,E,Bm _,hc,E,E,E,E,E,E,Y⟩,Y,E,E⟩
 ·have h:=of_decide_eq_false h
  refine rg ?_;conv=>whnf
  refine Ac E (.cons .tmp .nil) (congrArg Ad ?_) E
  exact Ca hI (by omega)
structure Net.Fin (n:Net):Prop where
 devices:Aq n.devices
 ports:Aq n.ports
 links:Aq n.links
 domains:Aq n.domains
 statics:Aq n.statics
 floods:Aq n.floods
 vrfs:Aq n.vrfs
 irbs:Aq n.irbs
 tagged:∀ p ∈ n.ports,Aq p.tagged
 peers:∀ d ∈ n.domains,Aq d.peers
 addrs:∀ f ∈ n.floods,Aq f.addrs
 imports:∀ v ∈ n.vrfs,Aq v.imports
 exports:∀ v ∈ n.vrfs,Aq v.exports
def Yu (n:Net) (dev vlan:Int):Int:=C7 (fun d=>d.dev == dev && d.vlan == vlan) n.domains
theorem Ap8 (dev vlan:Int) (d:Domain):Sy.Spec Tryz.prog 263 [A0 d,.ref 1 (Aa dev) 0,.ref 1 (Aa vlan) 0] [] (Ad (d.dev == dev && d.vlan == vlan)) []:=Ab Γ hm 100 F263 Tryz.ntmps263 rfl fun F hF=>by
 conv=>whnf
 (repeat' (first | (refine ⟨fun h=>?_,fun h=>?_⟩ <;> (repeat (first | simp only [beq_iff_eq] at h | simp only [beq_eq_false_iff_ne] at h)) <;> ((refine rg ?_);(conv=>whnf))) | (refine Ac rfl (.cons .tmp .nil) ?_ rfl)))
 all_goals (refine congrArg Ad ?_)
 all_goals simp_all
theorem L6 (n:Net) (dev vlan:Int) (hl:Aq n.domains):Sy.Spec Tryz.prog 191 [Ap n,Aa dev,Aa vlan] [] (Aa (Yu n dev vlan)) []:=Ab Γ hm 100 F191 Tryz.ntmps191 rfl fun F hF=>by
 conv=>whnf
 refine Bf 4 1 (Aa dev) E E E ?_
 refine Bf 5 1 (Aa vlan) E E E ?_
 refine Ag (Hz n.domains (fun d=>d.dev == dev && d.vlan == vlan) 263 [] [.ref 1 (Aa dev) 0,.ref 1 (Aa vlan) 0] E (fun d _=>⟨⟨_,_,F263⟩,Ap8 dev vlan d⟩) hl) F262 E E E E E ?_
 refine rg ?_;conv=>whnf
 exact Ac E (.cons .tmp .nil) E E
def Alg (n:Net):Bool:=decide (n.devices.length ≤ 8) && decide (n.ports.length ≤ 40) && decide (n.links.length ≤ 20) && decide (n.domains.length ≤ 48) && decide (n.statics.length ≤ 64) && decide (n.floods.length ≤ 48) && decide (n.vrfs.length ≤ 16) && decide (n.irbs.length ≤ 48)
theorem fewS (n:Net):Sy.Spec Tryz.prog 114 [Ap n] [] (Ad (Alg n)) []:=Ab Γ hm 100 F114 Tryz.ntmps114 rfl fun F hF=>by
 conv=>whnf
 (repeat' (first | (refine ⟨fun h=>?_,fun h=>?_⟩ <;> (repeat (first | simp only [decide_eq_true_eq] at h | simp only [decide_eq_false_iff_not] at h)) <;> ((refine rg ?_);(conv=>whnf);repeat((refine aF ?_);(refine rg ?_);(conv=>whnf)))) | (refine Ac rfl (.cons .tmp .nil) ?_ rfl)))
 all_goals (refine congrArg Ad ?_)
 all_goals (unfold Alg; rw [Bool.eq_iff_iff]; simp; omega)
def Ia (n:Net) (i:Nat) (d:Domain):Bool :=
 Am d.dev n.devices.length && decide (1 ≤ d.vlan) && decide (d.vlan ≤ 4094) && decide (0 ≤ d.vni) && decide (d.vni ≤ 16777215) && (d.irb == -1 || Am d.irb n.irbs.length && (nth n.irbs d.irb).domain == i) && Yu n d.dev d.vlan == i
theorem bareS (n:Net) (i:Nat) (d:Domain) (hl:Aq n.domains):Sy.Spec Tryz.prog 116 [Ap n,Aa i,A0 d] [] (Ad (Ia n i d)) []:=Ab Γ hm 100 F116 Tryz.ntmps116 rfl fun F hF=>by
 conv=>whnf
 (repeat' (first | (refine ⟨fun h=>?_,fun h=>?_⟩ <;> (repeat (first | simp only [Am] at h | simp only [decide_eq_true_eq] at h | simp only [decide_eq_false_iff_not] at h | simp only [beq_iff_eq] at h | simp only [beq_eq_false_iff_ne] at h | simp only [Bool.and_eq_true] at h | simp only [Bool.and_eq_false_iff] at h)) <;> ((refine rg ?_);(conv=>whnf);repeat((first|refine aF ?_|refine aT ?_);(refine rg ?_);(conv=>whnf)))) | (refine Ac rfl (.cons .tmp .nil) ?_ rfl) | (refine ⟨(by kernel_rfl),?_⟩; ((conv=>whnf))) | (refine ⟨by (omega),by (omega),?_⟩; ((conv=>whnf))) | (refine Ag (E6 5 Br n.devices d.dev) F126 rfl rfl rfl rfl rfl ?_; ((refine rg ?_);(conv=>whnf))) | (refine Ag (Agr 5 Dm n.irbs d.irb) F190 rfl rfl rfl rfl rfl ?_; ((refine rg ?_);(conv=>whnf))) | (refine Ag (L6 n d.dev d.vlan hl) F191 rfl rfl rfl rfl rfl ?_; ((refine rg ?_);(conv=>whnf)))))
 all_goals (refine congrArg Ad ?_)
 all_goals (clear hF; grind [Ia,Am,Ao])
def Acl (n:Net) (d:Domain):Bool:=(nth n.devices d.dev).vtep != 0
theorem Aqp (n:Net) (d:Domain) (hd:Am d.dev n.devices.length = true):Sy.Spec Tryz.prog 264 [Ap n,A0 d] [] (Ad (Acl n d)) []:=Ab Γ hm 100 F264 Tryz.ntmps264 rfl fun F hF=>by
 simp only [Am,Bool.and_eq_true,decide_eq_true_eq] at hd
 conv=>whnf
 (repeat' (first | (refine Ac rfl (.cons .tmp .nil) ?_ rfl) | (refine ⟨(by kernel_rfl),?_⟩; ((conv=>whnf))) | (refine ⟨by (omega),by (omega),?_⟩; ((conv=>whnf)))))
 all_goals (refine congrArg Ad ?_)
 all_goals (clear hF; grind [Acl,Ao])
def M6 (n:Net) (i:Nat) (d:Domain) (k:Int):Bool :=
 Am k n.domains.length && k != i && Am (nth n.domains k).dev n.devices.length && (nth n.domains k).dev != d.dev && (nth n.domains k).vni == d.vni && d.vni != 0 && Acl n (nth n.domains k) && Acl n d && inB (nth n.domains k).peers i
theorem peerS (n:Net) (i:Nat) (d:Domain) (k:Int) (hn:n.Fin) (hd:Am d.dev n.devices.length = true):Sy.Spec Tryz.prog 194 [Ap n,Aa i,A0 d,Aa k] [] (Ad (M6 n i d k)) []:=Ab Γ hm 100 F194 Tryz.ntmps194 rfl fun F hF=>by
 conv=>whnf
 (repeat' (first | (refine ⟨fun h=>?_,fun h=>?_⟩ <;> (repeat (first | simp only [Am] at h | simp only [decide_eq_true_eq] at h | simp only [decide_eq_false_iff_not] at h | simp only [beq_iff_eq] at h | simp only [beq_eq_false_iff_ne] at h | simp only [bne_iff_ne] at h | simp only [bne_eq_false_iff_eq] at h | simp only [Bool.and_eq_true] at h | simp only [Bool.and_eq_false_iff] at h | simp only [Bool.not_eq_true'] at h | simp only [Bool.not_eq_false'] at h)) <;> ((refine rg ?_);(conv=>whnf);repeat((first|refine aF ?_|refine aT ?_);(refine rg ?_);(conv=>whnf)))) | (refine Ac rfl (.cons .tmp .nil) ?_ rfl) | (refine ⟨(by kernel_rfl),?_⟩; ((conv=>whnf))) | (refine ⟨by (omega),by (omega),?_⟩; ((conv=>whnf))) | (refine Ag (Ip 6 A0 n.domains k) F197 rfl rfl rfl rfl rfl ?_; ((refine rg ?_);(conv=>whnf))) | (refine Ag (E6 5 Br n.devices (n.domains[k.toNat]'(by omega)).dev) F126 rfl rfl rfl rfl rfl ?_; ((refine rg ?_);(conv=>whnf))) | (refine Ag (Aqp n (n.domains[k.toNat]'(by omega)) (by simp only [Am,Bool.and_eq_true,decide_eq_true_eq]; omega)) F264 rfl rfl rfl rfl rfl ?_; ((refine rg ?_);(conv=>whnf))) | (refine Ag (Aqp n d hd) F264 rfl rfl rfl rfl rfl ?_; ((refine rg ?_);(conv=>whnf))) | (refine Ag (Dv (n.domains[k.toNat]'(by omega)).peers i (hn.peers _ (List.getElem_mem _))) F86 rfl rfl rfl rfl rfl ?_; ((refine rg ?_);(conv=>whnf)))))
 all_goals (refine congrArg Ad ?_; clear hF; grind [M6,Am,Ao])
def M5 (n:Net) (i:Nat) (d:Domain):Bool:=C0 (fun at_ k=>M6 n i d k && C7 (· == k) d.peers == at_) d.peers
theorem peers1 (n:Net) (i:Nat) (d:Domain) (at_:Nat) (k:Int) (hn:n.Fin) (hp:Aq d.peers) (hd:Am d.dev n.devices.length = true) :
  Sy.Spec Tryz.prog 193 [Aa at_,Aa k,.ref 8 (Ap n) 0,.ref 1 (Aa i) 0,.ref 6 (A0 d) 0] [] (Ad (M6 n i d k && C7 (· == k) d.peers == at_)) []:=Ab Γ hm 100 F193 Tryz.ntmps193 rfl fun F hF=>by
 conv=>whnf
 (repeat' (first | (refine ⟨fun h=>?_,fun h=>?_⟩ <;> ((refine rg ?_);(conv=>whnf))) | (refine Ac rfl (.cons .tmp .nil) ?_ rfl) | (refine Ag (peerS n i d k hn hd) F194 rfl rfl rfl rfl rfl ?_; ((refine rg ?_);(conv=>whnf))) | (refine Ag (Ant d.peers k hp) F161 rfl rfl rfl rfl rfl ?_; ((refine rg ?_);(conv=>whnf)))))
 all_goals (refine congrArg Ad ?_; clear hF; grind)
theorem peersS (n:Net) (i:Nat) (d:Domain) (hn:n.Fin) (hp:Aq d.peers) (hd:Am d.dev n.devices.length = true):Sy.Spec Tryz.prog 117 [Ap n,Aa i,A0 d] [] (Ad (M5 n i d)) []:=Ab Γ hm 100 F117 Tryz.ntmps117 rfl fun F hF=>by
 conv=>whnf
 refine Bf 3 8 (Ap n) E E E ?_
 refine Bf 4 1 (Aa i) E E E ?_
 refine Bf 5 6 (A0 d) E E E ?_
 refine Ag (Aot d.peers (fun at_ k=>M6 n i d k && C7 (· == k) d.peers == at_) 193 [] [.ref 8 (Ap n) 0,.ref 1 (Aa i) 0,.ref 6 (A0 d) 0] E (fun a ha=>⟨⟨_,_,F193⟩,peers1 n i d a d.peers[a] hn hp hd⟩) hp) F192 E E E E E ?_
 refine rg ?_;conv=>whnf
 exact Ac E (.cons .tmp .nil) E E
def Ch (n:Net) (dev vlan:Int):Bool:=decide (0 ≤ Yu n dev vlan)
def Em (n:Net) (i:Nat) (p:Port):Bool :=
 Am p.dev n.devices.length && decide (0 ≤ p.native) && decide (p.native ≤ 4094) && (decide (p.tagged.length = 0) || Dg p.tagged 1 4094) && !inB p.tagged p.native && !(p.native == 0 && decide (p.tagged.length = 0)) &&
  C0 (fun _ v=>Ch n p.dev v) p.tagged && !(decide (0 < p.native) && !Ch n p.dev p.native) &&
  (p.link == -1 || Am p.link n.links.length && ((nth n.links p.link).a == i || (nth n.links p.link).b == i))
theorem Ahh (n:Net) (i:Nat) (p:Port) (hn:n.Fin) (hp:Aq p.tagged):Sy.Spec Tryz.prog 119 [Ap n,Aa i,Bh p] [] (Ad (Em n i p)) []:=Ab Γ hm 100 F119 Tryz.ntmps119 rfl fun F hF=>by
 conv=>whnf
 (repeat' (first | (refine ⟨fun h=>?_,fun h=>?_⟩ <;> (repeat (first | simp only [Am] at h | simp only [decide_eq_true_eq] at h | simp only [decide_eq_false_iff_not] at h | simp only [beq_iff_eq] at h | simp only [beq_eq_false_iff_ne] at h | simp only [Bool.and_eq_true] at h | simp only [Bool.or_eq_true] at h | simp only [Bool.and_eq_false_iff] at h | simp only [Bool.or_eq_false_iff] at h | simp only [Bool.not_eq_true'] at h | simp only [Bool.not_eq_false'] at h)) <;> ((refine rg ?_);(conv=>whnf);repeat((first|refine aF ?_|refine aT ?_);(refine rg ?_);(conv=>whnf)))) | (refine Ac rfl (.cons .tmp .nil) ?_ rfl) | (refine Ag (E6 5 Br n.devices p.dev) F126 rfl rfl rfl rfl rfl ?_; ((refine rg ?_);(conv=>whnf))) | (refine Ag (Aa8 p.tagged 4094 hp) F129 rfl rfl rfl rfl rfl ?_; ((refine rg ?_);(conv=>whnf))) | (refine Ag (Dv p.tagged p.native hp) F86 rfl rfl rfl rfl rfl ?_; ((refine rg ?_);(conv=>whnf)))))
 all_goals first | (refine congrArg Ad ?_; clear hF; grind [Em,Am]) | skip
 all_goals (
  refine Bf 3 8 (Ap n) E E E ?_
  refine Bf 5 7 (Bh p) E E E ?_
  refine A2 p.tagged.length (fun j=>Da (fun _ v=>Ch n p.dev v) p.tagged j) (fun j=>[(1,Aa i),(3,.ref 8 (Ap n) 0),(5,.ref 7 (Bh p) 0),(51,.sl 1 Aa p.tagged),(52,Aa p.tagged.length),(53,Aa j)]) (fun _=>[]) [] (A5 _ _) ⟨⟨E,E,E,E,E,E,E,E,E,E,E,E,Y⟩,Y,E,E⟩ ?_
  intro j hj hI
  have hsh:=hp
  unfold Aq at hsh
  ((first|refine rG Γ hm ?_|refine rD Γ hm (by kernel_rfl) ?_);(conv=>whnf);repeat((first|refine aF ?_|refine aT ?_);(first|refine rG Γ hm ?_|refine rD Γ hm (by kernel_rfl) ?_);conv=>whnf)))
 all_goals (
  (repeat' (first | (refine ⟨fun h=>?_,fun h=>?_⟩ <;> (repeat (first | simp only [Am] at h | simp only [decide_eq_true_eq] at h | simp only [decide_eq_false_iff_not] at h | simp only [beq_iff_eq] at h | simp only [beq_eq_false_iff_ne] at h | simp only [Bool.and_eq_true] at h | simp only [Bool.and_eq_false_iff] at h)) <;> ((refine rg ?_);(conv=>whnf);repeat((refine aF ?_);(refine rg ?_);(conv=>whnf)))) | (refine Ac rfl (.cons .tmp .nil) ?_ rfl) | (refine ⟨(by kernel_rfl),?_⟩; ((conv=>whnf))) | (refine ⟨by (omega),by (omega),?_⟩; ((conv=>whnf))) | (refine ⟨by (unfold I64; omega),?_⟩; ((conv=>whnf))) | (refine Ag (L6 n p.dev (p.tagged[j]'(by omega)) hn.domains) F191 rfl rfl rfl rfl rfl ?_; ((refine rg ?_);(conv=>whnf))) | (refine Ag (L6 n p.dev p.native hn.domains) F191 rfl rfl rfl rfl rfl ?_; ((refine rg ?_);(conv=>whnf))) | (refine Ag (Adx 3 Cp n.links p.link) F195 rfl rfl rfl rfl rfl ?_; ((refine rg ?_);(conv=>whnf))) | refine Ax [] hI (by omega) ?_ ⟨⟨rfl,rfl,rfl,rfl,rfl,rfl,rfl,rfl,rfl,rfl,rfl,rfl,trivial⟩,trivial,rfl,rfl⟩)))
 all_goals first
  | exact A3 hI (by omega) (by simp only [Ch,decide_eq_true_eq]; omega)
  | (refine congrArg Ad ?_
     have h0:C0 (fun _ v=>Ch n p.dev v) p.tagged = false:=Bd (i:=j) (by omega) (by simp only [Ch,decide_eq_false_iff_not]; omega)
     clear hF hI; grind [Em])
  | (refine congrArg Ad ?_
     have h0:C0 (fun _ v=>Ch n p.dev v) p.tagged = true:=Ca hI (by omega)
     clear hF hI; grind [Em,Am,Ch,Ao])
def J6 (n:Net) (i:Nat) (l:Link):Bool :=
 Am l.a n.ports.length && Am l.b n.ports.length && (nth n.ports l.a).dev != (nth n.ports l.b).dev && (nth n.ports l.a).link == i && (nth n.ports l.b).link == i
theorem Ahi (n:Net) (i:Nat) (l:Link):Sy.Spec Tryz.prog 121 [Ap n,Aa i,Cp l] [] (Ad (J6 n i l)) []:=Ab Γ hm 100 F121 Tryz.ntmps121 rfl fun F hF=>by
 conv=>whnf
 (repeat' (first | (refine ⟨fun h=>?_,fun h=>?_⟩ <;> (repeat (first | simp only [Am] at h | simp only [decide_eq_true_eq] at h | simp only [decide_eq_false_iff_not] at h | simp only [beq_iff_eq] at h | simp only [beq_eq_false_iff_ne] at h | simp only [bne_iff_ne] at h | simp only [bne_eq_false_iff_eq] at h | simp only [Bool.and_eq_true] at h | simp only [Bool.and_eq_false_iff] at h | simp only [Bool.not_eq_true'] at h | simp only [Bool.not_eq_false'] at h)) <;> ((refine rg ?_);(conv=>whnf);repeat((first|refine aF ?_|refine aT ?_);(refine rg ?_);(conv=>whnf)))) | (refine Ac rfl (.cons .tmp .nil) ?_ rfl) | (refine ⟨(by kernel_rfl),?_⟩; ((conv=>whnf))) | (refine ⟨by (omega),by (omega),?_⟩; ((conv=>whnf))) | (refine Ag (M4 7 Bh n.ports l.a) F196 rfl rfl rfl rfl rfl ?_; ((refine rg ?_);(conv=>whnf))) | (refine Ag (M4 7 Bh n.ports l.b) F196 rfl rfl rfl rfl rfl ?_; ((refine rg ?_);(conv=>whnf)))))
 all_goals (refine congrArg Ad ?_; clear hF; grind [J6,Am,Ao])
def E9 (n:Net) (s:Static):Bool :=
 Am s.domain n.domains.length && Am s.port n.ports.length && (nth n.ports s.port).dev == (nth n.domains s.domain).dev && Hy (nth n.ports s.port) (nth n.domains s.domain).vlan
theorem Ab0 (n:Net) (i:Nat) (s:Static) (hn:n.Fin):Sy.Spec Tryz.prog 123 [Ap n,Aa i,Bp s] [] (Ad (E9 n s)) []:=Ab Γ hm 100 F123 Tryz.ntmps123 rfl fun F hF=>by
 conv=>whnf
 (repeat' (first | (refine ⟨fun h=>?_,fun h=>?_⟩ <;> (repeat (first | simp only [Am] at h | simp only [decide_eq_true_eq] at h | simp only [decide_eq_false_iff_not] at h | simp only [beq_iff_eq] at h | simp only [beq_eq_false_iff_ne] at h | simp only [Bool.and_eq_true] at h | simp only [Bool.and_eq_false_iff] at h | simp only [Bool.not_eq_true'] at h | simp only [Bool.not_eq_false'] at h)) <;> ((refine rg ?_);(conv=>whnf);repeat((refine aT ?_);(refine rg ?_);(conv=>whnf)))) | (refine Ac rfl (.cons .tmp .nil) ?_ rfl) | (refine ⟨(by kernel_rfl),?_⟩; ((conv=>whnf))) | (refine ⟨by (omega),by (omega),?_⟩; ((conv=>whnf))) | (refine Ag (Ip 6 A0 n.domains s.domain) F197 rfl rfl rfl rfl rfl ?_; ((refine rg ?_);(conv=>whnf))) | (refine Ag (M4 7 Bh n.ports s.port) F196 rfl rfl rfl rfl rfl ?_; ((refine rg ?_);(conv=>whnf))) | (refine Ag (Abt (n.ports[s.port.toNat]'(by omega)) (n.domains[s.domain.toNat]'(by omega)).vlan (hn.tagged _ (List.getElem_mem _))) F198 rfl rfl rfl rfl rfl ?_; ((refine rg ?_);(conv=>whnf)))))
 all_goals (refine congrArg Ad ?_; clear hF; grind [E9,Am,Ao])
def U5 (n:Net) (i:Nat) (x:Irb):Bool :=
 Am x.domain n.domains.length && Am x.vrf n.vrfs.length && (nth n.domains x.domain).dev == (nth n.vrfs x.vrf).dev && (nth n.domains x.domain).irb == i && decide (1 ≤ x.bits) && decide (x.bits ≤ 30)
theorem Ak5 (n:Net) (i:Nat) (x:Irb):Sy.Spec Tryz.prog 131 [Ap n,Aa i,Dm x] [] (Ad (U5 n i x)) []:=Ab Γ hm 100 F131 Tryz.ntmps131 rfl fun F hF=>by
 conv=>whnf
 (repeat' (first | (refine ⟨fun h=>?_,fun h=>?_⟩ <;> (repeat (first | simp only [Am] at h | simp only [decide_eq_true_eq] at h | simp only [decide_eq_false_iff_not] at h | simp only [beq_iff_eq] at h | simp only [beq_eq_false_iff_ne] at h | simp only [Bool.and_eq_true] at h | simp only [Bool.and_eq_false_iff] at h)) <;> ((refine rd (by kernel_rfl) ?_);(conv=>whnf);repeat((refine aF ?_);(refine rd (by kernel_rfl) ?_);(conv=>whnf)))) | (refine Ac rfl (.cons .tmp .nil) ?_ rfl) | (refine ⟨(by kernel_rfl),?_⟩; ((conv=>whnf))) | (refine ⟨by (omega),by (omega),?_⟩; ((conv=>whnf))) | (refine At (Ip 6 A0 n.domains x.domain) F197 rfl rfl rfl (by kernel_rfl) rfl ?_; ((refine rd (by kernel_rfl) ?_);(conv=>whnf))) | (refine At (Agq 5 Cz n.vrfs x.vrf) F200 rfl rfl rfl (by kernel_rfl) rfl ?_; ((refine rd (by kernel_rfl) ?_);(conv=>whnf)))))
 all_goals (refine congrArg Ad ?_; clear hF; grind [U5,Am,Ao])
def K0 (n:Net) (f:Flood):Bool:=Am f.dev n.devices.length && decide (f.addrs.length ≤ 16)
theorem right1 (n:Net) (i:Nat) (f:Flood):Sy.Spec Tryz.prog 125 [Aa i,B6 f,.ref 8 (Ap n) 0] [] (Ad (K0 n f)) []:=Ab Γ hm 100 F125 Tryz.ntmps125 rfl fun F hF=>by
 conv=>whnf
 (repeat' (first | (refine ⟨fun h=>?_,fun h=>?_⟩ <;> (repeat (first | simp only [Am] at h | simp only [decide_eq_true_eq] at h | simp only [decide_eq_false_iff_not] at h | simp only [Bool.and_eq_true] at h | simp only [Bool.and_eq_false_iff] at h)) <;> ((refine rg ?_);(conv=>whnf))) | (refine Ac rfl (.cons .tmp .nil) ?_ rfl) | (refine Ag (E6 5 Br n.devices f.dev) F126 rfl rfl rfl rfl rfl ?_; ((refine rg ?_);(conv=>whnf)))))
 all_goals (refine congrArg Ad ?_; clear hF; grind [K0,Am])
def Adh (l:List Int) (most:Int):Bool:=decide (l.length = 0) || Dg l 1 most
def Y1 (n:Net) (v:Vrf):Bool:=Am v.dev n.devices.length && Adh v.imports 65535 && Adh v.exports 65535
theorem right2 (n:Net) (i:Nat) (v:Vrf) (h1:Aq v.imports) (h2:Aq v.exports):Sy.Spec Tryz.prog 128 [Aa i,Cz v,.ref 8 (Ap n) 0] [] (Ad (Y1 n v)) []:=Ab Γ hm 100 F128 Tryz.ntmps128 rfl fun F hF=>by
 conv=>whnf
 (repeat' (first | (refine ⟨fun h=>?_,fun h=>?_⟩ <;> (repeat (first | simp only [Am] at h | simp only [decide_eq_true_eq] at h | simp only [decide_eq_false_iff_not] at h | simp only [Bool.and_eq_true] at h | simp only [Bool.or_eq_true] at h | simp only [Bool.and_eq_false_iff] at h | simp only [Bool.or_eq_false_iff] at h)) <;> ((refine rg ?_);(conv=>whnf);repeat((refine aF ?_);(refine rg ?_);(conv=>whnf)))) | (refine Ac rfl (.cons .tmp .nil) ?_ rfl) | (refine Ag (E6 5 Br n.devices v.dev) F126 rfl rfl rfl rfl rfl ?_; ((refine rg ?_);(conv=>whnf))) | (refine Ag (Aa8 v.imports 65535 h1) F129 rfl rfl rfl rfl rfl ?_; ((refine rg ?_);(conv=>whnf))) | (refine Ag (Aa8 v.exports 65535 h2) F129 rfl rfl rfl rfl rfl ?_; ((refine rg ?_);(conv=>whnf)))))
 all_goals (refine congrArg Ad ?_; clear hF; grind [Y1,Adh,Am])
def Ah (n:Net):Bool :=
 Alg n && C0 (Ia n) n.domains && C0 (M5 n) n.domains && C0 (Em n) n.ports && C0 (J6 n) n.links && C0 (fun _=>E9 n) n.statics && C0 (fun _=>K0 n) n.floods && C0 (fun _=>Y1 n) n.vrfs && C0 (U5 n) n.irbs
theorem Lr {n:Net} (h:C0 (Ia n) n.domains = true) {i:Nat} (hi:i < n.domains.length):Am n.domains[i].dev n.devices.length = true:=by
 have:=allB_iff.1 h i hi
 simp only [Ia,Bool.and_eq_true] at this
 exact this.1.1.1.1.1.1
theorem B4 (n:Net) (hn:n.Fin):Sy.Spec Tryz.prog 67 [Ap n] [] (Ad (Ah n)) []:=Ab Γ hm 100 F67 Tryz.ntmps67 rfl fun F hF=>by
 conv=>whnf
 refine Bf 1 8 (Ap n) E E E ?_
 (repeat' (first | (refine ⟨fun h=>?_,fun h=>?_⟩ <;> ((refine rg ?_);(conv=>whnf);repeat((refine aF ?_);(refine rg ?_);(conv=>whnf)))) | (refine Ac rfl (.cons .tmp .nil) ?_ rfl) | (refine Ag (fewS n) F114 rfl rfl rfl rfl rfl ?_; ((refine rg ?_);(conv=>whnf))) | (refine Ag (V5 n.domains (Ia n) 116 [Ap n] [] rfl (fun i h=>⟨⟨_,_,F116⟩,bareS n i n.domains[i] hn.domains⟩) hn.domains) F115 rfl rfl rfl rfl rfl ?_; ((refine rg ?_);(conv=>whnf))) | (refine Ag (V5 n.domains (M5 n) 117 [Ap n] [] rfl (fun i h=>⟨⟨_,_,F117⟩,peersS n i n.domains[i] hn (hn.peers _ (List.getElem_mem _)) (Lr ‹_› h)⟩) hn.domains) F115 rfl rfl rfl rfl rfl ?_; ((refine rg ?_);(conv=>whnf))) | (refine Ag (Alv n.ports (Em n) 119 [Ap n] [] rfl (fun i h=>⟨⟨_,_,F119⟩,Ahh n i n.ports[i] hn (hn.tagged _ (List.getElem_mem _))⟩) hn.ports) F118 rfl rfl rfl rfl rfl ?_; ((refine rg ?_);(conv=>whnf))) | (refine Ag (Alw n.links (J6 n) 121 [Ap n] [] rfl (fun i h=>⟨⟨_,_,F121⟩,Ahi n i n.links[i]⟩) hn.links) F120 rfl rfl rfl rfl rfl ?_; ((refine rg ?_);(conv=>whnf))) | (refine Ag (Afg n.statics (fun _=>E9 n) 123 [Ap n] [] rfl (fun i h=>⟨⟨_,_,F123⟩,Ab0 n i n.statics[i] hn⟩) hn.statics) F122 rfl rfl rfl rfl rfl ?_; ((refine rg ?_);(conv=>whnf))) | (refine Ag (Aif n.floods (fun _=>K0 n) 125 [] [.ref 8 (Ap n) 0] rfl (fun i h=>⟨⟨_,_,F125⟩,right1 n i n.floods[i]⟩) hn.floods) F124 rfl rfl rfl rfl rfl ?_; ((refine rg ?_);(conv=>whnf))) | (refine Ag (Aou n.vrfs (fun _=>Y1 n) 128 [] [.ref 8 (Ap n) 0] rfl (fun i h=>⟨⟨_,_,F128⟩,right2 n i n.vrfs[i] (hn.imports _ (List.getElem_mem _)) (hn.exports _ (List.getElem_mem _))⟩) hn.vrfs) F127 rfl rfl rfl rfl rfl ?_; ((refine rg ?_);(conv=>whnf))) | (refine Ag (Aov n.irbs (U5 n) 131 [Ap n] [] rfl (fun i h=>⟨⟨_,_,F131⟩,Ak5 n i n.irbs[i]⟩) hn.irbs) F130 rfl rfl rfl rfl rfl ?_; ((refine rg ?_);(conv=>whnf)))))
 all_goals (refine congrArg Ad ?_)
 all_goals (clear hF; simp_all [Ah])
theorem Aod {n:Net} (h:Ah n = true) {i:Nat} (hi:i < n.ports.length):Em n i n.ports[i] = true:=by
 simp only [Ah,Bool.and_eq_true] at h
 exact allB_iff.1 h.1.1.1.1.1.2 i hi
theorem e_dom {n:Net} (h:Ah n = true) {i:Nat} (hi:i < n.domains.length):Ia n i n.domains[i] = true:=by
 simp only [Ah,Bool.and_eq_true] at h
 exact allB_iff.1 h.1.1.1.1.1.1.1.2 i hi
theorem Ae3 {n:Net} (h:Ah n = true) {i:Nat} (hi:i < n.domains.length) :
  (0 ≤ n.domains[i].dev ∧ n.domains[i].dev.toNat < n.devices.length) ∧ (1 ≤ n.domains[i].vlan ∧ n.domains[i].vlan ≤ 4094) ∧ (0 ≤ n.domains[i].vni ∧ n.domains[i].vni ≤ 16777215) ∧ (n.domains[i].irb = -1 ∨ 0 ≤ n.domains[i].irb ∧ n.domains[i].irb.toNat < n.irbs.length):=by
 have:=e_dom h hi
 simp only [Ia,Am,Bool.and_eq_true,Bool.or_eq_true,decide_eq_true_eq,beq_iff_eq] at this
 omega
def Ee (p:Nat → Bool) (j:Nat):List Int:=((List.range j).filter p).map Int.ofNat
theorem Mb (p:Nat → Bool) (j:Nat):Ee p (j + 1) = if p j = true then Ee p j ++ [(j:Int)] else Ee p j:=by
 rw [Ee,List.range_succ,List.filter_append,List.map_append]
 split
 ·rename_i h
  rw [List.filter_cons_of_pos (by exact h),List.filter_nil]; rfl
 ·rename_i h
  rw [List.filter_cons_of_neg (by exact h),List.filter_nil,List.map_nil,List.append_nil]; rfl
theorem Ea (p:Nat → Bool) (j:Nat):(Ee p j).length ≤ j:=by
 have:=List.length_filter_le p (List.range j)
 simpa [Ee] using this
theorem filtI_mem {p:Nat → Bool} {j:Nat} {x:Int}:x ∈ Ee p j ↔ 0 ≤ x ∧ x < j ∧ p x.toNat = true:=by
 simp only [Ee,List.mem_map,List.mem_filter,List.mem_range]
 constructor
 ·rintro ⟨i,h1,rfl⟩
  exact ⟨Int.natCast_nonneg i,by simp; omega,h1.2⟩
 ·rintro ⟨h1,h2,h3⟩
  exact ⟨x.toNat,⟨by omega,h3⟩,Int.toNat_of_nonneg h1⟩
def I1 (n:Net) (d:Domain) (i:Nat):Bool:=(nth n.ports i).dev == d.dev && Hy (nth n.ports i) d.vlan
def Az (n:Net) (i:Int):List Int:=Ee (I1 n (nth n.domains i)) n.ports.length
def Cd (n:Net) (i:Int):List Int:=if (0 ≤ i ∧ i < n.domains.length) ∧ Ah n = true then Az n i else []
theorem Hx (n:Net) (hn:n.Fin) (i:Int):Aq (Cd n i):=by
 have:=hn.ports
 unfold Aq at this ⊢
 unfold Cd
 split
 ·have:=Ea (I1 n (nth n.domains i)) n.ports.length
  unfold Az
  omega
 ·simp
theorem Za (n:Net) (hn:n.Fin) (i:Int):Sy.Spec Tryz.prog 288 [Ap n,Aa i] [] (.sl 1 Aa (Cd n i)) []:=Ab Γ hm 100 F288 Tryz.ntmps288 rfl fun F hF=>by
 have hr:=B4 n hn
 have hpl:=Ip 6 A0 n.domains i
 have hsp:=hn.ports
 unfold Aq at hsp
 conv=>whnf
 refine Ag hr F67 E E E E E ?_
 cases hb:Ah n
 ·rw [Cd,if_neg (by simp [hb])]
  (refine rg ?_;(conv=>whnf);refine aT ?_;refine rg ?_;(conv=>whnf);refine aT ?_;refine rg ?_;conv=>whnf)
  refine An 4 1 Aa E ?_
  refine rg ?_;conv=>whnf
  exact Ac E (.cons .tmp .nil) E E
 (refine rg ?_;(conv=>whnf);refine aF ?_;refine rg ?_;conv=>whnf)
 refine Ag hpl F197 E E E E E ?_
 by_cases hi:0 ≤ i ∧ i < n.domains.length
 rotate_left
 ·have h0:Am i n.domains.length = false:=by simp only [Am,Bool.and_eq_false_iff,decide_eq_false_iff_not]; omega
  rw [Cd,if_neg (by simp [hb,hi]),h0]
  (refine rg ?_;(conv=>whnf);refine aT ?_;refine rg ?_;conv=>whnf)
  refine An 4 1 Aa E ?_
  refine rg ?_;conv=>whnf
  exact Ac E (.cons .tmp .nil) E E
 have h0:Am i n.domains.length = true:=by simp only [Am,Bool.and_eq_true,decide_eq_true_eq]; exact hi
 rw [Cd,if_pos ⟨hi,hb⟩,h0]
 have hk:i.toNat < n.domains.length:=by omega
 have hf:=Ae3 hb hk
 have e1:nth n.domains i = n.domains[i.toNat]:=Ao hk
 rw [Az,e1]
 obtain ⟨d,hd⟩:∃ d,n.domains[i.toNat] = d:=⟨_,rfl⟩
 rw [hd] at hf ⊢
 refine Bf 2 8 (Ap n) E E E ?_
 (refine rg ?_;(conv=>whnf);refine aF ?_;refine rg ?_;conv=>whnf)
 refine Bt 5 1000 1 Aa E E ?_
 refine Au n.ports.length (fun j=>[(1,Aa i),(2,.ref 8 (Ap n) 0),(5,.osl 1000),(19,.sl 7 Bh n.ports),(20,Aa n.ports.length),(21,Aa j)]) (fun j=>[(1000,.row 1 Aa (Ee (I1 n d) j))]) []
  ⟨⟨rfl,rfl,rfl,rfl,rfl,rfl,rfl,rfl,rfl,rfl,rfl,rfl,trivial⟩,⟨.inl rfl,rfl,trivial⟩,rfl,rfl⟩ ?_
 intro j hj
 refine rg ?_;conv=>whnf
 refine ⟨fun h=>?_,fun h=>?_⟩
 ·have hlt:j < n.ports.length:=by simpa using h
  have hsucc:=Mb (I1 n d) j
  have hfl:=Ea (I1 n d) j
  have hin:I1 n d j = ((n.ports[j]).dev == d.dev && Hy n.ports[j] d.vlan):=by
   rw [I1,Ao (l:=n.ports) (i:=(j:Int)) (by simpa using hlt)]; rfl
  rw [hin] at hsucc
  have e1:n.ports[(j:Int).toNat]'(by omega) = n.ports[j]:=rfl
  have hms:=Abt n.ports[j] d.vlan (hn.tagged _ (List.getElem_mem _))
  obtain ⟨p,hp⟩:∃ p,n.ports[j] = p:=⟨_,rfl⟩
  rw [hp] at e1 hsucc hms
  obtain ⟨u,hu⟩:∃ u,Ee (I1 n d) j = u:=⟨_,rfl⟩
  rw [hu] at hsucc hfl ⊢
  refine rg ?_;conv=>whnf
  refine ⟨E,by omega,by omega,?_⟩
  rw [e1]
  conv=>whnf
  refine ⟨E,hi.1,hk,?_⟩
  rw [hd]
  conv=>whnf
  refine ⟨fun h2=>?_,fun h2=>?_⟩
  ·have h3:∃ k:Nat,(k:Int) = i:=⟨i.toNat,by omega⟩
   rw [h2,Bool.true_and] at hsucc
   refine rd (by kernel_rfl) ?_;conv=>whnf
   refine ⟨E,hi.1,hk,?_⟩
   rw [hd]
   conv=>whnf
   refine At hms F198 E E E (by kernel_rfl) E ?_
   refine rd (by kernel_rfl) ?_;conv=>whnf
   refine ⟨(by kernel_rfl),?_⟩
   conv=>whnf
   refine ⟨fun h4=>?_,fun h4=>?_⟩
   ·rw [if_pos h4] at hsucc
    refine rg ?_;conv=>whnf
    refine Ai (Af Γ.toTy 48 E E E E E (.row E) (.lit (e:=Aa) (l:=[(j:Int)]) E E) (by simp) (by simp; omega) (by simp; omega)) E E ?_
    refine rg ?_;conv=>whnf
    refine ⟨by unfold I64; omega,?_⟩
    conv=>whnf
    exact Ar [(1000,48)] hlt ⟨⟨E,E,E,E,E,E,E,E,E,E,E,E,Y⟩,⟨.inl (congrArg (Ob.row 1 Aa) hsucc),E,Y⟩,E,E⟩
   ·rw [if_neg (by simp [h4])] at hsucc
    refine rg ?_;conv=>whnf
    refine ⟨by unfold I64; omega,?_⟩
    conv=>whnf
    exact Ar [] hlt ⟨⟨E,E,E,E,E,E,E,E,E,E,E,E,Y⟩,⟨.inl (congrArg (Ob.row 1 Aa) hsucc),E,Y⟩,E,E⟩
  ·rw [if_neg (by simp [h2])] at hsucc
   refine rd (by kernel_rfl) ?_;conv=>whnf
   refine ⟨(by kernel_rfl),?_⟩
   ((conv=>whnf);refine aF ?_;refine rg ?_;conv=>whnf)
   refine ⟨by unfold I64; omega,?_⟩
   conv=>whnf
   exact Ar [] hlt ⟨⟨E,E,E,E,E,E,E,E,E,E,E,E,Y⟩,⟨.inl (congrArg (Ob.row 1 Aa) hsucc),E,Y⟩,E,E⟩
 ·have:j = n.ports.length:=by have:=of_decide_eq_false h; omega
  subst this
  refine As 1000 E ?_
  refine rg ?_;conv=>whnf
  exact Ac E (.cons .tmp .nil) E E
theorem Ab5 (n:Net) (hn:n.Fin) (l:List Domain) (p:Domain → Bool) (f:FuncId) (first cap:List SV) (hc:(SV.clo (.func f) first cap).inn [] = true) (hf:∀ x ∈ l,Jb Tryz.prog f (first ++ [A0 x] ++ cap) (Ad (p x))) (hl:Aq l) :
  Sy.Spec Tryz.prog 238 [Ap n,.sl 6 A0 l,.clo (.func f) first cap] [] (Aa (if Ah n = true then C7 p l else -1)) []:=Ab Γ hm 100 F238 Tryz.ntmps238 rfl fun F hF=>by
 have hr:=B4 n hn
 have q:=Hz l p f first cap hc hf hl
 conv=>whnf
 refine Ag hr F67 E E E E E ?_
 cases hb:Ah n
 ·rw [if_neg (by simp)]
  (refine rg ?_;(conv=>whnf);refine aT ?_;refine rg ?_;conv=>whnf)
  exact Ac E (.cons .tmp .nil) E E
 rw [if_pos rfl]
 (refine rg ?_;(conv=>whnf);refine aF ?_;refine rg ?_;conv=>whnf)
 refine Ag q F262 E E (by simp only [Cj,hc,Bool.and_true]; rfl) E E ?_
 refine rg ?_;conv=>whnf
 exact Ac E (.cons .tmp .nil) E E
theorem Abq (dev vlan:Int) (d:Domain):Sy.Spec Tryz.prog 239 [A0 d,.ref 1 (Aa dev) 0,.ref 1 (Aa vlan) 0] [] (Ad (d.dev == dev && d.vlan == vlan)) []:=Ab Γ hm 100 F239 Tryz.ntmps239 rfl fun F hF=>by
 conv=>whnf
 (repeat' (first | (refine ⟨fun h=>?_,fun h=>?_⟩ <;> (repeat (first | simp only [beq_iff_eq] at h | simp only [beq_eq_false_iff_ne] at h)) <;> ((refine rg ?_);(conv=>whnf))) | (refine Ac rfl (.cons .tmp .nil) ?_ rfl)))
 all_goals (refine congrArg Ad ?_)
 all_goals simp_all
def Kr (n:Net) (dev vlan:Int):Int:=if Ah n = true then Yu n dev vlan else -1
theorem Tm (n:Net) (hn:n.Fin) (dev vlan:Int):Sy.Spec Tryz.prog 169 [Ap n,Aa dev,Aa vlan] [] (Aa (Kr n dev vlan)) []:=Ab Γ hm 100 F169 Tryz.ntmps169 rfl fun F hF=>by
 have q:=Ab5 n hn n.domains (fun d=>d.dev == dev && d.vlan == vlan) 239 [] [.ref 1 (Aa dev) 0,.ref 1 (Aa vlan) 0] rfl (fun d _=>⟨⟨_,_,F239⟩,Abq dev vlan d⟩) hn.domains
 conv=>whnf
 refine Bf 4 1 (Aa dev) E E E ?_
 refine Bf 5 1 (Aa vlan) E E E ?_
 refine Ag q F238 E E E E E ?_
 refine rg ?_;conv=>whnf
 exact Ac E (.cons .tmp .nil) E E
def D5 (n:Net) (i:Int):Int :=
 if (0 ≤ i ∧ i < n.ports.length) ∧ 0 ≤ (nth n.ports i).link ∧ Ah n = true then
  (if (nth n.links (nth n.ports i).link).a = i then (nth n.links (nth n.ports i).link).b else (nth n.links (nth n.ports i).link).a) else -1
theorem Kq {n:Net} (h:Ah n = true) {i:Nat} (hi:i < n.ports.length) (hl:0 ≤ n.ports[i].link) :
  n.ports[i].link.toNat < n.links.length ∧ ((nth n.links n.ports[i].link).a = i ∨ (nth n.links n.ports[i].link).b = i):=by
 have:=Aod h hi
 simp only [Em,Am,Bool.and_eq_true,Bool.or_eq_true,decide_eq_true_eq,beq_iff_eq] at this
 rcases this.2 with h1 | h1
 ·omega
 ·exact ⟨by omega,h1.2⟩
theorem Abw (n:Net) (hn:n.Fin) (i:Int):Sy.Spec Tryz.prog 258 [Ap n,Aa i] [] (Aa (D5 n i)) []:=Ab Γ hm 100 F258 Tryz.ntmps258 rfl fun F hF=>by
 have hr:=B4 n hn
 conv=>whnf
 refine ⟨fun h=>?_,fun h=>?_⟩
 ·have h1:i < 0:=of_decide_eq_true h
  rw [D5,if_neg (by omega)]
  (refine rg ?_;(conv=>whnf);refine aT ?_;refine rg ?_;(conv=>whnf);refine aT ?_;refine rg ?_;(conv=>whnf);refine aT ?_;refine rg ?_;conv=>whnf)
  exact Ac E (.cons .tmp .nil) E E
 have h1:0 ≤ i:=by have:=of_decide_eq_false h; omega
 refine rg ?_;conv=>whnf
 refine ⟨fun h=>?_,fun h=>?_⟩
 ·have h2:n.ports.length ≤ i:=of_decide_eq_true h
  rw [D5,if_neg (by omega)]
  (refine rg ?_;(conv=>whnf);refine aT ?_;refine rg ?_;(conv=>whnf);refine aT ?_;refine rg ?_;conv=>whnf)
  exact Ac E (.cons .tmp .nil) E E
 have h2:i < n.ports.length:=by have:=of_decide_eq_false h; omega
 have hk:i.toNat < n.ports.length:=by omega
 have e1:nth n.ports i = n.ports[i.toNat]:=Ao hk
 have hlk:=fun (hb:Ah n = true)=>Kq hb hk
 rw [D5,e1]
 obtain ⟨p,hp⟩:∃ p,n.ports[i.toNat] = p:=⟨_,rfl⟩
 rw [hp] at hlk ⊢
 refine rg ?_;conv=>whnf
 refine ⟨E,h1,hk,?_⟩
 rw [hp]
 conv=>whnf
 refine ⟨fun h=>?_,fun h=>?_⟩
 ·have h3:p.link < 0:=of_decide_eq_true h
  rw [if_neg (by omega)]
  (refine rg ?_;(conv=>whnf);refine aT ?_;refine rg ?_;conv=>whnf)
  exact Ac E (.cons .tmp .nil) E E
 have h3:0 ≤ p.link:=by have:=of_decide_eq_false h; omega
 refine rg ?_;conv=>whnf
 refine Ag hr F67 E E E E E ?_
 cases hb:Ah n
 ·rw [if_neg (by simp)]
  (refine rg ?_;(conv=>whnf);refine aT ?_;refine rg ?_;conv=>whnf)
  exact Ac E (.cons .tmp .nil) E E
 rw [if_pos ⟨⟨h1,h2⟩,h3,rfl⟩]
 have hq:=hlk hb h3
 have e2:nth n.links p.link = n.links[p.link.toNat]:=Ao hq.1
 rw [e2]
 obtain ⟨l,hl⟩:∃ l,n.links[p.link.toNat]'hq.1 = l:=⟨_,rfl⟩
 rw [hl]
 (refine rg ?_;(conv=>whnf);refine aF ?_;refine rg ?_;conv=>whnf)
 refine ⟨E,h1,hk,?_⟩
 rw [hp]
 conv=>whnf
 refine ⟨E,h3,hq.1,?_⟩
 rw [hl]
 conv=>whnf
 refine ⟨(by kernel_rfl),?_⟩
 conv=>whnf
 refine ⟨fun h=>?_,fun h=>?_⟩
 ·have h4:l.a = i:=by simpa using h
  rw [if_pos h4]
  refine rg ?_;conv=>whnf
  exact Ac E (.cons .tmp .nil) E E
 ·have h4:¬ l.a = i:=by simpa using h
  rw [if_neg h4]
  refine rg ?_;conv=>whnf
  exact Ac E (.cons .tmp .nil) E E
theorem J8 (l:List Int) (p:Int → Bool) (f:FuncId) (first cap:List SV) (hc:(SV.clo (.func f) first cap).inn [] = true) (hf:∀ x ∈ l,Jb Tryz.prog f (first ++ [Aa x] ++ cap) (Ad (p x))) (hl:Aq l) :
  Sy.Spec Tryz.prog 321 [.sl 1 Aa l,.clo (.func f) first cap] [] (Aa (C7 p l)) []:=Ab Γ hm 100 F321 Tryz.ntmps321 rfl fun F hF=>by
 unfold Aq at hl
 have hin:∀ x:Int,Cj [] (first ++ [Aa x] ++ cap) = true:=fun x=>Dd hc rfl
 conv=>whnf
 refine A2 l.length (fun j=>Da (fun _ x=>!(p x)) l j) (fun j=>[(0,.sl 1 Aa l),(1,.clo (.func f) first cap),(7,Aa l.length),(8,Aa j)]) (fun _=>[]) [] (A5 _ _) ⟨⟨E,E,Bm _,hc,E,E,E,E,Y⟩,Y,E,E⟩ ?_
 intro j hj hI
 refine rg ?_;conv=>whnf
 refine ⟨fun h=>?_,fun h=>?_⟩
 ·have h:=of_decide_eq_true h
  have hj2:j < l.length:=by omega
  refine rg ?_;conv=>whnf
  refine ⟨E,by omega,by omega,?_⟩
  conv=>whnf
  refine Ep (hf l[j] (List.getElem_mem hj2)) E E E (by simp only [hin]; rfl) E E ?_
  refine rg ?_;conv=>whnf
  refine ⟨fun h2=>?_,fun h2=>?_⟩
  ·refine rg ?_;conv=>whnf
   refine Ac E (.cons .tmp .nil) (congrArg Aa ?_) E
   exact Ct hj2 (fun i hi hij=>by simpa using hI i hi hij) h2
  ·refine rg ?_;conv=>whnf
   refine ⟨by unfold I64; omega,?_⟩
   conv=>whnf
   exact Ax [] hI hj2 (A3 hI hj2 (by simp [h2])) ⟨⟨E,E,Bm _,hc,E,E,E,E,Y⟩,Y,E,E⟩
 ·have h:=of_decide_eq_false h
  refine rg ?_;conv=>whnf
  refine Ac E (.cons .tmp .nil) (congrArg Aa ?_) E
  exact C3 (fun i hi=>by simpa using hI i hi (by omega))
theorem Uc (l:List Int) (p:Int → Bool) (f:FuncId) (first cap:List SV) (hc:(SV.clo (.func f) first cap).inn [] = true) (hf:∀ x ∈ l,Jb Tryz.prog f (first ++ [Aa x] ++ cap) (Ad (p x))) (hl:Aq l) :
  Sy.Spec Tryz.prog 345 [.sl 1 Aa l,.clo (.func f) first cap] [] (Ad (decide (0 ≤ C7 p l))) []:=Ab Γ hm 100 F345 Tryz.ntmps345 rfl fun F hF=>by
 have h0:Cj [] [.sl 1 Aa l,.clo (.func f) first cap] = true:=by simp only [Cj,hc]; rfl
 conv=>whnf
 refine Ag (J8 l p f first cap hc hf hl) F321 E E (by simp only [h0]; rfl) E E ?_
 refine rg ?_;conv=>whnf
 exact Ac E (.cons .tmp .nil) E E
theorem Ao4 (v:Vrf) (hv:Aq v.imports) (t:Int):Sy.Spec Tryz.prog 344 [Aa t,.ref 5 (Cz v) 0] [] (Ad (inB v.imports t)) []:=Ab Γ hm 100 F344 Tryz.ntmps344 rfl fun F hF=>by
 have q:=Dv v.imports t hv
 conv=>whnf
 refine Ag q F86 E E E E E ?_
 refine rg ?_;conv=>whnf
 exact Ac E (.cons .tmp .nil) E E
def leaksB (n:Net) (i k:Int):Bool:=i == k || (nth n.vrfs i).dev == (nth n.vrfs k).dev && decide (0 ≤ C7 (inB (nth n.vrfs k).imports) (nth n.vrfs i).exports)
theorem Afl (n:Net) (hn:n.Fin) (hb:Ah n = true) (i k:Int) (hi:0 ≤ i ∧ i.toNat < n.vrfs.length) (hk:0 ≤ k ∧ k.toNat < n.vrfs.length) :
  Sy.Spec Tryz.prog 332 [Ap n,Aa i,Aa k] [] (Ad (leaksB n i k)) []:=Ab Γ hm 100 F332 Tryz.ntmps332 rfl fun F hF=>by
 have hr:=B4 n hn
 rw [hb] at hr
 have him:=hn.imports _ (List.getElem_mem hk.2)
 have hex:=hn.exports _ (List.getElem_mem hi.2)
 rw [leaksB,Ao hi.2,Ao hk.2]
 obtain ⟨a,ha⟩:∃ a,n.vrfs[i.toNat]'hi.2 = a:=⟨_,rfl⟩
 obtain ⟨b,hbb⟩:∃ b,n.vrfs[k.toNat]'hk.2 = b:=⟨_,rfl⟩
 rw [ha] at hex ⊢
 rw [hbb] at him ⊢
 have q:=Uc a.exports (inB b.imports) 344 [] [.ref 5 (Cz b) 0] rfl (fun t _=>⟨⟨_,_,F344⟩,Ao4 b him t⟩) hex
 conv=>whnf
 refine ⟨fun h=>absurd (of_decide_eq_true h) (by omega),fun _=>?_⟩
 refine rg ?_;conv=>whnf
 refine ⟨fun h=>absurd (of_decide_eq_true h) (by omega),fun _=>?_⟩
 refine rg ?_;conv=>whnf
 refine ⟨fun h=>absurd (of_decide_eq_true h) (by omega),fun _=>?_⟩
 refine rg ?_;conv=>whnf
 refine ⟨fun h=>absurd (of_decide_eq_true h) (by omega),fun _=>?_⟩
 refine rg ?_;conv=>whnf
 refine Ag hr F67 E E E E E ?_
 (refine rg ?_;(conv=>whnf);refine aF ?_;refine rg ?_;conv=>whnf)
 refine ⟨E,hi.1,hi.2,?_⟩
 rw [ha]
 conv=>whnf
 refine ⟨E,hk.1,hk.2,?_⟩
 rw [hbb]
 conv=>whnf
 refine ⟨(by kernel_rfl),?_⟩
 conv=>whnf
 refine ⟨fun h=>?_,fun h=>?_⟩
 ·rw [h,Bool.true_or]
  refine rg ?_;conv=>whnf
  exact Ac E (.cons .tmp .nil) E E
 rw [h,Bool.false_or]
 refine rg ?_;conv=>whnf
 refine ⟨fun h=>?_,fun h=>?_⟩
 ·rw [h,Bool.true_and]
  refine Bf 8 5 (Cz b) E E E ?_
  refine rg ?_;conv=>whnf
  refine Ag q F345 E E E E E ?_
  refine rg ?_;conv=>whnf
  exact Ac E (.cons .tmp .nil) E E
 ·rw [h,Bool.false_and]
  refine rg ?_;conv=>whnf
  exact Ac E (.cons .tmp .nil) E E
def Dt (n:Net) (i:Int):Int:=(nth n.domains (nth n.irbs i).domain).dev
theorem Aqu {n:Net} (h:Ah n = true) {i:Nat} (hi:i < n.irbs.length):U5 n i n.irbs[i] = true:=by
 simp only [Ah,Bool.and_eq_true] at h
 exact allB_iff.1 h.2 i hi
theorem C2 {n:Net} (h:Ah n = true) {i:Nat} (hi:i < n.irbs.length) :
  (0 ≤ n.irbs[i].domain ∧ n.irbs[i].domain.toNat < n.domains.length) ∧ (0 ≤ n.irbs[i].vrf ∧ n.irbs[i].vrf.toNat < n.vrfs.length) ∧ (0 ≤ n.irbs[i].bits ∧ n.irbs[i].bits ≤ 32):=by
 have:=Aqu h hi
 simp only [U5,Am,Bool.and_eq_true,decide_eq_true_eq] at this
 omega
theorem Jg (n:Net) (hb:Ah n = true) (i:Int) (hi:0 ≤ i ∧ i.toNat < n.irbs.length):Sy.Spec Tryz.prog 297 [Ap n,Aa i] [] (Aa (Dt n i)) []:=Ab Γ hm 100 F297 Tryz.ntmps297 rfl fun F hF=>by
 have hf:=(C2 hb hi.2).1
 rw [Dt,Ao hi.2]
 obtain ⟨x,hx⟩:∃ x,n.irbs[i.toNat]'hi.2 = x:=⟨_,rfl⟩
 rw [hx] at hf ⊢
 rw [Ao hf.2]
 obtain ⟨d,hd⟩:∃ d,n.domains[x.domain.toNat]'hf.2 = d:=⟨_,rfl⟩
 rw [hd]
 conv=>whnf
 refine ⟨E,hi.1,hi.2,?_⟩
 rw [hx]
 conv=>whnf
 refine ⟨E,hf.1,hf.2,?_⟩
 rw [hd]
 conv=>whnf
 refine ⟨(by kernel_rfl),?_⟩
 conv=>whnf
 exact Ac E (.cons .tmp .nil) E E
def Zw (n:Net) (i k:Int):Bool:=Dt n i == Dt n k && leaksB n (nth n.irbs k).vrf (nth n.irbs i).vrf
theorem Afv (n:Net) (hn:n.Fin) (hb:Ah n = true) (i k:Int) (hi:0 ≤ i ∧ i.toNat < n.irbs.length) (hk:0 ≤ k ∧ k.toNat < n.irbs.length) :
  Sy.Spec Tryz.prog 299 [Ap n,Aa i,Aa k] [] (Ad (Zw n i k)) []:=Ab Γ hm 100 F299 Tryz.ntmps299 rfl fun F hF=>by
 have q1:=Jg n hb i hi
 have q2:=Jg n hb k hk
 have f1:=(C2 hb hi.2).2.1
 have f2:=(C2 hb hk.2).2.1
 have q3:=Afl n hn hb _ _ f2 f1
 rw [Zw,Ao hi.2,Ao hk.2]
 obtain ⟨x,hx⟩:∃ x,n.irbs[i.toNat]'hi.2 = x:=⟨_,rfl⟩
 obtain ⟨y,hy⟩:∃ y,n.irbs[k.toNat]'hk.2 = y:=⟨_,rfl⟩
 rw [hx,hy] at q3
 rw [hx,hy]
 generalize Dt n i = di at *
 generalize Dt n k = dk at *
 conv=>whnf
 refine At q1 F297 E E E (by kernel_rfl) E ?_
 refine rd (by kernel_rfl) ?_;conv=>whnf
 refine At q2 F297 E E E (by kernel_rfl) E ?_
 refine rd (by kernel_rfl) ?_;conv=>whnf
 refine ⟨fun h=>?_,fun h=>?_⟩
 ·rw [h,Bool.true_and]
  refine rd (by kernel_rfl) ?_;conv=>whnf
  refine ⟨E,hk.1,hk.2,?_⟩
  rw [hy]
  conv=>whnf
  refine ⟨E,hi.1,hi.2,?_⟩
  rw [hx]
  conv=>whnf
  refine At q3 F332 E E E (by kernel_rfl) E ?_
  refine rd (by kernel_rfl) ?_;conv=>whnf
  refine ⟨(by kernel_rfl),?_⟩
  conv=>whnf
  exact Ac E (.cons .tmp .nil) E E
 ·rw [h,Bool.false_and]
  refine rd (by kernel_rfl) ?_;conv=>whnf
  refine ⟨(by kernel_rfl),?_⟩
  conv=>whnf
  exact Ac E (.cons .tmp .nil) E E
abbrev Ady (a b:Int):SV:=.agg [B0 a,Aa b]
theorem Ako (a b:Int) (h:0 ≤ b ∧ b ≤ 32):Sy.Spec Tryz.prog 330 [Ady a b] [] (Ad true) []:=Ab Γ hm 100 F330 Tryz.ntmps330 rfl fun F hF=>by
 conv=>whnf
 refine ⟨fun _=>?_,fun h2=>absurd (of_decide_eq_false h2) (by omega)⟩
 refine rg ?_;conv=>whnf
 refine Ac E (.cons .tmp .nil) (congrArg Ad ?_) E
 simp; omega
def Adj (b:Int):Int:=IntKind.u32.wrap (IntKind.u32.wrap (1 * 2 ^ (min (32 - b).toNat IntKind.u32.bits)) - 1)
theorem Am4 (a b:Int) (h:0 ≤ b ∧ b ≤ 32):Sy.Spec Tryz.prog 331 [Ady a b] [] (B0 (Adj b)) []:=Ab Γ hm 100 F331 Tryz.ntmps331 rfl fun F hF=>by
 conv=>whnf
 refine ⟨by unfold I64; omega,?_⟩
 conv=>whnf
 refine ⟨by omega,?_⟩
 conv=>whnf
 exact Ac E (.cons .tmp .nil) E E
def Ze (a b x:Int):Bool:=bits .andNot .u32 (bits .xor .u32 a x) (Adj b) == 0
theorem Aow (a b x:Int) (h:0 ≤ b ∧ b ≤ 32):Sy.Spec Tryz.prog 298 [Ady a b,B0 x] [] (Ad (Ze a b x)) []:=Ab Γ hm 100 F298 Tryz.ntmps298 rfl fun F hF=>by
 have q1:=Ako a b h
 have q2:=Am4 a b h
 rw [Ze]
 generalize Adj b = r at *
 conv=>whnf
 refine At q1 F330 E E E (by kernel_rfl) E ?_
 (refine rd (by kernel_rfl) ?_;(conv=>whnf);refine aT ?_;refine rd (by kernel_rfl) ?_;conv=>whnf)
 refine At q2 F331 E E E (by kernel_rfl) E ?_
 refine rd (by kernel_rfl) ?_;conv=>whnf
 refine ⟨(by kernel_rfl),?_⟩
 conv=>whnf
 exact Ac E (.cons .tmp .nil) E E
def Qk (c:Int → Int → Int) (l:List Int) (j:Nat):Int:=((l.drop 1).take j).foldl (fun m x=>if 0 < c x m then x else m) (nth l 0)
theorem U1 (c:Int → Int → Int) (l:List Int) (j:Nat) (h:j + 1 < l.length):Qk c l (j + 1) = if 0 < c l[j + 1] (Qk c l j) then l[j + 1] else Qk c l j:=by
 have hl:j < (l.drop 1).length:=by rw [List.length_drop]; omega
 rw [Qk,List.take_succ_eq_append_getElem hl,List.foldl_append]
 have e:(l.drop 1)[j] = l[j + 1]:=by rw [List.getElem_drop]; congr 1; omega
 simp only [List.foldl_cons,List.foldl_nil,e]
 rfl
theorem To (c:Int → Int → Int) (l:List Int) (h:0 < l.length):∀ j,j + 1 ≤ l.length → Qk c l j ∈ l
 | 0,_=>by
  rw [Qk,List.take_zero,List.foldl_nil,Ao (l:=l) (i:=0) (by simpa using h)]
  exact List.getElem_mem _
 | j + 1,hj=>by
  rw [U1 c l j (by omega)]
  split
  ·exact List.getElem_mem _
  ·exact To c l h j (by omega)
theorem Anj (l:List Int) (c:Int → Int → Int) (f:FuncId) (first cap:List SV) (hc:(SV.clo (.func f) first cap).inn [] = true) (h0:0 < l.length) (hl:Aq l)
  (hf:∀ x ∈ l,∀ y ∈ l,Jb Tryz.prog f (first ++ [Aa x,Aa y] ++ cap) (Aa (c x y))) :
  Sy.Spec Tryz.prog 301 [.sl 1 Aa l,.clo (.func f) first cap] [] (Aa (Qk c l (l.length - 1))) []:=Ab Γ hm 100 F301 Tryz.ntmps301 rfl fun F hF=>by
 unfold Aq at hl
 have hin:∀ x y:Int,Cj [] (first ++ [Aa x,Aa y] ++ cap) = true:=fun x y=>Dd hc rfl
 have hmem:=To c l h0
 have hsucc:=U1 c l
 have hz:Qk c l 0 = l[0]:=by rw [Qk,List.take_zero,List.foldl_nil,Ao (l:=l) (i:=0) (by simpa using h0)]; rfl
 generalize Qk c l = m at *
 conv=>whnf
 refine ⟨fun h=>absurd (of_decide_eq_true h) (by omega),fun _=>?_⟩
 refine rg ?_;conv=>whnf
 refine ⟨E,by omega,by simpa using h0,?_⟩
 conv=>whnf
 refine Au (l.length - 1) (fun j=>[(0,.sl 1 Aa l),(1,.clo (.func f) first cap),(5,Aa (m j)),(6,Aa ((j:Int) + 1))]) (fun _=>[]) []
  ⟨⟨rfl,rfl,Bm _,hc,congrArg Aa hz,rfl,rfl,rfl,trivial⟩,trivial,rfl,rfl⟩ ?_
 intro j hj
 have hmj:=hmem j (by omega)
 have hsj:=hsucc j
 refine rg ?_;conv=>whnf
 refine ⟨fun h=>?_,fun h=>?_⟩
 ·have hlt:j + 1 < l.length:=by have:=of_decide_eq_true h; omega
  have hsj:=hsj hlt
  have hk:((j:Int) + 1).toNat < l.length:=by omega
  have e1:l[((j:Int) + 1).toNat]'hk = l[j + 1]:=by congr 1
  obtain ⟨x,hx⟩:∃ x,l[j + 1] = x:=⟨_,rfl⟩
  have hxm:x ∈ l:=hx ▸ List.getElem_mem hlt
  rw [hx] at e1 hsj
  refine rg ?_;conv=>whnf
  refine ⟨E,by omega,hk,?_⟩
  rw [e1]
  conv=>whnf
  refine Ep (hf x hxm (m j) hmj) E E E (by simp only [hin]; rfl) E E ?_
  refine rg ?_;conv=>whnf
  refine ⟨fun h2=>?_,fun h2=>?_⟩
  ·rw [if_pos (of_decide_eq_true h2)] at hsj
   refine rg ?_;conv=>whnf
   refine ⟨E,by omega,hk,?_⟩
   rw [e1]
   conv=>whnf
   refine ⟨by unfold I64; omega,?_⟩
   conv=>whnf
   exact Ar [] (by omega) ⟨⟨E,E,Bm _,hc,congrArg Aa hsj,E,congrArg Aa (by omega),E,Y⟩,Y,E,E⟩
  ·rw [if_neg (of_decide_eq_false h2)] at hsj
   refine rg ?_;conv=>whnf
   refine ⟨by unfold I64; omega,?_⟩
   conv=>whnf
   exact Ar [] (by omega) ⟨⟨E,E,Bm _,hc,congrArg Aa hsj,E,congrArg Aa (by omega),E,Y⟩,Y,E,E⟩
 ·have:j = l.length - 1:=by have:=of_decide_eq_false h; omega
  subst this
  refine rg ?_;conv=>whnf
  exact Ac E (.cons .tmp .nil) E E
def Y8 (n:Net) (irb i:Int):Int:=if (nth n.irbs i).vrf = (nth n.irbs irb).vrf then 1 else 0
abbrev InIrbs (n:Net) (i:Int):Prop:=0 ≤ i ∧ i.toNat < n.irbs.length
theorem Aeb (n:Net) (irb i:Int) (hi:InIrbs n i) (hk:InIrbs n irb):Sy.Spec Tryz.prog 300 [Aa i,.ref 8 (Ap n) 0,.ref 1 (Aa irb) 0] [] (Aa (Y8 n irb i)) []:=Ab Γ hm 100 F300 Tryz.ntmps300 rfl fun F hF=>by
 rw [Y8,Ao hi.2,Ao hk.2]
 obtain ⟨x,hx⟩:∃ x,n.irbs[i.toNat]'hi.2 = x:=⟨_,rfl⟩
 obtain ⟨y,hy⟩:∃ y,n.irbs[irb.toNat]'hk.2 = y:=⟨_,rfl⟩
 rw [hx,hy]
 conv=>whnf
 refine ⟨E,hi.1,hi.2,?_⟩
 rw [hx]
 conv=>whnf
 refine ⟨E,hk.1,hk.2,?_⟩
 rw [hy]
 conv=>whnf
 refine ⟨(by kernel_rfl),?_⟩
 conv=>whnf
 refine ⟨fun h=>?_,fun h=>?_⟩
 ·rw [if_pos (by simpa using h)]
  refine rg ?_;conv=>whnf
  exact Ac E (.cons .tmp .nil) E E
 ·rw [if_neg (by simpa using h)]
  refine rg ?_;conv=>whnf
  exact Ac E (.cons .tmp .nil) E E
def cmpR (n:Net) (irb a b:Int):Int:=if (nth n.irbs a).bits ≠ (nth n.irbs b).bits then (nth n.irbs a).bits - (nth n.irbs b).bits else Y8 n irb a - Y8 n irb b
theorem Ais (n:Net) (irb i:Int):0 ≤ Y8 n irb i ∧ Y8 n irb i ≤ 1:=by
 unfold Y8; split <;> omega
theorem Ank (n:Net) (hb:Ah n = true) (irb a b:Int) (hk:InIrbs n irb) (ha:InIrbs n a) (hb2:InIrbs n b) :
  Sy.Spec Tryz.prog 302 [Aa a,Aa b,.ref 8 (Ap n) 0,.ref 1 (.clo (.func 300) [] [.ref 8 (Ap n) 0,.ref 1 (Aa irb) 0]) 0] [] (Aa (cmpR n irb a b)) []:=Ab Γ hm 100 F302 Tryz.ntmps302 rfl fun F hF=>by
 have fa:=(C2 hb ha.2).2.2
 have fb:=(C2 hb hb2.2).2.2
 have q1:=Aeb n irb a ha hk
 have q2:=Aeb n irb b hb2 hk
 have l1:=Ais n irb a
 have l2:=Ais n irb b
 rw [cmpR,Ao ha.2,Ao hb2.2]
 obtain ⟨x,hx⟩:∃ x,n.irbs[a.toNat]'ha.2 = x:=⟨_,rfl⟩
 obtain ⟨y,hy⟩:∃ y,n.irbs[b.toNat]'hb2.2 = y:=⟨_,rfl⟩
 rw [hx] at fa ⊢
 rw [hy] at fb ⊢
 generalize Y8 n irb a = oa at *
 generalize Y8 n irb b = ob at *
 conv=>whnf
 refine ⟨E,ha.1,ha.2,?_⟩
 rw [hx]
 conv=>whnf
 refine ⟨E,hb2.1,hb2.2,?_⟩
 rw [hy]
 conv=>whnf
 refine ⟨(by kernel_rfl),?_⟩
 conv=>whnf
 refine ⟨fun h=>?_,fun h=>?_⟩
 ·rw [if_pos (by simpa using h)]
  refine rg ?_;conv=>whnf
  refine ⟨by unfold I64; omega,?_⟩
  conv=>whnf
  exact Ac E (.cons .tmp .nil) E E
 ·rw [if_neg (by simpa using h)]
  refine rg ?_;conv=>whnf
  refine Ah6 ⟨⟨_,_,F300⟩,q1⟩ E E E E (by kernel_rfl) E ?_
  refine rd (by kernel_rfl) ?_;conv=>whnf
  refine Ah6 ⟨⟨_,_,F300⟩,q2⟩ E E E E (by kernel_rfl) E ?_
  refine rd (by kernel_rfl) ?_;conv=>whnf
  refine ⟨by unfold I64; omega,?_⟩
  conv=>whnf
  refine ⟨(by kernel_rfl),?_⟩
  conv=>whnf
  exact Ac E (.cons .tmp .nil) E E
def Hf (n:Net) (irb dst:Int) (i:Nat):Bool:=Dt n i == Dt n irb && (nth n.irbs i).addr == dst
def Ke (n:Net) (irb dst:Int) (i:Nat):Bool:=Ze (nth n.irbs i).addr (nth n.irbs i).bits dst && Zw n irb i
def K3 (n:Net) (irb dst:Int):List Int:=Ee (Ke n irb dst) n.irbs.length
def lookT (n:Net) (irb dst:Int):Int × Bool :=
 if (List.range n.irbs.length).any (Hf n irb dst) = true then (0,false)
 else if K3 n irb dst = [] then (0,false) else (Qk (cmpR n irb) (K3 n irb dst) ((K3 n irb dst).length - 1),true)
theorem Apy (n:Net) (hn:n.Fin) (hb:Ah n = true) (irb dst:Int) (hk:InIrbs n irb):Sy.Spec Tryz.prog 247 [Ap n,Aa irb,B0 dst] [] (.tup [Aa (lookT n irb dst).1,Ad (lookT n irb dst).2]) []:=Ab Γ hm 100 F247 Tryz.ntmps247 rfl fun F hF=>by
 have hlk:=lookT.eq_1 n irb dst
 generalize lookT n irb dst = r at *
 have hsi:=hn.irbs
 unfold Aq at hsi
 have qk:=Jg n hb irb hk
 conv=>whnf
 refine Bf 3 8 (Ap n) E E E ?_
 refine Bf 4 1 (Aa irb) E E E ?_
 refine Bt 8 1000 1 Aa E E ?_
 refine A2 n.irbs.length (fun j=>∀ i,i < j → Hf n irb dst i = false) (fun j=>[(2,B0 dst),(3,.ref 8 (Ap n) 0),(4,.ref 1 (Aa irb) 0),(8,.osl 1000),(13,.sl 5 Dm n.irbs),(14,Aa n.irbs.length),(15,Aa j)]) (fun j=>[(1000,.row 1 Aa (Ee (Ke n irb dst) j))]) [] (fun i hi=>absurd hi (by omega))
  ⟨⟨rfl,rfl,rfl,rfl,rfl,rfl,rfl,rfl,rfl,rfl,rfl,rfl,rfl,rfl,trivial⟩,⟨.inl rfl,rfl,trivial⟩,rfl,rfl⟩ ?_
 intro j hj hI
 refine rg ?_;conv=>whnf
 refine ⟨fun h=>?_,fun h=>?_⟩
 ·have hlt:j < n.irbs.length:=by simpa using h
  have hij:InIrbs n (j:Int):=⟨by omega,by simpa using hlt⟩
  have qj:=Jg n hb j hij
  have hsucc:=Mb (Ke n irb dst) j
  have hfl:=Ea (Ke n irb dst) j
  have hta:Hf n irb dst j = (Dt n j == Dt n irb && (nth n.irbs j).addr == dst):=rfl
  have hwa:Ke n irb dst j = (Ze (nth n.irbs j).addr (nth n.irbs j).bits dst && Zw n irb j):=rfl
  have enj:nth n.irbs (j:Int) = n.irbs[j]:=Ao (l:=n.irbs) (i:=(j:Int)) (by simpa using hlt)
  have hf:=(C2 hb hlt).2.2
  have e1:n.irbs[(j:Int).toNat]'(by omega) = n.irbs[j]:=rfl
  rw [enj] at hta hwa
  obtain ⟨x,hx⟩:∃ x,n.irbs[j] = x:=⟨_,rfl⟩
  rw [hx] at e1 hta hwa hf
  have q1:=Aow x.addr x.bits dst hf
  have q2:=Afv n hn hb irb j hk hij
  rw [hwa] at hsucc
  obtain ⟨u,hu⟩:∃ u,Ee (Ke n irb dst) j = u:=⟨_,rfl⟩
  rw [hu] at hsucc hfl ⊢
  refine rg ?_;conv=>whnf
  refine ⟨E,by omega,by omega,?_⟩
  rw [e1]
  conv=>whnf
  refine At qj F297 E E E (by kernel_rfl) E ?_
  refine rd (by kernel_rfl) ?_;conv=>whnf
  refine At qk F297 E E E (by kernel_rfl) E ?_
  refine rd (by kernel_rfl) ?_;conv=>whnf
  refine ⟨fun h2=>?_,fun h2=>?_⟩
  ·rw [h2,Bool.true_and] at hta
   refine rd (by kernel_rfl) ?_;conv=>whnf
   refine ⟨(by kernel_rfl),?_⟩
   conv=>whnf
   refine ⟨fun h3=>?_,fun h3=>?_⟩
   ·have:(List.range n.irbs.length).any (Hf n irb dst) = true:=List.any_eq_true.2 ⟨j,by simpa using hlt,hta.trans h3⟩
    rw [if_pos this] at hlk
    subst hlk
    refine rg ?_;conv=>whnf
    exact Ac E (.cons .tmp (.cons .tmp .nil)) E E
   ·have hnt:=hta.trans h3
    refine rg ?_;conv=>whnf
    refine Ag q1 F298 E E E E E ?_
    refine rg ?_;conv=>whnf
    refine ⟨fun h4=>?_,fun h4=>?_⟩
    ·rw [h4,Bool.true_and] at hsucc
     refine rg ?_;conv=>whnf
     refine Ag q2 F299 E E E E E ?_
     refine rg ?_;conv=>whnf
     refine ⟨fun h5=>?_,fun h5=>?_⟩
     ·rw [if_pos h5] at hsucc
      refine rg ?_;conv=>whnf
      refine Ai (Af Γ.toTy 47 E E E E E (.row E) (.lit (e:=Aa) (l:=[(j:Int)]) E E) (by simp) (by simp; omega) (by simp; omega)) E E ?_
      refine rg ?_;conv=>whnf
      refine ⟨by unfold I64; omega,?_⟩
      conv=>whnf
      exact Ax [(1000,47)] hI hlt (fun i hi=>if e:i = j then (by rw [e]; exact hnt) else hI i (by omega)) ⟨⟨E,E,E,E,E,E,E,E,E,E,E,E,E,E,Y⟩,⟨.inl (congrArg (Ob.row 1 Aa) hsucc),E,Y⟩,E,E⟩
     ·rw [if_neg (by simp [h5])] at hsucc
      refine rg ?_;conv=>whnf
      refine ⟨by unfold I64; omega,?_⟩
      conv=>whnf
      exact Ax [] hI hlt (fun i hi=>if e:i = j then (by rw [e]; exact hnt) else hI i (by omega)) ⟨⟨E,E,E,E,E,E,E,E,E,E,E,E,E,E,Y⟩,⟨.inl (congrArg (Ob.row 1 Aa) hsucc),E,Y⟩,E,E⟩
    ·rw [if_neg (by simp [h4])] at hsucc
     (refine rg ?_;(conv=>whnf);refine aF ?_;refine rg ?_;conv=>whnf)
     refine ⟨by unfold I64; omega,?_⟩
     conv=>whnf
     exact Ax [] hI hlt (fun i hi=>if e:i = j then (by rw [e]; exact hnt) else hI i (by omega)) ⟨⟨E,E,E,E,E,E,E,E,E,E,E,E,E,E,Y⟩,⟨.inl (congrArg (Ob.row 1 Aa) hsucc),E,Y⟩,E,E⟩
  ·have hnt:Hf n irb dst j = false:=by rw [hta,h2,Bool.false_and]
   refine rd (by kernel_rfl) ?_;conv=>whnf
   refine ⟨(by kernel_rfl),?_⟩
   ((conv=>whnf);refine aF ?_;refine rg ?_;conv=>whnf)
   refine Ag q1 F298 E E E E E ?_
   refine rg ?_;conv=>whnf
   refine ⟨fun h4=>?_,fun h4=>?_⟩
   ·rw [h4,Bool.true_and] at hsucc
    refine rg ?_;conv=>whnf
    refine Ag q2 F299 E E E E E ?_
    refine rg ?_;conv=>whnf
    refine ⟨fun h5=>?_,fun h5=>?_⟩
    ·rw [if_pos h5] at hsucc
     refine rg ?_;conv=>whnf
     refine Ai (Af Γ.toTy 47 E E E E E (.row E) (.lit (e:=Aa) (l:=[(j:Int)]) E E) (by simp) (by simp; omega) (by simp; omega)) E E ?_
     refine rg ?_;conv=>whnf
     refine ⟨by unfold I64; omega,?_⟩
     conv=>whnf
     exact Ax [(1000,47)] hI hlt (fun i hi=>if e:i = j then (by rw [e]; exact hnt) else hI i (by omega)) ⟨⟨E,E,E,E,E,E,E,E,E,E,E,E,E,E,Y⟩,⟨.inl (congrArg (Ob.row 1 Aa) hsucc),E,Y⟩,E,E⟩
    ·rw [if_neg (by simp [h5])] at hsucc
     refine rg ?_;conv=>whnf
     refine ⟨by unfold I64; omega,?_⟩
     conv=>whnf
     exact Ax [] hI hlt (fun i hi=>if e:i = j then (by rw [e]; exact hnt) else hI i (by omega)) ⟨⟨E,E,E,E,E,E,E,E,E,E,E,E,E,E,Y⟩,⟨.inl (congrArg (Ob.row 1 Aa) hsucc),E,Y⟩,E,E⟩
   ·rw [if_neg (by simp [h4])] at hsucc
    (refine rg ?_;(conv=>whnf);refine aF ?_;refine rg ?_;conv=>whnf)
    refine ⟨by unfold I64; omega,?_⟩
    conv=>whnf
    exact Ax [] hI hlt (fun i hi=>if e:i = j then (by rw [e]; exact hnt) else hI i (by omega)) ⟨⟨E,E,E,E,E,E,E,E,E,E,E,E,E,E,Y⟩,⟨.inl (congrArg (Ob.row 1 Aa) hsucc),E,Y⟩,E,E⟩
 ·have:j = n.irbs.length:=by have:=of_decide_eq_false h; omega
  subst this
  have hno:¬ (List.range n.irbs.length).any (Hf n irb dst) = true:=fun h=>by
   obtain ⟨i,h1,h2⟩:=List.any_eq_true.1 h
   rw [hI i (by simpa using h1)] at h2
   cases h2
  rw [if_neg hno] at hlk
  have hin:∀ y ∈ K3 n irb dst,InIrbs n y:=fun y hy=>by
   have:=(filtI_mem (p:=Ke n irb dst) (j:=n.irbs.length)).1 hy
   exact ⟨this.1,by omega⟩
  have hwl:=Ea (Ke n irb dst) n.irbs.length
  have hwe:Ee (Ke n irb dst) n.irbs.length = K3 n irb dst:=rfl
  rw [hwe] at hwl ⊢
  have q:∀ h0:0 < (K3 n irb dst).length,_:=fun h0=>Anj (K3 n irb dst) (cmpR n irb) 302 [] [.ref 8 (Ap n) 0,.ref 1 (.clo (.func 300) [] [.ref 8 (Ap n) 0,.ref 1 (Aa irb) 0]) 0] rfl h0 (by unfold Aq; omega) (fun y hy z hz=>⟨⟨_,_,F302⟩,Ank n hb irb y z hk (hin y hy) (hin z hz)⟩)
  generalize K3 n irb dst = l at *
  refine As 1000 E ?_
  refine rg ?_;conv=>whnf
  refine ⟨fun h3=>?_,fun h3=>?_⟩
  ·have h4:l = []:=by simpa using h3
   rw [if_pos h4] at hlk
   subst hlk
   refine rg ?_;conv=>whnf
   exact Ac E (.cons .tmp (.cons .tmp .nil)) E E
  ·have h4:¬ l = []:=by simpa using h3
   rw [if_neg h4] at hlk
   have q:=q (List.length_pos_iff.2 h4)
   subst hlk
   refine rg ?_;conv=>whnf
   refine Bf 11 1 (.clo (.func 300) [] [.ref 8 (Ap n) 0,.ref 1 (Aa irb) 0]) E E E ?_
   refine rg ?_;conv=>whnf
   refine Ag q F301 E E E E E ?_
   refine rg ?_;conv=>whnf
   exact Ac E (.cons .tmp (.cons .tmp .nil)) E E
theorem Aea {n:Net} {irb dst:Int} (h:(lookT n irb dst).2 = true):InIrbs n (lookT n irb dst).1:=by
 unfold lookT at h ⊢
 split at h
 ·cases h
 rename_i h1
 rw [if_neg h1]
 split at h
 ·cases h
 rename_i h2
 rw [if_neg h2]
 have hm:=To (cmpR n irb) (K3 n irb dst) (List.length_pos_iff.2 h2) ((K3 n irb dst).length - 1) (by have:=List.length_pos_iff.2 h2; omega)
 have:=(filtI_mem (p:=Ke n irb dst) (j:=n.irbs.length)).1 hm
 exact ⟨this.1,by omega⟩
end Go.Sy.YtmelpejjondedaaGreat
namespace Go.Sy
def Afi (C:Cx) {β:Type} (I:β → Prop) (L:β → List (Nat × SV)) (O:β → Obs) (μ:β → Nat) (x:β) (a:Act) (w:World):Prop :=
 ∃ x':{y:β // I y},∃ κ,μ x'.1 < μ x ∧ St C.F C.n (mkS (L x'.1) (O x'.1)) κ a w
theorem Aqj {C:Cx} {k:List KI} {s:SS} {body:Code} {β:Type} (I:β → Prop) (L:β → List (Nat × SV)) (O:β → Obs) (μ:β → Nat) (x₀:β) (ρ:List (Nat × Nat)) (h0:I x₀) (hsub:Sub C s ρ (L x₀) (O x₀))
  (h:∀ x,I x → G C (.code body :: .inv (Afi C I L O μ x) :: k) (mkS (L x) (O x))):G C (.code (.loop body) :: k) s :=
 Oy (α:={y:β // I y}) (fun x=>L x.1) (fun x=>O x.1) (fun x=>μ x.1) ⟨x₀,h0⟩ ρ hsub (fun x=>h x.1 x.2)
theorem Aoy {C:Cx} {k:List KI} {s:SS} {β:Type} {I:β → Prop} {L:β → List (Nat × SV)} {O:β → Obs} {μ:β → Nat} {x:β} (x':β) (ρ:List (Nat × Nat)) (h':I x') (hμ:μ x' < μ x) (hsub:Sub C s ρ (L x') (O x')) :
  G C (.inv (Afi C I L O μ x) :: k) s:=fun _ _ _ hs=>⟨⟨x',h'⟩,_,hμ,hsub.st hs⟩
theorem Eb {C:Cx} {k:List KI} {s:SS} (d:Nat) {sz:Nat} {α:Type} (e:α → SV) (l:List α) {svs:List SV} (h:s.h d = .lit sz svs) (hl:l.map e = svs) (hg:G C k ⟨s.σ,upd s.h d (.row sz e l)⟩):G C k s:=fun κ a w hs=>by
 refine hg κ a w ⟨hs.defers,hs.size,hs.inv,hs.ctx,hs.slot,fun j=>?_⟩
 show ObOK κ w j (upd s.h d (.row sz e l) j)
 by_cases hj:j = d
 ·subst hj
  rw [Bs]
  have hob:=hs.obj j
  rw [h] at hob
  have hlen:l.length = svs.length:=by rw [← hl,List.length_map]
  obtain ⟨b,cap,cs,T,fr,e1,e2,e3,e4,e5,e6⟩:=hob
  exact .inr ⟨b,cap,cs,T,fr,by rw [hlen]; exact e1,e2,e3,e4,by omega,fun i x hx=>by rw [hlen]; exact e6 i x (K6 hl i x hx)⟩
 ·rw [Cf _ _ hj]; exact hs.obj j
end Go.Sy
namespace Go.Sy.YtmelpejjondedaaGreat
open Go.Proofs
attribute [local irreducible] Go.Sy.G Go.Sy.DR
set_option maxRecDepth 20000
set_option maxHeartbeats 4000000
theorem Af2 (l:List Int) (least most:Int) (hl:Aq l):Sy.Spec Tryz.prog 266 [.sl 1 Aa l,Aa least,Aa most] [] (Ad (Dg l least most)) []:=Ab Γ hm 100 F266 Tryz.ntmps266 rfl fun F hF=>by
 unfold Aq at hl
 conv=>whnf
 (repeat' (first | (refine ⟨fun h=>?_,fun h=>?_⟩ <;> (repeat (first | simp only [decide_eq_true_eq] at h | simp only [decide_eq_false_iff_not] at h)) <;> ((refine rg ?_);(conv=>whnf);repeat((refine aT ?_);(refine rg ?_);(conv=>whnf)))) | (refine Ac rfl (.cons .tmp .nil) ?_ rfl)))
 all_goals try (refine congrArg Ad ?_)
 ·rw [Dg]; simp; omega
 ·rw [Dg]; simp; omega
 refine A2 l.length (fun j=>Da (K7 l least most) l j) (fun j=>[(0,.sl 1 Aa l),(1,Aa least),(2,Aa most),(7,Aa j)]) (fun _=>[]) [] (A5 _ _) ⟨⟨E,E,E,E,E,E,E,E,Y⟩,Y,E,E⟩ ?_
 intro j hj hI
 refine rg ?_;conv=>whnf
 (repeat' (first | (refine ⟨fun h=>?_,fun h=>?_⟩ <;> (repeat (first | simp only [decide_eq_true_eq] at h | simp only [decide_eq_false_iff_not] at h)) <;> ((first|refine rg ?_|refine rd (by kernel_rfl) ?_);(conv=>whnf);repeat((refine aT ?_);(refine rd (by kernel_rfl) ?_);(conv=>whnf)))) | (refine Ac rfl (.cons .tmp .nil) ?_ rfl) | (refine ⟨(by kernel_rfl),?_⟩; ((conv=>whnf);repeat((first|refine aF ?_|refine aT ?_);(refine rg ?_);(conv=>whnf)))) | (refine ⟨by (first | (unfold I64; omega) | omega),by (omega),?_⟩; ((conv=>whnf))) | (refine ⟨by (unfold I64; omega),?_⟩; ((conv=>whnf))) | refine Ax [] hI (by omega) ?_ ⟨⟨rfl,rfl,rfl,rfl,rfl,rfl,rfl,rfl,trivial⟩,trivial,rfl,rfl⟩))
 all_goals try (refine congrArg Ad ?_)
 all_goals try simp only [Int.toNat_natCast,Int.pred_toNat] at *
 ·rw [Dg,Bd (i:=j) (by omega) (by simp [K7]; omega)]; simp
 ·rw [Dg,Bd (i:=j) (by omega) (by simp [K7]; omega)]; simp
 ·rw [Dg,Bd (i:=j) (by omega) (by simp only [K7,Ao (show ((j:Int) - 1).toNat < l.length by omega),Int.pred_toNat,Int.toNat_natCast]; simp; omega)]; simp
 ·exact A3 hI (by omega) (by simp only [K7,Ao (show ((j:Int) - 1).toNat < l.length by omega),Int.pred_toNat,Int.toNat_natCast]; simp; omega)
 ·exact A3 hI (by omega) (by simp [K7]; omega)
 ·rw [Dg,Ca hI (by omega),Bool.eq_iff_iff]; simp; omega
theorem L0 (l:List Int) (most:Int) (hl:Aq l):Sy.Spec Tryz.prog 206 [.sl 1 Aa l,Aa most] [] (Ad (decide (l.length = 0) || Dg l 1 most)) []:=Ab Γ hm 100 F206 Tryz.ntmps206 rfl fun F hF=>by
 conv=>whnf
 (repeat' (first | (refine ⟨fun h=>?_,fun h=>?_⟩ <;> (repeat (first | simp only [beq_iff_eq] at h | simp only [beq_eq_false_iff_ne] at h)) <;> ((refine rg ?_);(conv=>whnf))) | (refine Ac rfl (.cons .tmp .nil) ?_ rfl) | (refine Ag (Af2 l 1 most hl) F266 rfl rfl rfl rfl rfl ?_; ((refine rg ?_);(conv=>whnf)))))
 all_goals (refine congrArg Ad ?_)
 all_goals grind
theorem A9 (i:Int) (n:Nat):Sy.Spec Tryz.prog 35 [Aa i,Aa n] [] (Ad (Am i n)) []:=Ab Γ hm 100 F35 Tryz.ntmps35 rfl fun F hF=>by
 conv=>whnf
 (repeat' (first | (refine ⟨fun h=>?_,fun h=>?_⟩ <;> (repeat (first | simp only [decide_eq_true_eq] at h | simp only [decide_eq_false_iff_not] at h)) <;> ((refine rg ?_);(conv=>whnf))) | (refine Ac rfl (.cons .tmp .nil) ?_ rfl)))
 all_goals (refine congrArg Ad ?_)
 all_goals grind [Am]
theorem Jp {α:Type} {p:α → Bool} {l:List α} {j:Nat} (hI:Da (fun _ x=>!(p x)) l j) (hj:l.length ≤ j):l.any p = false:=by
 rw [List.any_eq_false]
 intro x hx
 obtain ⟨i,hi,rfl⟩:=List.mem_iff_getElem.1 hx
 simpa using hI i hi (by omega)
theorem Ls {α:Type} {p:α → Bool} {l:List α} {j:Nat} (hj:j < l.length) (h:p l[j] = true):l.any p = true:=List.any_eq_true.2 ⟨_,List.getElem_mem hj,h⟩
theorem El (l:List Int) (x:Int) (hl:Aq l):Sy.Spec Tryz.prog 142 [.sl 1 Aa l,Aa x] [] (Ad (inB l x)) []:=Ab Γ hm 100 F142 Tryz.ntmps142 rfl fun F hF=>by
 unfold Aq at hl
 conv=>whnf
 refine A2 l.length (fun j=>Da (fun _ y=>!(y == x)) l j) (fun j=>[(0,.sl 1 Aa l),(1,Aa x),(5,Aa j)]) (fun _=>[]) [] (A5 _ _) ⟨⟨E,E,E,E,E,E,Y⟩,Y,E,E⟩ ?_
 intro j hj hI
 refine rg ?_;conv=>whnf
 (repeat' (first | (refine ⟨fun h=>?_,fun h=>?_⟩ <;> (repeat (first | simp only [decide_eq_true_eq] at h | simp only [decide_eq_false_iff_not] at h | simp only [beq_iff_eq] at h | simp only [beq_eq_false_iff_ne] at h)) <;> ((refine rg ?_);(conv=>whnf))) | (refine Ac rfl (.cons .tmp .nil) ?_ rfl) | (refine ⟨(by kernel_rfl),?_⟩; ((conv=>whnf))) | (refine ⟨by (omega),by (omega),?_⟩; ((conv=>whnf))) | (refine ⟨by (unfold I64; omega),?_⟩; ((conv=>whnf))) | refine Ax [] hI (by omega) ?_ ⟨⟨rfl,rfl,rfl,rfl,rfl,rfl,trivial⟩,trivial,rfl,rfl⟩))
 all_goals try (refine congrArg Ad ?_)
 ·exact Ls (j:=j) (by omega) (by simpa using h)
 ·exact A3 hI (by omega) (by simpa using h)
 ·exact Jp hI (by omega)
theorem Te (p:Port) (v:Int) (hl:Aq p.tagged):Sy.Spec Tryz.prog 207 [Bh p,Aa v] [] (Ad (Hy p v)) []:=Ab Γ hm 100 F207 Tryz.ntmps207 rfl fun F hF=>by
 conv=>whnf
 (repeat' (first | (refine ⟨fun h=>?_,fun h=>?_⟩ <;> (repeat (first | simp only [beq_iff_eq] at h | simp only [beq_eq_false_iff_ne] at h | simp only [bne_iff_ne] at h | simp only [bne_eq_false_iff_eq] at h)) <;> ((refine rg ?_);(conv=>whnf))) | (refine Ac rfl (.cons .tmp .nil) ?_ rfl) | (refine Ag (El p.tagged v hl) F142 rfl rfl rfl rfl rfl ?_; ((refine rg ?_);(conv=>whnf)))))
 all_goals (refine congrArg Ad ?_)
 all_goals grind [Hy]
theorem M1 (n:Net) (dev vlan:Int) (hl:Aq n.domains):Sy.Spec Tryz.prog 79 [Ap n,Aa dev,Aa vlan] [] (Aa (Yu n dev vlan)) []:=Ab Γ hm 100 F79 Tryz.ntmps79 rfl fun F hF=>by
 unfold Aq at hl
 conv=>whnf
 refine Bf 3 8 (Ap n) E E E ?_
 refine A2 n.domains.length (fun j=>Da (fun _ d=>!(d.dev == dev && d.vlan == vlan)) n.domains j) (fun j=>[(1,Aa dev),(2,Aa vlan),(3,.ref 8 (Ap n) 0),(7,Aa j)]) (fun _=>[]) [] (A5 _ _) ⟨⟨E,E,E,E,E,E,E,E,Y⟩,Y,E,E⟩ ?_
 intro j hj hI
 refine rg ?_;conv=>whnf
 (repeat' (first | (refine ⟨fun h=>?_,fun h=>?_⟩ <;> (repeat (first | simp only [decide_eq_true_eq] at h | simp only [decide_eq_false_iff_not] at h | simp only [beq_iff_eq] at h | simp only [beq_eq_false_iff_ne] at h)) <;> ((refine rg ?_);(conv=>whnf);repeat((refine aF ?_);(refine rg ?_);(conv=>whnf)))) | (refine Ac rfl (.cons .tmp .nil) ?_ rfl) | (refine ⟨(by kernel_rfl),?_⟩; ((conv=>whnf))) | (refine ⟨by (omega),by (omega),?_⟩; ((conv=>whnf))) | (refine ⟨by (unfold I64; omega),?_⟩; ((conv=>whnf))) | refine Ax [] hI (by omega) ?_ ⟨⟨rfl,rfl,rfl,rfl,rfl,rfl,rfl,rfl,trivial⟩,trivial,rfl,rfl⟩))
 all_goals try (refine congrArg Aa ?_)
 ·exact Ct (by omega) (fun i hi hij=>by have:=hI i hi hij; grind) (by simp_all)
 ·exact A3 hI (by omega) (by simp_all)
 ·exact A3 hI (by omega) (by simp_all)
 ·exact C3 (fun i hi=>by have:=hI i hi (by omega); grind)
theorem Adp (n:Net) (hn:n.Fin):Sy.Spec Tryz.prog 138 [Ap n] [] (Ad (C0 (J6 n) n.links)) []:=Ab Γ hm 100 F138 Tryz.ntmps138 rfl fun F hF=>by
 have hl:=hn.links
 unfold Aq at hl
 conv=>whnf
 refine Bf 1 8 (Ap n) E E E ?_
 refine A2 n.links.length (fun j=>Da (J6 n) n.links j) (fun j=>[(1,.ref 8 (Ap n) 0),(3,Aa j)]) (fun _=>[]) [] (A5 _ _) ⟨⟨E,E,E,E,Y⟩,Y,E,E⟩ ?_
 intro j hj hI
 refine rg ?_;conv=>whnf
 (repeat' (first | (refine ⟨fun h=>?_,fun h=>?_⟩ <;> (repeat (first | simp only [Am] at h | simp only [decide_eq_true_eq] at h | simp only [decide_eq_false_iff_not] at h | simp only [beq_iff_eq] at h | simp only [beq_eq_false_iff_ne] at h | simp only [bne_iff_ne] at h | simp only [bne_eq_false_iff_eq] at h | simp only [Bool.and_eq_true] at h | simp only [Bool.and_eq_false_iff] at h | simp only [Bool.not_eq_true'] at h | simp only [Bool.not_eq_false'] at h)) <;> ((first|refine rg ?_|refine rd (by kernel_rfl) ?_);(conv=>whnf);repeat((refine aT ?_);(first|refine rg ?_|refine rd (by kernel_rfl) ?_);(conv=>whnf)))) | (refine Ac rfl (.cons .tmp .nil) ?_ rfl) | (refine ⟨(by kernel_rfl),?_⟩; ((conv=>whnf);repeat((refine aT ?_);(refine rg ?_);(conv=>whnf)))) | (refine ⟨by (first | omega | (simp only [Int.toNat_natCast]; omega)),by (first | omega | (simp only [Int.toNat_natCast]; omega)),?_⟩; ((conv=>whnf))) | (refine ⟨by (unfold I64; omega),?_⟩; ((conv=>whnf))) | (refine Ag (A9 (n.links[j]'(by omega)).a n.ports.length) F35 rfl rfl rfl rfl rfl ?_; ((refine rg ?_);(conv=>whnf))) | (refine Ag (A9 (n.links[j]'(by omega)).b n.ports.length) F35 rfl rfl rfl rfl rfl ?_; ((refine rg ?_);(conv=>whnf))) | refine Ax [] hI (by omega) ?_ ⟨⟨rfl,rfl,rfl,rfl,trivial⟩,trivial,rfl,rfl⟩))
 all_goals (simp only [Int.toNat_natCast] at *)
 all_goals first
  | exact A3 hI (by omega) (by clear hI hF; grind [J6,Am,Ao])
  | (refine congrArg Ad ?_; exact Bd (i:=j) (by omega) (by clear hI hF; grind [J6,Am,Ao]))
  | (refine congrArg Ad ?_; exact Ca hI (by omega))
theorem Ado (n:Net) (hn:n.Fin):Sy.Spec Tryz.prog 137 [Ap n] [] (Ad (C0 (Em n) n.ports)) []:=Ab Γ hm 100 F137 Tryz.ntmps137 rfl fun F hF=>by
 have hl:=hn.ports
 unfold Aq at hl
 conv=>whnf
 refine Bf 1 8 (Ap n) E E E ?_
 refine A2 n.ports.length (fun j=>Da (Em n) n.ports j) (fun j=>[(1,.ref 8 (Ap n) 0),(3,Aa j)]) (fun _=>[]) [] (A5 _ _) ⟨⟨E,E,E,E,Y⟩,Y,E,E⟩ ?_
 intro j hj hI
 refine rg ?_;conv=>whnf
 refine ⟨fun h=>?_,fun h=>?_⟩
 ·have hjl:j < n.ports.length:=by simpa using h
  have ht:=hn.tagged _ (List.getElem_mem hjl)
  generalize hp:n.ports[j] = p at ht
  have hp':n.ports[(j:Int).toNat]'(by omega) = p:=hp
  refine rg ?_;conv=>whnf
  refine ⟨E,by omega,by omega,?_⟩
  rw [hp']
  conv=>whnf
  (repeat' (first | (refine ⟨fun h=>?_,fun h=>?_⟩ <;> (repeat (first | simp only [Am] at h | simp only [decide_eq_true_eq] at h | simp only [decide_eq_false_iff_not] at h | simp only [beq_iff_eq] at h | simp only [beq_eq_false_iff_ne] at h | simp only [Bool.and_eq_true] at h | simp only [Bool.or_eq_true] at h | simp only [Bool.and_eq_false_iff] at h | simp only [Bool.or_eq_false_iff] at h | simp only [Bool.not_eq_true'] at h | simp only [Bool.not_eq_false'] at h)) <;> ((refine rg ?_);(conv=>whnf);repeat((first|refine aF ?_|refine aT ?_);(refine rg ?_);(conv=>whnf)))) | (refine Ac rfl (.cons .tmp .nil) ?_ rfl) | (refine Ag (A9 p.dev n.devices.length) F35 rfl rfl rfl rfl rfl ?_; ((refine rg ?_);(conv=>whnf))) | (refine Ag (L0 p.tagged 4094 ht) F206 rfl rfl rfl rfl rfl ?_; ((refine rg ?_);(conv=>whnf))) | (refine Ag (El p.tagged p.native ht) F142 rfl rfl rfl rfl rfl ?_; ((refine rg ?_);(conv=>whnf))) | (refine Ag (M1 n p.dev p.native hn.domains) F79 rfl rfl rfl rfl rfl ?_; ((refine rg ?_);(conv=>whnf)))))
  all_goals first
   | (refine congrArg Ad ?_; exact Bd hjl (by rw [hp]; clear hI hF hp'; grind [Em,Am,Ch]))
   | skip
  all_goals (
   refine Bf 4 7 (Bh p) E E E ?_
   refine A2 p.tagged.length (fun k=>Da (fun _ v=>Ch n p.dev v) p.tagged k) (fun k=>[(1,.ref 8 (Ap n) 0),(3,Aa j),(4,.ref 7 (Bh p) 0),(5,Aa k)]) (fun _=>[]) [] (A5 _ _) ⟨⟨E,E,E,E,E,E,E,E,Y⟩,Y,E,E⟩ ?_
   intro k hk hI2
   have hsh:=ht
   unfold Aq at hsh
   ((first|refine rG Γ hm ?_|refine rD Γ hm (by kernel_rfl) ?_);(conv=>whnf);repeat((first|refine aF ?_|refine aT ?_);(first|refine rG Γ hm ?_|refine rD Γ hm (by kernel_rfl) ?_);conv=>whnf)))
  all_goals (
   (repeat' (first | (refine ⟨fun h=>?_,fun h=>?_⟩ <;> (repeat (first | simp only [Am] at h | simp only [decide_eq_true_eq] at h | simp only [decide_eq_false_iff_not] at h | simp only [beq_iff_eq] at h | simp only [beq_eq_false_iff_ne] at h | simp only [bne_iff_ne] at h | simp only [bne_eq_false_iff_eq] at h | simp only [Bool.and_eq_true] at h | simp only [Bool.and_eq_false_iff] at h | simp only [Bool.not_eq_true'] at h | simp only [Bool.not_eq_false'] at h)) <;> ((refine rg ?_);(conv=>whnf);repeat((first|refine aF ?_|refine aT ?_);(refine rg ?_);(conv=>whnf)))) | (refine Ac rfl (.cons .tmp .nil) ?_ rfl) | (refine ⟨(by kernel_rfl),?_⟩; ((conv=>whnf))) | (refine ⟨by (omega),by (omega),?_⟩; ((conv=>whnf))) | (refine ⟨by (unfold I64; omega),?_⟩; ((conv=>whnf))) | (refine At (M1 n p.dev (p.tagged[k]'(by omega)) hn.domains) F79 rfl rfl rfl (by kernel_rfl) rfl ?_; ((refine rd (by kernel_rfl) ?_);(conv=>whnf))) | (refine Ag (A9 p.link n.links.length) F35 rfl rfl rfl rfl rfl ?_; ((refine rg ?_);(conv=>whnf))) | refine Ax [] hI2 (by omega) ?_ ⟨⟨rfl,rfl,rfl,rfl,rfl,rfl,rfl,rfl,trivial⟩,trivial,rfl,rfl⟩ | refine Ax [] hI (by omega) ?_ ⟨⟨rfl,rfl,rfl,rfl,trivial⟩,trivial,rfl,rfl⟩)))
  all_goals first
   | exact A3 hI2 (by omega) (by simp only [Ch,decide_eq_true_eq]; omega)
   | (refine congrArg Ad ?_
      have h0:C0 (fun _ v=>Ch n p.dev v) p.tagged = false:=Bd (i:=k) (by omega) (by simp only [Ch,decide_eq_false_iff_not]; omega)
      exact Bd hjl (by rw [hp]; clear hI hI2 hF hp'; grind [Em]))
   | skip
  all_goals have h0:C0 (fun _ v=>Ch n p.dev v) p.tagged = true:=Ca hI2 (by omega)
  all_goals first
   | exact A3 hI hjl (by rw [hp]; clear hI hI2 hF hp'; grind [Em,Am,Ch,Ao])
   | (refine congrArg Ad ?_
      exact Bd hjl (by rw [hp]; clear hI hI2 hF hp'; grind [Em,Am,Ch,Ao]))
 ·refine rg ?_;conv=>whnf
  exact Ac E (.cons .tmp .nil) (congrArg Ad (Ca hI (by simpa using h))) E
theorem Agg (n:Net) (i:Nat) (k:Int) (hn:n.Fin) (hi:i < n.domains.length) (hb:C0 (Ia n) n.domains = true):Sy.Spec Tryz.prog 205 [Ap n,Aa i,Aa k] [] (Ad (M6 n i n.domains[i] k)) []:=Ab Γ hm 100 F205 Tryz.ntmps205 rfl fun F hF=>by
 have hd:=Lr hb hi
 have ha:n.domains[(i:Int).toNat]'(by omega) = n.domains[i]:=rfl
 have hr:∀ x:Bool,M6 n i n.domains[i] k = x → M6 n i (n.domains[(i:Int).toNat]'(by omega)) k = x:=fun x h=>h
 generalize n.domains[i] = d at *
 simp only [Am,Bool.and_eq_true,decide_eq_true_eq] at hd
 conv=>whnf
 (repeat' (first | (refine ⟨fun h=>?_,fun h=>?_⟩ <;> (repeat (first | simp only [Am] at h | simp only [decide_eq_true_eq] at h | simp only [decide_eq_false_iff_not] at h | simp only [beq_iff_eq] at h | simp only [beq_eq_false_iff_ne] at h | simp only [bne_iff_ne] at h | simp only [bne_eq_false_iff_eq] at h | simp only [Bool.and_eq_true] at h | simp only [Bool.and_eq_false_iff] at h | simp only [Bool.not_eq_true'] at h | simp only [Bool.not_eq_false'] at h)) <;> ((refine rg ?_);(conv=>whnf);repeat((first|refine aF ?_|refine aT ?_);(refine rg ?_);(conv=>whnf)))) | (refine Ac rfl (.cons .tmp .nil) ?_ rfl) | (refine ⟨(by kernel_rfl),?_⟩; ((conv=>whnf))) | (refine ⟨by (first | omega | (first | (simp only [ha]; omega) | (have hq:=Lr hb (i:=k.toNat) (by omega); simp only [Am,Bool.and_eq_true,decide_eq_true_eq] at hq; omega))),by (first | omega | (first | (simp only [ha]; omega) | (have hq:=Lr hb (i:=k.toNat) (by omega); simp only [Am,Bool.and_eq_true,decide_eq_true_eq] at hq; omega))),?_⟩; ((conv=>whnf))) | (refine Ag (A9 k n.domains.length) F35 rfl rfl rfl rfl rfl ?_; ((refine rg ?_);(conv=>whnf))) | (refine Ag (El (n.domains[k.toNat]'(by omega)).peers i (hn.peers _ (List.getElem_mem _))) F142 rfl rfl rfl rfl rfl ?_; ((refine rg ?_);(conv=>whnf)))))
 all_goals (
  refine congrArg Ad ?_
  have hq:∀ h:k.toNat < n.domains.length,0 ≤ n.domains[k.toNat].dev ∧ n.domains[k.toNat].dev < n.devices.length:=fun h=>by
   have:=Lr hb h
   simpa only [Am,Bool.and_eq_true,decide_eq_true_eq] using this
  clear hF hr; grind [M6,Acl,Am,Ao])
theorem Ap2 (l:List Int) (k:Nat) (hk:k < l.length):inB (l.take k) l[k] = !(C7 (· == l[k]) l == (k:Int)):=by
 have h0:∀ x,C7 (· == l[k]) l = x → inB (l.take k) l[k] = !(x == (k:Int)):=by
  intro x hx
  subst hx
  unfold C7
  split
  ·rename_i i h
   rw [List.findIdx?_eq_some_iff_getElem] at h
   obtain ⟨hi,h1,h2⟩:=h
   have hle:i ≤ k:=by
    rcases Nat.lt_or_ge k i with h3 | h3
    ·exact absurd (h2 k h3) (by simp)
    ·exact h3
   by_cases he:i = k
   ·subst he
    simp only [inB,beq_self_eq_true,Bool.not_true]
    rw [List.any_eq_false]
    intro x hx
    obtain ⟨m,hm,rfl⟩:=List.mem_iff_getElem.1 hx
    simp only [List.length_take] at hm
    rw [List.getElem_take]
    have:=h2 m (by omega)
    simpa using this
   ·have:((i:Int) == (k:Int)) = false:=by simp; omega
    rw [this]
    simp only [inB,Bool.not_false]
    refine List.any_eq_true.2 ⟨l[i],?_,h1⟩
    exact List.mem_iff_getElem.2 ⟨i,by simp; omega,by simp⟩
  ·rename_i h
   rw [List.findIdx?_eq_none_iff] at h
   have:=h l[k] (List.getElem_mem hk)
   simp at this
 exact h0 _ E
theorem Zg {P:Program} (Γ:Ty P) {o:Oper} {s:SS} {t:TypeId} {ti:TI} {et:TypeId} {sz eb lo hi:Nat} {ez:List Value} {x:Operand} {lx hx:Option Operand} {α:Type} {e:α → SV} {l:List α} (r:List α)
  (h:o.op = .slice t x lx hx none) (ht:Γ.get t = some ti) (hk:ti.k = .slice et sz eb ez) (hxe:ev s x = .sl sz e l) (hlo:BoundIs s lx 0 lo) (hhi:BoundIs s hx l.length hi) (h1:lo ≤ hi) (h2:hi ≤ l.length) (hr:(l.take hi).drop lo = r) :
  Good P o s ⟨.sl sz e r,[],[]⟩:=by
 subst hr
 exact Bb Γ h ht hk hxe hlo hhi h1 h2
theorem Y4 (n:Net) (hn:n.Fin):Sy.Spec Tryz.prog 136 [Ap n] [] (Ad (C0 (Ia n) n.domains && C0 (M5 n) n.domains)) []:=Ab Γ hm 100 F136 Tryz.ntmps136 rfl fun F hF=>by
 have hl:=hn.domains
 unfold Aq at hl
 conv=>whnf
 refine Bf 1 8 (Ap n) E E E ?_
 refine A2 n.domains.length (fun j=>Da (Ia n) n.domains j) (fun j=>[(1,.ref 8 (Ap n) 0),(3,Aa j)]) (fun _=>[]) [] (A5 _ _) ⟨⟨E,E,E,E,Y⟩,Y,E,E⟩ ?_
 intro j hj hI
 refine rg ?_;conv=>whnf
 refine ⟨fun h=>?_,fun h=>?_⟩
 ·have hjl:j < n.domains.length:=by simpa using h
  generalize hp:n.domains[j] = p
  have hp':n.domains[(j:Int).toNat]'(by omega) = p:=hp
  refine rg ?_;conv=>whnf
  refine ⟨E,by omega,by omega,?_⟩
  rw [hp']
  conv=>whnf
  (repeat' (first | (refine ⟨fun h=>?_,fun h=>?_⟩ <;> (repeat (first | simp only [Am] at h | simp only [decide_eq_true_eq] at h | simp only [decide_eq_false_iff_not] at h | simp only [bne_iff_ne] at h | simp only [bne_eq_false_iff_eq] at h | simp only [Bool.and_eq_true] at h | simp only [Bool.and_eq_false_iff] at h | simp only [Bool.not_eq_true'] at h | simp only [Bool.not_eq_false'] at h)) <;> ((refine rg ?_);(conv=>whnf);repeat((first|refine aF ?_|refine aT ?_);(refine rg ?_);(conv=>whnf)))) | (refine Ac rfl (.cons .tmp .nil) ?_ rfl) | (refine ⟨(by kernel_rfl),?_⟩; ((conv=>whnf))) | (refine ⟨by (omega),by (omega),?_⟩; ((conv=>whnf))) | (refine ⟨by (unfold I64; omega),?_⟩; ((conv=>whnf))) | (refine Ag (A9 p.dev n.devices.length) F35 rfl rfl rfl rfl rfl ?_; ((refine rg ?_);(conv=>whnf))) | (refine Ag (A9 p.irb n.irbs.length) F35 rfl rfl rfl rfl rfl ?_; ((refine rg ?_);(conv=>whnf))) | (refine Ag (M1 n p.dev p.vlan hn.domains) F79 rfl rfl rfl rfl rfl ?_; ((refine rg ?_);(conv=>whnf))) | refine Ax [] hI (by omega) ?_ ⟨⟨rfl,rfl,rfl,rfl,trivial⟩,trivial,rfl,rfl⟩))
  all_goals first
   | exact A3 hI hjl (by rw [hp]; clear hI hF hp'; grind [Ia,Am,Ao])
   | (refine congrArg Ad ?_; rw [Bd (p:=Ia n) hjl (by rw [hp]; clear hI hF hp'; grind [Ia,Am,Ao])]; rfl)
 have hb:C0 (Ia n) n.domains = true:=Ca hI (by simpa using h)
 clear hI
 refine rg ?_;conv=>whnf
 refine A2 n.domains.length (fun j=>Da (M5 n) n.domains j) (fun j=>[(1,.ref 8 (Ap n) 0),(5,Aa j)]) (fun _=>[]) [] (A5 _ _) ⟨⟨E,E,E,E,Y⟩,Y,E,E⟩ ?_
 clear hj h
 intro j hj hI
 refine rg ?_;conv=>whnf
 refine ⟨fun h=>?_,fun h=>?_⟩
 ·have hjl:j < n.domains.length:=by simpa using h
  have hpe:=fun k=>Agg n j k hn hjl hb
  have hsh:=hn.peers _ (List.getElem_mem hjl)
  generalize hp:n.domains[j] = p at hpe hsh
  have hp':n.domains[(j:Int).toNat]'(by omega) = p:=hp
  refine rg ?_;conv=>whnf
  refine ⟨E,by omega,by omega,?_⟩
  rw [hp']
  conv=>whnf
  refine Bf 6 6 (A0 p) E E E ?_
  refine A2 p.peers.length (fun k=>Da (fun at_ k=>M6 n j p k && C7 (· == k) p.peers == at_) p.peers k) (fun k=>[(1,.ref 8 (Ap n) 0),(5,Aa j),(6,.ref 6 (A0 p) 0),(7,Aa k)]) (fun _=>[]) [] (A5 _ _) ⟨⟨E,E,E,E,E,E,E,E,Y⟩,Y,E,E⟩ ?_
  intro k hk hI2
  unfold Aq at hsh
  refine rg ?_;conv=>whnf
  refine ⟨fun h2=>?_,fun h2=>?_⟩
  ·have hkl:k < p.peers.length:=by simpa using h2
   have hkk:p.peers[(k:Int).toNat]'(by omega) = p.peers[k]:=rfl
   have hty:=Ap2 p.peers k hkl
   refine rg ?_;conv=>whnf
   refine ⟨(by kernel_rfl),?_⟩
   refine ⟨by omega,by omega,?_⟩
   rw [hkk]
   generalize p.peers[k] = x at *
   conv=>whnf
   (repeat' (first | (refine ⟨fun h=>?_,fun h=>?_⟩ <;> (repeat (first | simp only [Bool.not_eq_true'] at h | simp only [Bool.not_eq_false'] at h)) <;> ((first|refine rg ?_|refine rd (by kernel_rfl) ?_);(conv=>whnf))) | (refine Ac rfl (.cons .tmp .nil) ?_ rfl) | (refine ⟨(by kernel_rfl),?_⟩; ((conv=>whnf);repeat((refine aT ?_);(refine rg ?_);(conv=>whnf)))) | (refine ⟨by (omega),by (omega),?_⟩; ((conv=>whnf))) | (refine ⟨by (unfold I64; omega),?_⟩; ((conv=>whnf))) | (refine At (hpe x) F205 rfl rfl rfl (by kernel_rfl) rfl ?_; ((refine rd (by kernel_rfl) ?_);(conv=>whnf))) | (refine At (El (p.peers.take k) (p.peers[(k:Int).toNat]'(by omega)) (by unfold Aq; simp; omega)) F142 rfl rfl rfl (by kernel_rfl) rfl ?_; ((refine rd (by kernel_rfl) ?_);(conv=>whnf))) | refine Ax [] hI2 (by omega) ?_ ⟨⟨rfl,rfl,rfl,rfl,rfl,rfl,rfl,rfl,trivial⟩,trivial,rfl,rfl⟩ | ((refine Bi (Zg Γ.toTy (lo:=0) (hi:=k) (p.peers.take k) rfl rfl rfl rfl (.inl ⟨rfl,rfl⟩) (.inr ⟨_,_,rfl,rfl⟩) (by omega) (by omega) rfl) (by kernel_rfl) rfl ?_; ((refine rd (by kernel_rfl) ?_);(conv=>whnf))))))
   all_goals first
    | exact A3 hI2 hkl (by clear hF; grind)
    | (refine congrArg Ad ?_
       have h0:M5 n j p = false:=Bd hkl (by clear hF; grind)
       rw [hb,Bd (p:=M5 n) hjl (by rw [hp]; exact h0)]; rfl)
  ·have h0:M5 n j p = true:=Ca hI2 (by simpa using h2)
   refine rg ?_;conv=>whnf
   (repeat' (first | (refine ⟨by (unfold I64; omega),?_⟩; ((conv=>whnf))) | refine Ax [] hI (by omega) ?_ ⟨⟨rfl,rfl,rfl,rfl,trivial⟩,trivial,rfl,rfl⟩))
   exact A3 hI hjl (by rw [hp]; exact h0)
 ·refine rg ?_;conv=>whnf
  refine Ac E (.cons .tmp .nil) (congrArg Ad ?_) E
  rw [hb,Ca hI (by simpa using h)]
  rfl
def My (n:Net):Bool:=C0 (fun _=>E9 n) n.statics && C0 (fun _=>K0 n) n.floods && C0 (fun _=>Y1 n) n.vrfs && C0 (U5 n) n.irbs
theorem rest1 {n:Net} (h:C0 (fun _=>E9 n) n.statics = false):My n = false:=by simp [My,h]
theorem rest2 {n:Net} (h:C0 (fun _=>K0 n) n.floods = false):My n = false:=by simp [My,h]
theorem rest3 {n:Net} (h:C0 (fun _=>Y1 n) n.vrfs = false):My n = false:=by simp [My,h]
theorem rest4 {n:Net} (h:C0 (U5 n) n.irbs = false):My n = false:=by simp [My,h]
theorem Agf (n:Net) (hn:n.Fin):Sy.Spec Tryz.prog 139 [Ap n] [] (Ad (My n)) []:=Ab Γ hm 100 F139 Tryz.ntmps139 rfl fun F hF=>by
 have hl1:=hn.statics
 have hl2:=hn.floods
 have hl3:=hn.vrfs
 have hl4:=hn.irbs
 unfold Aq at hl1 hl2 hl3 hl4
 conv=>whnf
 refine Bf 1 8 (Ap n) E E E ?_
 refine A2 n.statics.length (fun j=>Da (fun _=>E9 n) n.statics j) (fun j=>[(1,.ref 8 (Ap n) 0),(3,Aa j)]) (fun _=>[]) [] (A5 _ _) ⟨⟨E,E,E,E,Y⟩,Y,E,E⟩ ?_
 intro j hj hI
 refine rg ?_;conv=>whnf
 refine ⟨fun h=>?_,fun h=>?_⟩
 ·have hjl:j < n.statics.length:=by simpa using h
  generalize hp:n.statics[j] = s
  have hp':n.statics[(j:Int).toNat]'(by omega) = s:=hp
  refine rg ?_;conv=>whnf
  refine ⟨E,by omega,by omega,?_⟩
  rw [hp']
  conv=>whnf
  (repeat' (first | (refine ⟨fun h=>?_,fun h=>?_⟩ <;> (repeat (first | simp only [Am] at h | simp only [decide_eq_true_eq] at h | simp only [decide_eq_false_iff_not] at h | simp only [bne_iff_ne] at h | simp only [bne_eq_false_iff_eq] at h | simp only [Bool.and_eq_true] at h | simp only [Bool.and_eq_false_iff] at h | simp only [Bool.not_eq_true'] at h | simp only [Bool.not_eq_false'] at h)) <;> ((first|refine rg ?_|refine rd (by kernel_rfl) ?_);(conv=>whnf);repeat((refine aT ?_);(refine rg ?_);(conv=>whnf)))) | (refine Ac rfl (.cons .tmp .nil) ?_ rfl) | (refine ⟨(by kernel_rfl),?_⟩; ((conv=>whnf);repeat((refine aT ?_);(refine rg ?_);(conv=>whnf)))) | (refine ⟨by (omega),by (omega),?_⟩; ((conv=>whnf))) | (refine ⟨by (unfold I64; omega),?_⟩; ((conv=>whnf))) | (refine Ag (A9 s.domain n.domains.length) F35 rfl rfl rfl rfl rfl ?_; ((refine rg ?_);(conv=>whnf))) | (refine Ag (A9 s.port n.ports.length) F35 rfl rfl rfl rfl rfl ?_; ((refine rg ?_);(conv=>whnf))) | (refine At (Te (n.ports[s.port.toNat]'(by omega)) (n.domains[s.domain.toNat]'(by omega)).vlan (hn.tagged _ (List.getElem_mem _))) F207 rfl rfl rfl (by kernel_rfl) rfl ?_; ((refine rd (by kernel_rfl) ?_);(conv=>whnf))) | refine Ax [] hI (by omega) ?_ ⟨⟨rfl,rfl,rfl,rfl,trivial⟩,trivial,rfl,rfl⟩))
  all_goals first
   | exact A3 hI hjl (by rw [hp]; clear hI hF hp'; grind [E9,Am,Ao])
   | (refine congrArg Ad ?_; exact rest1 (Bd hjl (by rw [hp]; clear hI hF hp'; grind [E9,Am,Ao])))
 have a1:C0 (fun _=>E9 n) n.statics = true:=Ca hI (by simpa using h)
 clear hI
 refine rg ?_;conv=>whnf
 refine A2 n.floods.length (fun j=>Da (fun _=>K0 n) n.floods j) (fun j=>[(1,.ref 8 (Ap n) 0),(6,Aa j)]) (fun _=>[]) [] (A5 _ _) ⟨⟨E,E,E,E,Y⟩,Y,E,E⟩ ?_
 clear hj h
 intro j hj hI
 refine rg ?_;conv=>whnf
 refine ⟨fun h=>?_,fun h=>?_⟩
 ·have hjl:j < n.floods.length:=by simpa using h
  refine rg ?_;conv=>whnf
  (repeat' (first | (refine ⟨fun h=>?_,fun h=>?_⟩ <;> (repeat (first | simp only [Am] at h | simp only [decide_eq_true_eq] at h | simp only [decide_eq_false_iff_not] at h | simp only [Bool.and_eq_true] at h | simp only [Bool.and_eq_false_iff] at h | simp only [Bool.not_eq_true'] at h | simp only [Bool.not_eq_false'] at h)) <;> ((first|refine rg ?_|refine rd (by kernel_rfl) ?_);(conv=>whnf))) | (refine Ac rfl (.cons .tmp .nil) ?_ rfl) | (refine ⟨(by kernel_rfl),?_⟩; ((conv=>whnf);repeat((refine aT ?_);(refine rg ?_);(conv=>whnf)))) | (refine ⟨by (omega),by (omega),?_⟩; ((conv=>whnf))) | (refine ⟨by (unfold I64; omega),?_⟩; ((conv=>whnf))) | (refine At (A9 (n.floods[(j:Int).toNat]'(by omega)).dev n.devices.length) F35 rfl rfl rfl (by kernel_rfl) rfl ?_; ((refine rd (by kernel_rfl) ?_);(conv=>whnf))) | refine Ax [] hI (by omega) ?_ ⟨⟨rfl,rfl,rfl,rfl,trivial⟩,trivial,rfl,rfl⟩))
  all_goals (simp only [Int.toNat_natCast] at *)
  all_goals first
   | exact A3 hI hjl (by clear hI hF; grind [K0,Am])
   | (refine congrArg Ad ?_; exact rest2 (Bd hjl (by clear hI hF; grind [K0,Am])))
 have a2:C0 (fun _=>K0 n) n.floods = true:=Ca hI (by simpa using h)
 clear hI
 refine rg ?_;conv=>whnf
 refine A2 n.vrfs.length (fun j=>Da (fun _=>Y1 n) n.vrfs j) (fun j=>[(1,.ref 8 (Ap n) 0),(7,Aa j)]) (fun _=>[]) [] (A5 _ _) ⟨⟨E,E,E,E,Y⟩,Y,E,E⟩ ?_
 clear hj h
 intro j hj hI
 refine rg ?_;conv=>whnf
 refine ⟨fun h=>?_,fun h=>?_⟩
 ·have hjl:j < n.vrfs.length:=by simpa using h
  have h1:=hn.imports _ (List.getElem_mem hjl)
  have h2:=hn.exports _ (List.getElem_mem hjl)
  generalize hp:n.vrfs[j] = v at h1 h2
  have hp':n.vrfs[(j:Int).toNat]'(by omega) = v:=hp
  refine rg ?_;conv=>whnf
  refine ⟨E,by omega,by omega,?_⟩
  rw [hp']
  conv=>whnf
  (repeat' (first | (refine ⟨fun h=>?_,fun h=>?_⟩ <;> (repeat (first | simp only [Am] at h | simp only [decide_eq_true_eq] at h | simp only [decide_eq_false_iff_not] at h | simp only [Bool.and_eq_true] at h | simp only [Bool.or_eq_true] at h | simp only [Bool.and_eq_false_iff] at h | simp only [Bool.or_eq_false_iff] at h | simp only [Bool.not_eq_true'] at h | simp only [Bool.not_eq_false'] at h)) <;> ((refine rg ?_);(conv=>whnf);repeat((refine aT ?_);(refine rg ?_);(conv=>whnf)))) | (refine Ac rfl (.cons .tmp .nil) ?_ rfl) | (refine ⟨by (unfold I64; omega),?_⟩; ((conv=>whnf))) | (refine Ag (A9 v.dev n.devices.length) F35 rfl rfl rfl rfl rfl ?_; ((refine rg ?_);(conv=>whnf))) | (refine Ag (L0 v.imports 65535 h1) F206 rfl rfl rfl rfl rfl ?_; ((refine rg ?_);(conv=>whnf))) | (refine Ag (L0 v.exports 65535 h2) F206 rfl rfl rfl rfl rfl ?_; ((refine rg ?_);(conv=>whnf))) | refine Ax [] hI (by omega) ?_ ⟨⟨rfl,rfl,rfl,rfl,trivial⟩,trivial,rfl,rfl⟩))
  all_goals first
   | exact A3 hI hjl (by rw [hp]; clear hI hF hp'; grind [Y1,Adh,Am])
   | (refine congrArg Ad ?_; exact rest3 (Bd hjl (by rw [hp]; clear hI hF hp'; grind [Y1,Adh,Am])))
 have a3:C0 (fun _=>Y1 n) n.vrfs = true:=Ca hI (by simpa using h)
 clear hI
 refine rg ?_;conv=>whnf
 refine A2 n.irbs.length (fun j=>Da (U5 n) n.irbs j) (fun j=>[(1,.ref 8 (Ap n) 0),(9,Aa j)]) (fun _=>[]) [] (A5 _ _) ⟨⟨E,E,E,E,Y⟩,Y,E,E⟩ ?_
 clear hj h
 intro j hj hI
 refine rg ?_;conv=>whnf
 refine ⟨fun h=>?_,fun h=>?_⟩
 ·have hjl:j < n.irbs.length:=by simpa using h
  generalize hp:n.irbs[j] = x
  have hp':n.irbs[(j:Int).toNat]'(by omega) = x:=hp
  refine rg ?_;conv=>whnf
  refine ⟨E,by omega,by omega,?_⟩
  rw [hp']
  conv=>whnf
  (repeat' (first | (refine ⟨fun h=>?_,fun h=>?_⟩ <;> (repeat (first | simp only [Am] at h | simp only [decide_eq_true_eq] at h | simp only [decide_eq_false_iff_not] at h | simp only [bne_iff_ne] at h | simp only [bne_eq_false_iff_eq] at h | simp only [Bool.and_eq_true] at h | simp only [Bool.and_eq_false_iff] at h | simp only [Bool.not_eq_true'] at h | simp only [Bool.not_eq_false'] at h)) <;> ((first|refine rg ?_|refine rd (by kernel_rfl) ?_);(conv=>whnf);repeat((refine aT ?_);(refine rg ?_);(conv=>whnf)))) | (refine Ac rfl (.cons .tmp .nil) ?_ rfl) | (refine ⟨(by kernel_rfl),?_⟩; ((conv=>whnf);repeat((refine aT ?_);(refine rg ?_);(conv=>whnf)))) | (refine ⟨by (omega),by (omega),?_⟩; ((conv=>whnf))) | (refine ⟨by (unfold I64; omega),?_⟩; ((conv=>whnf))) | (refine Ag (A9 x.domain n.domains.length) F35 rfl rfl rfl rfl rfl ?_; ((refine rg ?_);(conv=>whnf))) | (refine Ag (A9 x.vrf n.vrfs.length) F35 rfl rfl rfl rfl rfl ?_; ((refine rg ?_);(conv=>whnf))) | refine Ax [] hI (by omega) ?_ ⟨⟨rfl,rfl,rfl,rfl,trivial⟩,trivial,rfl,rfl⟩))
  all_goals first
   | exact A3 hI hjl (by rw [hp]; clear hI hF hp'; grind [U5,Am,Ao])
   | (refine congrArg Ad ?_; exact rest4 (Bd hjl (by rw [hp]; clear hI hF hp'; grind [U5,Am,Ao])))
 have a4:C0 (U5 n) n.irbs = true:=Ca hI (by simpa using h)
 refine rg ?_;conv=>whnf
 exact Ac E (.cons .tmp .nil) (congrArg Ad (by simp [My,a1,a2,a3,a4])) E
theorem Dw (n:Net) (hn:n.Fin):Sy.Spec Tryz.prog 74 [Ap n] [] (Ad (Ah n)) []:=Ab Γ hm 100 F74 Tryz.ntmps74 rfl fun F hF=>by
 conv=>whnf
 (repeat' (first | (refine ⟨fun h=>?_,fun h=>?_⟩ <;> (repeat (first | simp only [decide_eq_true_eq] at h | simp only [decide_eq_false_iff_not] at h | simp only [Bool.and_eq_true] at h | simp only [Bool.and_eq_false_iff] at h)) <;> ((refine rg ?_);(conv=>whnf);repeat((first|refine aF ?_|refine aT ?_);(refine rg ?_);(conv=>whnf)))) | (refine Ac rfl (.cons .tmp .nil) ?_ rfl) | (refine Ag (Y4 n hn) F136 rfl rfl rfl rfl rfl ?_; ((refine rg ?_);(conv=>whnf))) | (refine Ag (Ado n hn) F137 rfl rfl rfl rfl rfl ?_; ((refine rg ?_);(conv=>whnf))) | (refine Ag (Adp n hn) F138 rfl rfl rfl rfl rfl ?_; ((refine rg ?_);(conv=>whnf))) | (refine Ag (Agf n hn) F139 rfl rfl rfl rfl rfl ?_; ((refine rg ?_);(conv=>whnf)))))
 all_goals (refine congrArg Ad ?_; clear hF)
 all_goals (first | grind [Ah,Alg,My] | trace_state)
theorem Aaf (a:Int):Sy.Spec Tryz.prog 283 [Aa a] [] (Ad false) []:=Ab Γ hm 100 F283 Tryz.ntmps283 rfl fun F hF=>by
 conv=>whnf
 exact Ac E (.cons .tmp .nil) (congrArg Ad (by simp)) E
theorem Aae (a:Int):Sy.Spec Tryz.prog 284 [Ay a] [] (Ad false) []:=Ab Γ hm 100 F284 Tryz.ntmps284 rfl fun F hF=>by
 conv=>whnf
 exact Ac E (.cons .tmp .nil) (congrArg Ad (by simp)) E
def cmpI (a b:Int):Int:=if a < b then -1 else if a > b then 1 else 0
theorem Ho (a b:Int):Sy.Spec Tryz.prog 231 [Aa a,Aa b] [] (Aa (cmpI a b)) []:=Ab Γ hm 100 F231 Tryz.ntmps231 rfl fun F hF=>by
 conv=>whnf
 (repeat' (first | (refine ⟨fun h=>?_,fun h=>?_⟩ <;> (repeat (first | simp only [decide_eq_true_eq] at h | simp only [decide_eq_false_iff_not] at h)) <;> ((refine rg ?_);(conv=>whnf))) | (refine Ac rfl (.cons .tmp .nil) ?_ rfl) | (refine Ag (Aaf a) F283 rfl rfl rfl rfl rfl ?_; ((refine rg ?_);(conv=>whnf))) | (refine Ag (Aaf b) F283 rfl rfl rfl rfl rfl ?_; ((refine rg ?_);(conv=>whnf);repeat((refine aF ?_);(refine rg ?_);(conv=>whnf))))))
 all_goals (refine congrArg Aa ?_; clear hF; grind [cmpI])
theorem Ae8 (a b:Int):Sy.Spec Tryz.prog 232 [Ay a,Ay b] [] (Aa (cmpI a b)) []:=Ab Γ hm 100 F232 Tryz.ntmps232 rfl fun F hF=>by
 conv=>whnf
 (repeat' (first | (refine ⟨fun h=>?_,fun h=>?_⟩ <;> (repeat (first | simp only [decide_eq_true_eq] at h | simp only [decide_eq_false_iff_not] at h)) <;> ((refine rg ?_);(conv=>whnf))) | (refine Ac rfl (.cons .tmp .nil) ?_ rfl) | (refine Ag (Aae a) F284 rfl rfl rfl rfl rfl ?_; ((refine rg ?_);(conv=>whnf))) | (refine Ag (Aae b) F284 rfl rfl rfl rfl rfl ?_; ((refine rg ?_);(conv=>whnf);repeat((refine aF ?_);(refine rg ?_);(conv=>whnf))))))
 all_goals (refine congrArg Aa ?_; clear hF; grind [cmpI])
def orI:List Int → Int
 | []=>0
 | x :: l=>if x = 0 then orI l else x
theorem Xx:∀ {l:List Int} {j:Nat},(∀ i (h:i < l.length),i < j → l[i] = 0) → orI l = orI (l.drop j)
 | l,0,_=>rfl
 | [],j + 1,_=>rfl
 | x :: l,j + 1,h=>by
  have h0:=h 0 (by simp) (by omega)
  simp only [List.getElem_cons_zero] at h0
  rw [orI,if_pos h0,List.drop_succ_cons]
  exact Xx fun i hi hij=>h (i + 1) (by simp; omega) (by omega)
theorem orS (l:List Int) (hl:Aq l):Sy.Spec Tryz.prog 230 [.sl 1 Aa l] [] (Aa (orI l)) []:=Ab Γ hm 100 F230 Tryz.ntmps230 rfl fun F hF=>by
 unfold Aq at hl
 conv=>whnf
 refine A2 l.length (fun j=>∀ i (h:i < l.length),i < j → l[i] = 0) (fun j=>[(3,Aa 0),(6,.sl 1 Aa l),(7,Aa l.length),(8,Aa j)]) (fun _=>[]) [] (fun i h hj=>absurd hj (by omega)) ⟨⟨E,E,E,E,E,E,E,E,Y⟩,Y,E,E⟩ ?_
 intro j hj hI
 refine rg ?_;conv=>whnf
 (repeat' (first | (refine ⟨fun h=>?_,fun h=>?_⟩ <;> (repeat (first | simp only [decide_eq_true_eq] at h | simp only [decide_eq_false_iff_not] at h | simp only [bne_iff_ne] at h | simp only [bne_eq_false_iff_eq] at h)) <;> ((refine rg ?_);(conv=>whnf))) | (refine Ac rfl (.cons .tmp .nil) ?_ rfl) | (refine ⟨(by kernel_rfl),?_⟩; ((conv=>whnf))) | (refine ⟨by (omega),by (omega),?_⟩; ((conv=>whnf))) | (refine ⟨by (unfold I64; omega),?_⟩; ((conv=>whnf))) | refine Ax [] hI (by omega) ?_ ⟨⟨rfl,rfl,rfl,rfl,rfl,rfl,rfl,rfl,trivial⟩,trivial,rfl,rfl⟩))
 all_goals try (refine congrArg Aa ?_)
 ·have hj2:j < l.length:=by omega
  rw [Xx hI,List.drop_eq_getElem_cons hj2,orI,if_neg (by simpa using h)]
  rfl
 ·intro i hi hij
  rcases Nat.lt_or_ge i j with h1 | h1
  ·exact hI i hi h1
  ·have:i = j:=by omega
   subst this
   simpa using h
 ·rw [Xx hI,List.drop_of_length_le (by omega)]
  rfl
theorem L4 (a b:Int) (l:List Int):decide (orI (cmpI a b :: l) < 0) = if a ≠ b then decide (a < b) else decide (orI l < 0):=by
 rw [orI,cmpI]
 by_cases h1:a < b
 ·simp [h1,show a ≠ b by omega]
 ·by_cases h2:a > b
  ·simp [h1,h2,show a ≠ b by omega]
  ·simp [show a = b by omega]
structure Vec where
 (root cost bridge port own:Int)
def Dl (v:Vec):SV:=.agg [Aa v.root,Aa v.cost,Aa v.bridge,Aa v.port,Aa v.own]
def Ce (a b:Vec):Bool :=
 if a.root ≠ b.root then decide (a.root < b.root) else if a.cost ≠ b.cost then decide (a.cost < b.cost) else if a.bridge ≠ b.bridge then decide (a.bridge < b.bridge) else
  if a.port ≠ b.port then decide (a.port < b.port) else decide (a.own < b.own)
theorem lessS (a b:Vec):Sy.Spec Tryz.prog 287 [Dl a,Dl b] [] (Ad (Ce a b)) []:=Ab Γ hm 100 F287 Tryz.ntmps287 rfl fun F hF=>by
 conv=>whnf
 (repeat' (first | (refine ⟨fun h=>?_,fun h=>?_⟩ <;> (repeat (first | simp only [beq_iff_eq] at h | simp only [beq_eq_false_iff_ne] at h | simp only [Bool.and_eq_true] at h | simp only [Bool.and_eq_false_iff] at h)) <;> ((refine rg ?_);(conv=>whnf))) | (refine Ac rfl (.cons .tmp .nil) ?_ rfl) | (refine ⟨(by kernel_rfl),?_⟩; ((conv=>whnf))) | (refine At (Ho a.root b.root) F231 rfl rfl rfl (by kernel_rfl) rfl ?_; ((refine rd (by kernel_rfl) ?_);(conv=>whnf))) | (refine At (Ho a.cost b.cost) F231 rfl rfl rfl (by kernel_rfl) rfl ?_; ((refine rd (by kernel_rfl) ?_);(conv=>whnf))) | (refine At (Ho a.bridge b.bridge) F231 rfl rfl rfl (by kernel_rfl) rfl ?_; ((refine rd (by kernel_rfl) ?_);(conv=>whnf))) | (refine At (Ho a.port b.port) F231 rfl rfl rfl (by kernel_rfl) rfl ?_; ((refine rd (by kernel_rfl) ?_);(conv=>whnf))) | (refine At (Ho a.own b.own) F231 rfl rfl rfl (by kernel_rfl) rfl ?_; ((refine rd (by kernel_rfl) ?_);(conv=>whnf))) | (refine Aom [33] (orS [cmpI a.root b.root,cmpI a.cost b.cost,cmpI a.bridge b.bridge,cmpI a.port b.port,cmpI a.own b.own] (by simp [Aq])) F230 rfl (.cons (.lit rfl rfl rfl) .nil) rfl (by kernel_rfl) rfl ?_; ((refine rd (by kernel_rfl) ?_);(conv=>whnf)))))
 all_goals (refine congrArg Ad ?_; clear hF)
 ·grind [Ce]
 ·rw [L4,L4,L4,L4,L4,Ce]
  by_cases h1:a.own = b.own
  ·simp [h1,orI]
  ·simp [h1]
theorem Amx (a b:Vec):Sy.Spec Tryz.prog 203 [Dl a,Dl b] [] (Ad (Ce a b)) []:=Ab Γ hm 100 F203 Tryz.ntmps203 rfl fun F hF=>by
 conv=>whnf
 (repeat' (first | (refine ⟨fun h=>?_,fun h=>?_⟩ <;> (repeat (first | simp only [bne_iff_ne] at h | simp only [bne_eq_false_iff_eq] at h)) <;> ((refine rg ?_);(conv=>whnf))) | (refine Ac rfl (.cons .tmp .nil) ?_ rfl)))
 all_goals (refine congrArg Ad ?_; clear hF; grind [Ce])
def Od (lt:Int → Int → Bool) (x:Int):List Int → List Int
 | []=>[x]
 | y :: r=>if lt x y then y :: Od lt x r else x :: y :: r
def Eo (lt:Int → Int → Bool) (l:List Int):List Int:=l.foldl (fun r x=>Od lt x r) []
def Qy (lt:Int → Int → Bool) (l:List Int):List Int:=(Eo lt l).reverse
theorem U6 (lt:Int → Int → Bool) (x:Int):∀ r,(Od lt x r).Perm (x :: r)
 | []=>.refl _
 | y :: r=>by
  rw [Od]
  split
  ·exact ((U6 lt x r).cons y).trans (.swap x y r)
  ·exact .refl _
theorem Ml (lt:Int → Int → Bool):∀ (l r:List Int),(l.foldl (fun r x=>Od lt x r) r).Perm (l ++ r)
 | [],r=>.refl _
 | x :: l,r=>by
  rw [List.foldl_cons]
  refine (Ml lt l _).trans ?_
  refine ((U6 lt x r).append_left l).trans ?_
  simp
theorem Kn (lt:Int → Int → Bool) (l:List Int):(Eo lt l).Perm l:=by
 have:=Ml lt l []
 simpa [Eo] using this
theorem Si (lt:Int → Int → Bool) (l:List Int):(Qy lt l).Perm l:=(List.reverse_perm _).trans (Kn lt l)
theorem Aei (lt:Int → Int → Bool) (l:List Int) (i:Nat) (h:i < l.length):Eo lt (l.take (i + 1)) = Od lt l[i] (Eo lt (l.take i)):=by
 rw [List.take_succ_eq_append_getElem h,Eo,List.foldl_append]
 rfl
mutual
theorem Tt {K:List Nat}:∀ x:SV,x.inn [] = true → x.inn K = true
 | .ptr _ _,h=>by simp [SV.inn,Ld] at h
 | .rpt _ _ _ _,h=>by simp [SV.inn,Ld] at h
 | .osl _,h=>by simp [SV.inn,Ld] at h
 | .agg l,h=>by simp only [SV.inn] at h ⊢; exact Oe l h
 | .tup l,h=>by simp only [SV.inn] at h ⊢; exact Oe l h
 | .ifc _ x,h=>by simp only [SV.inn] at h ⊢; exact Tt x h
 | .clo _ f l,h=>by simp only [SV.inn,Bool.and_eq_true] at h ⊢; exact ⟨Oe f h.1,Oe l h.2⟩
 | .top,_=>rfl
 | .val _,_=>rfl
 | .sl _ _ _,_=>rfl
 | .ref _ _ _,_=>rfl
theorem Oe {K:List Nat}:∀ l:List SV,Cj [] l = true → Cj K l = true
 | [],_=>rfl
 | x :: l,h=>by simp only [Cj,Bool.and_eq_true] at h ⊢; exact ⟨Tt x h.1,Oe l h.2⟩
end
theorem Yb (l:List Int) (c:Int → Int → Int) (Q:Int → Prop) (f:FuncId) (first cap:List SV) (hc:(SV.clo (.func f) first cap).inn [] = true) (hf:∀ a b,Q a → Q b → Jb Tryz.prog f (first ++ [Aa a,Aa b] ++ cap) (Aa (c a b))) (hQ:∀ a ∈ l,Q a) (hl:Aq l) :
  Sy.Spec Tryz.prog 327 [.osl 0,Aa 0,Aa l.length,.clo (.func f) first cap] [(0,.row 1 Aa l)] (.tup []) [(0,.row 1 Aa (Qy (fun a b=>decide (c a b < 0)) l))]:=Ab Γ hm 100 F327 Tryz.ntmps327 rfl fun F hF=>by
 unfold Aq at hl
 have hin:∀ x y:Int,Cj [] (first ++ [Aa x,Aa y] ++ cap) = true:=fun x y=>Dd hc rfl
 have hc':(SV.clo (.func f) first cap).inn [0] = true:=Tt _ hc
 generalize hlt:(fun a b=>decide (c a b < 0)) = lt
 conv=>whnf
 (repeat' (refine ⟨by (unfold I64; omega),?_⟩; ((conv=>whnf))))
 refine A2 l.length (fun _=>True) (fun j=>[(0,.osl 0),(1,Aa 0),(2,Aa l.length),(3,.clo (.func f) first cap),(8,Aa ((j:Int) + 1))]) (fun j=>[(0,.row 1 Aa ((Eo lt (l.take (j + 1))).reverse ++ l.drop (j + 1)))]) [] Y ⟨⟨E,E,E,E,E,E,Bm _,hc',E,E,Y⟩,⟨.inl (congrArg (Ob.row 1 Aa) ?_),E,Y⟩,E,E⟩ ?_
 ·cases l with
  | nil=>rfl
  | cons a l=>simp [Eo,Od]
 intro j hj _
 refine rg ?_;conv=>whnf
 refine ⟨fun h=>?_,fun h=>?_⟩
 ·have hjl:j + 1 < l.length:=by have:=of_decide_eq_true h; omega
  have hdrop:l.drop (j + 1) = l[j + 1] :: l.drop (j + 1 + 1):=List.drop_eq_getElem_cons hjl
  have htake:=Aei lt l (j + 1) hjl
  have hr:(Eo lt (l.take (j + 1))).length = j + 1:=by rw [(Kn lt _).length_eq]; simp; omega
  have hQx:Q l[j + 1]:=hQ _ (List.getElem_mem hjl)
  have hQr:∀ z ∈ Eo lt (l.take (j + 1)),Q z:=fun z hz=>hQ z (List.mem_of_mem_take ((Kn lt _).mem_iff.1 hz))
  rw [hdrop]
  generalize l[j + 1] = x at htake hQx
  generalize Eo lt (l.take (j + 1)) = r at htake hr hQr
  generalize hR:l.drop (j + 1 + 1) = R at *
  refine rg ?_;conv=>whnf
  refine Oy (α:={p:List Int × List Int // Od lt x r = p.2.reverse ++ Od lt x p.1 ∧ p.1.length + p.2.length = j + 1 ∧ ∀ z ∈ p.1,Q z}) (fun p=>[(0,.osl 0),(1,Aa 0),(2,Aa l.length),(3,.clo (.func f) first cap),(8,Aa ((j:Int) + 1)),(9,Aa p.1.1.length)]) (fun p=>[(0,.row 1 Aa (p.1.1.reverse ++ x :: (p.1.2 ++ R)))]) (fun p=>p.1.1.length) ⟨(r,[]),by simp,by simpa using hr,hQr⟩ []
   ⟨⟨rfl,rfl,rfl,rfl,rfl,rfl,Bm _,hc',rfl,rfl,congrArg Aa (by rw [hr]; omega),rfl,trivial⟩,⟨.inl rfl,rfl,trivial⟩,rfl,rfl⟩ ?_
  rintro ⟨⟨A,B⟩,hp1,hp2,hp3⟩
  simp only at hp1 hp2 hp3
  dsimp only
  cases A with
  | nil =>
   simp only [Od] at hp1
   (refine rg ?_;(conv=>whnf);refine aF ?_;refine rd (by kernel_rfl) ?_;conv=>whnf)
   refine ⟨(by kernel_rfl),?_⟩
   ((conv=>whnf);refine aF ?_;refine rg ?_;conv=>whnf)
   refine ⟨by unfold I64; omega,?_⟩
   conv=>whnf
   refine Ax [] Y (by omega) Y ⟨⟨E,E,E,E,E,E,Bm _,hc',congrArg Aa (by omega),E,Y⟩,⟨.inl (congrArg (Ob.row 1 Aa) ?_),E,Y⟩,E,E⟩
   show (Eo lt (l.take (j + 1 + 1))).reverse ++ l.drop (j + 1 + 1) = [].reverse ++ x :: (B ++ R)
   rw [htake,hp1,hR]
   simp
  | cons y A =>
   have hQy:=hp3 y (by simp)
   refine rg ?_;conv=>whnf
   refine ⟨fun _=>?_,fun h=>absurd (of_decide_eq_false h) (by simp)⟩
   refine rd (by kernel_rfl) ?_;conv=>whnf
   have e1:((y :: A).reverse ++ x :: (B ++ R))[(((y :: A).length:Nat):Int).toNat]'(by simp) = x:=by simp
   have e2:((y :: A).reverse ++ x :: (B ++ R))[((((y :: A).length:Nat):Int) - 1).toNat]'(by simp) = y:=by simp
   refine ⟨by omega,by simp,?_⟩
   conv=>whnf
   refine ⟨E,by simp,?_⟩
   rw [e1]
   conv=>whnf
   refine ⟨by unfold I64; simp at hp2; simp; omega,?_⟩
   conv=>whnf
   refine ⟨by simp,by simp,?_⟩
   conv=>whnf
   refine ⟨E,by simp,?_⟩
   rw [e2]
   conv=>whnf
   refine Ah6 (hf x y hQx hQy) E E E (by simp only [hin]; rfl) (by kernel_rfl) E ?_
   refine rd (by kernel_rfl) ?_;conv=>whnf
   refine ⟨(by kernel_rfl),?_⟩
   conv=>whnf
   refine ⟨fun h2=>?_,fun h2=>?_⟩
   ·refine rg ?_;conv=>whnf
    refine ⟨by unfold I64; simp at hp2; simp; omega,?_⟩
    conv=>whnf
    refine ⟨by unfold I64; simp at hp2; simp; omega,?_⟩
    conv=>whnf
    refine ⟨by simp,by simp,?_⟩
    conv=>whnf
    refine ⟨E,by simp,?_⟩
    rw [e2]
    conv=>whnf
    refine ⟨by omega,by simp,?_⟩
    conv=>whnf
    refine ⟨E,by simp,?_⟩
    rw [e1]
    conv=>whnf
    refine ⟨by omega,by simp,?_⟩
    conv=>whnf
    refine ⟨E,by simp,y,E,E,?_⟩
    conv=>whnf
    refine ⟨by simp,by simp,?_⟩
    conv=>whnf
    refine ⟨E,by simp,x,E,E,?_⟩
    conv=>whnf
    refine ⟨(by kernel_rfl),?_⟩
    conv=>whnf
    refine ⟨by unfold I64; simp at hp2; simp; omega,?_⟩
    conv=>whnf
    have hxy:lt x y = true:=by rw [← hlt]; exact h2
    refine Q3 (α:={p:List Int × List Int // Od lt x r = p.2.reverse ++ Od lt x p.1 ∧ p.1.length + p.2.length = j + 1 ∧ ∀ z ∈ p.1,Q z}) (L:=fun p=>[(0,.osl 0),(1,Aa 0),(2,Aa l.length),(3,.clo (.func f) first cap),(8,Aa ((j:Int) + 1)),(9,Aa p.1.1.length)]) (O:=fun p=>[(0,.row 1 Aa (p.1.1.reverse ++ x :: (p.1.2 ++ R)))]) (μ:=fun p=>p.1.1.length) (x:=⟨(y :: A,B),hp1,hp2,hp3⟩)
     ⟨(A,y :: B),by simp only [hp1,Od,hxy,if_true]; simp,by simp at hp2 ⊢; omega,fun z hz=>hp3 z (by simp [hz])⟩ [] (by simp)
     ⟨⟨rfl,rfl,rfl,rfl,rfl,rfl,Bm _,hc',rfl,rfl,congrArg Aa (by simp),rfl,trivial⟩,⟨.inl (congrArg (Ob.row 1 Aa) ?_),rfl,trivial⟩,rfl,rfl⟩
    simp
   ·refine rg ?_;conv=>whnf
    have hxy:lt x y = false:=by rw [← hlt]; exact h2
    refine ⟨by unfold I64; omega,?_⟩
    conv=>whnf
    refine Ax [] Y (by omega) Y ⟨⟨E,E,E,E,E,E,Bm _,hc',congrArg Aa (by omega),E,Y⟩,⟨.inl (congrArg (Ob.row 1 Aa) ?_),E,Y⟩,E,E⟩
    show (Eo lt (l.take (j + 1 + 1))).reverse ++ l.drop (j + 1 + 1) = (y :: A).reverse ++ x :: (B ++ R)
    rw [htake,hp1,hR,Od,hxy]
    simp
 ·have h:=of_decide_eq_false h
  have e:(Eo lt (l.take (j + 1))).reverse ++ l.drop (j + 1) = Qy lt l:=by
   rw [List.take_of_length_le (by omega),List.drop_of_length_le (by omega),List.append_nil]
   rfl
  rw [e]
  refine rg ?_;conv=>whnf
  exact Bx E .nil [] [(0,.row 1 Aa (Qy lt l))] (fun _ h=>h) E E ⟨Y,⟨.inl E,E,Y⟩,E,E⟩
theorem Ape (l:List Int) (c:Int → Int → Int) (Q:Int → Prop) (f:FuncId) (first cap:List SV) (hc:(SV.clo (.func f) first cap).inn [] = true) (hf:∀ a b,Q a → Q b → Jb Tryz.prog f (first ++ [Aa a,Aa b] ++ cap) (Aa (c a b))) (hQ:∀ a ∈ l,Q a) (hl:l.length < 20) :
  Sy.Spec Tryz.prog 282 [.osl 0,Aa l.length,.clo (.func f) first cap] [(0,.row 1 Aa l)] (.tup []) [(0,.row 1 Aa (Qy (fun a b=>decide (c a b < 0)) l))]:=Ab Γ hm 100 F282 Tryz.ntmps282 rfl fun F hF=>by
 have hc':(SV.clo (.func f) first cap).inn [0] = true:=Tt _ hc
 have hins:=Yb l c Q f first cap hc hf hQ (by unfold Aq; omega)
 generalize Qy (fun a b=>decide (c a b < 0)) l = l' at hins
 conv=>whnf
 refine Au 0 (fun j=>[(0,.osl 0),(1,Aa l.length),(2,.clo (.func f) first cap),(6,Aa 20),(7,Aa 0),(8,Aa 20)]) (fun _=>[(0,.row 1 Aa l)]) [] ⟨⟨E,E,E,E,Bm _,hc',E,E,E,E,E,E,Y⟩,⟨.inl E,E,Y⟩,E,E⟩ ?_
 intro j hj
 refine rg ?_;conv=>whnf
 refine ⟨fun h=>absurd (of_decide_eq_true h) (by omega),fun _=>?_⟩
 refine rg ?_;conv=>whnf
 refine Ai (Ak [] E F327 hins (Hb _) ⟨E,Y⟩ (by
  have h0:Cj [0] [.osl 0,Aa 0,Aa l.length,.clo (.func f) first cap] = true:=by simp only [Cj,hc']; rfl
  simp only [Ja,Obs.keys,List.map_cons,List.map_nil,h0]; rfl) ⟨.inl rfl,trivial⟩) rfl rfl ?_
 refine rg ?_;conv=>whnf
 refine Au 0 (fun j=>[(1,Aa l.length),(6,Aa 20)]) (fun _=>[(0,.row 1 Aa l')]) [] ⟨⟨E,E,E,E,Y⟩,⟨.inl E,E,Y⟩,E,E⟩ ?_
 clear hj
 intro j hj
 refine rg ?_;conv=>whnf
 refine ⟨fun h=>absurd (of_decide_eq_true h) (by omega),fun _=>?_⟩
 refine rg ?_;conv=>whnf
 exact Bx E .nil [] [(0,.row 1 Aa l')] (fun _ h=>h) E E ⟨Y,⟨.inl E,E,Y⟩,E,E⟩
theorem Ac1 (l:List Int) (c:Int → Int → Int) (Q:Int → Prop) (f:FuncId) (first cap:List SV) (hc:(SV.clo (.func f) first cap).inn [] = true) (hf:∀ a b,Q a → Q b → Jb Tryz.prog f (first ++ [Aa a,Aa b] ++ cap) (Aa (c a b))) (hQ:∀ a ∈ l,Q a) (hl:l.length < 20) :
  Sy.Spec Tryz.prog 228 [.osl 0,.clo (.func f) first cap] [(0,.row 1 Aa l)] (.tup []) [(0,.row 1 Aa (Qy (fun a b=>decide (c a b < 0)) l))]:=Ab Γ hm 100 F228 Tryz.ntmps228 rfl fun F hF=>by
 have hc':(SV.clo (.func f) first cap).inn [0] = true:=Tt _ hc
 have hst:=Ape l c Q f first cap hc hf hQ hl
 generalize Qy (fun a b=>decide (c a b < 0)) l = l' at hst
 conv=>whnf
 refine Ai (Ak [] E F282 hst (Hb _) ⟨E,Y⟩ (by
  have h0:Cj [0] [.osl 0,Aa l.length,.clo (.func f) first cap] = true:=by simp only [Cj,hc']; rfl
  simp only [Ja,Obs.keys,List.map_cons,List.map_nil,h0]; rfl) ⟨.inl rfl,trivial⟩) rfl rfl ?_
 refine rg ?_;conv=>whnf
 exact Bx E .nil [] [(0,.row 1 Aa l')] (fun _ h=>h) E E ⟨Y,⟨.inl E,E,Y⟩,E,E⟩
def Zc (n:Net) (a b:Int):Int:=orI [cmpI (nth n.devices a).prio (nth n.devices b).prio,cmpI (nth n.devices a).mac (nth n.devices b).mac]
theorem ranks1 (n:Net) (a b:Int) (ha:0 ≤ a ∧ a < n.devices.length) (hb:0 ≤ b ∧ b < n.devices.length):Sy.Spec Tryz.prog 229 [Aa a,Aa b,.ref 8 (Ap n) 0] [] (Aa (Zc n a b)) []:=Ab Γ hm 100 F229 Tryz.ntmps229 rfl fun F hF=>by
 have e1:Zc n a b = orI [cmpI (n.devices[a.toNat]'(by omega)).prio (n.devices[b.toNat]'(by omega)).prio,cmpI (n.devices[a.toNat]'(by omega)).mac (n.devices[b.toNat]'(by omega)).mac]:=by
  rw [Zc,Ao (by omega),Ao (by omega)]
 rw [e1]
 conv=>whnf
 (repeat' (first | (refine Ac rfl (.cons .tmp .nil) ?_ rfl) | (refine ⟨(by kernel_rfl),?_⟩; ((conv=>whnf))) | (refine ⟨by (omega),by (omega),?_⟩; ((conv=>whnf))) | (refine At (Ho (n.devices[a.toNat]'(by omega)).prio (n.devices[b.toNat]'(by omega)).prio) F231 rfl rfl rfl (by kernel_rfl) rfl ?_; ((refine rd (by kernel_rfl) ?_);(conv=>whnf))) | (refine At (Ae8 (n.devices[a.toNat]'(by omega)).mac (n.devices[b.toNat]'(by omega)).mac) F232 rfl rfl rfl (by kernel_rfl) rfl ?_; ((refine rd (by kernel_rfl) ?_);(conv=>whnf))) | (refine Aom [28] (orS [cmpI (n.devices[a.toNat]'(by omega)).prio (n.devices[b.toNat]'(by omega)).prio,cmpI (n.devices[a.toNat]'(by omega)).mac (n.devices[b.toNat]'(by omega)).mac] (by simp [Aq])) F230 rfl (.cons (.lit rfl rfl rfl) .nil) rfl (by kernel_rfl) rfl ?_; ((refine rd (by kernel_rfl) ?_);(conv=>whnf)))))
 all_goals rfl
def Tj (m:Nat):List Int:=(List.range m).map fun (i:Nat)=>(i:Int)
theorem Z4 (m:Nat):Tj (m + 1) = Tj m ++ [(m:Int)]:=by simp [Tj,List.range_succ]
theorem Iz (m:Nat):(Tj m).length = m:=by simp [Tj]
def Hv (ord:List Int):Nat → List Int
 | 0=>List.replicate ord.length 0
 | j + 1=>(Hv ord j).set (nth ord j).toNat j
theorem Hc (ord:List Int):∀ j,(Hv ord j).length = ord.length
 | 0=>by simp [Hv]
 | j + 1=>by simp [Hv,Hc ord j]
def D3 (n:Net):List Int:=Qy (fun a b=>decide (Zc n a b < 0)) (Tj n.devices.length)
def Cn (n:Net):List Int:=Hv (D3 n) n.devices.length
theorem ranksS (n:Net) (hn:n.Fin):Sy.Spec Tryz.prog 156 [Ap n] [] (.sl 1 Aa (if Ah n then Cn n else [])) []:=Ab Γ hm 100 F156 Tryz.ntmps156 rfl fun F hF=>by
 have hl:=hn.devices
 unfold Aq at hl
 conv=>whnf
 refine Ag (B4 n hn) F67 E E E E E ?_
 refine rg ?_;conv=>whnf
 refine ⟨fun h=>?_,fun h=>?_⟩
 ·have h:Ah n = false:=by simpa using h
  refine rg ?_;conv=>whnf
  refine An 2 1 Aa E ?_
  exact Ac E (.cons .tmp .nil) (by rw [h]; rfl) E
 have h:Ah n = true:=by simpa using h
 have h8:n.devices.length ≤ 8:=by
  simp only [Ah,Alg,Bool.and_eq_true,decide_eq_true_eq] at h
  exact h.1.1.1.1.1.1.1.1.1.1.1.1.1.1.1
 rw [h,if_pos rfl,Cn]
 refine rg ?_;conv=>whnf
 refine Bf 1 8 (Ap n) E E E ?_
 refine Bt 3 1000 1 Aa E E ?_
 refine Au n.devices.length (fun j=>[(1,.ref 8 (Ap n) 0),(3,.osl 1000),(13,Aa n.devices.length),(14,Aa j)]) (fun j=>[(1000,.row 1 Aa (Tj j))]) [] ⟨⟨E,E,E,E,E,E,E,E,Y⟩,⟨.inl E,E,Y⟩,E,E⟩ ?_
 intro j hj
 refine rg ?_;conv=>whnf
 refine ⟨fun h2=>?_,fun h2=>?_⟩
 ·have hlt:j < n.devices.length:=by simpa using h2
  refine rg ?_;conv=>whnf
  refine Ai (Af Γ.toTy 20 E E E E E (.row E) (.lit (l:=[(j:Int)]) E E) (by simp) (by simp [Iz]; omega) (by simp [Iz]; omega)) E E ?_
  refine rg ?_;conv=>whnf
  refine ⟨by unfold I64; omega,?_⟩
  conv=>whnf
  exact Ar [(1000,20)] hlt ⟨⟨E,E,E,E,E,E,E,E,Y⟩,⟨.inl (congrArg (Ob.row 1 Aa) (Z4 j)),E,Y⟩,E,E⟩
 have hjl:j = n.devices.length:=by have:¬ j < n.devices.length:=(by simpa using h2); omega
 subst hjl
 refine rg ?_;conv=>whnf
 have hsort:=Ac1 (Tj n.devices.length) (Zc n) (fun a=>0 ≤ a ∧ a < n.devices.length) 229 [] [.ref 8 (Ap n) 0] rfl (fun a b ha hb=>⟨⟨_,_,F229⟩,ranks1 n a b ha hb⟩) (fun a ha=>by
  obtain ⟨i,hi,rfl⟩:=List.mem_map.1 ha
  have:=List.mem_range.1 hi
  omega) (by rw [Iz]; omega)
 have hslen:(D3 n).length = n.devices.length:=by rw [D3,(Si _ _).length_eq,Iz]
 have hsm:∀ a ∈ D3 n,0 ≤ a ∧ a < n.devices.length:=fun a ha=>by
  have:=(Si _ _).mem_iff.1 ha
  obtain ⟨i,hi,rfl⟩:=List.mem_map.1 this
  have:=List.mem_range.1 hi
  omega
 change Sy.Spec _ _ _ _ _ [(0,.row 1 Aa (D3 n))] at hsort
 generalize D3 n = sl at hsort hslen hsm
 refine Ai (Ak [(0,1000)] E F228 hsort E ⟨E,Y⟩ E ⟨.inl E,Y⟩) E E ?_
 refine rg ?_;conv=>whnf
 refine Ai (Bw Γ.toTy (d:=27) (n:=sl.length) Aa 0 E E E E E E E E (by omega) (by omega) E E E) E E ?_
 refine rg ?_;conv=>whnf
 refine Au sl.length (fun j=>[(5,.osl 27),(28,.osl 1000),(29,Aa sl.length),(30,Aa j)]) (fun j=>[(1000,.row 1 Aa sl),(27,.row 1 Aa (Hv sl j))]) [] ⟨⟨E,E,E,E,E,E,E,E,Y⟩,⟨.inl E,E,.inl E,E,Y⟩,E,E⟩ ?_
 clear hj h2
 intro j hj
 refine rg ?_;conv=>whnf
 refine ⟨fun h2=>?_,fun h2=>?_⟩
 ·have hlt:j < sl.length:=by simpa using h2
  have hmj:=hsm _ (List.getElem_mem hlt)
  have hnth:nth sl j = sl[j]:=Ao (by simpa using hlt)
  have hfl:=Hc sl j
  refine rg ?_;conv=>whnf
  refine ⟨by omega,by omega,?_⟩
  conv=>whnf
  refine ⟨E,by omega,?_⟩
  conv=>whnf
  refine ⟨hmj.1,by rw [hfl]; exact (by omega:sl[j].toNat < sl.length),?_⟩
  conv=>whnf
  refine ⟨E,by rw [hfl]; exact (by omega:sl[j].toNat < sl.length),(j:Int),E,E,?_⟩
  conv=>whnf
  refine ⟨by unfold I64; omega,?_⟩
  conv=>whnf
  exact Ar [] hlt ⟨⟨E,E,E,E,E,E,E,E,Y⟩,⟨.inl E,E,.inl (congrArg (Ob.row 1 Aa) (by rw [Hv,hnth]; rfl)),E,Y⟩,E,E⟩
 have hjl:j = n.devices.length:=by
  have:¬ j < sl.length:=by simpa using h2
  omega
 subst hjl
 refine rg ?_;conv=>whnf
 refine As 27 E ?_
 exact Ac E (.cons .tmp .nil) E E
def Cg (n:Net) (a b:Int):Bool :=
 if (nth n.devices a).prio ≠ (nth n.devices b).prio then decide ((nth n.devices a).prio < (nth n.devices b).prio) else
  if (nth n.devices a).mac ≠ (nth n.devices b).mac then decide ((nth n.devices a).mac < (nth n.devices b).mac) else decide (a < b)
theorem aheadS (n:Net) (a b:Int) (ha:0 ≤ a ∧ a < n.devices.length) (hb:0 ≤ b ∧ b < n.devices.length):Sy.Spec Tryz.prog 265 [Ap n,Aa a,Aa b] [] (Ad (Cg n a b)) []:=Ab Γ hm 100 F265 Tryz.ntmps265 rfl fun F hF=>by
 have e1:=Ao (l:=n.devices) (i:=a) (by omega)
 have e2:=Ao (l:=n.devices) (i:=b) (by omega)
 unfold Cg
 rw [e1,e2]
 conv=>whnf
 (repeat' (first | (refine ⟨fun h=>?_,fun h=>?_⟩ <;> (repeat (first | simp only [bne_iff_ne] at h | simp only [bne_eq_false_iff_eq] at h)) <;> ((refine rg ?_);(conv=>whnf))) | (refine Ac rfl (.cons .tmp .nil) ?_ rfl) | (refine ⟨(by kernel_rfl),?_⟩; ((conv=>whnf))) | (refine ⟨by (omega),by (omega),?_⟩; ((conv=>whnf)))))
 all_goals (refine congrArg Ad ?_; clear hF; grind)
def Jo (n:Net):List Int:=(List.range n.devices.length).map fun (i:Nat)=>(((List.range n.devices.length).countP fun k=>Cg n (k:Nat) i:Nat):Int)
theorem Aj9 (n:Net) (hn:n.Fin):Sy.Spec Tryz.prog 202 [Ap n] [] (.sl 1 Aa (Jo n)) []:=Ab Γ hm 100 F202 Tryz.ntmps202 rfl fun F hF=>by
 have hl:=hn.devices
 unfold Aq at hl
 conv=>whnf
 refine Bf 1 8 (Ap n) E E E ?_
 refine Bt 3 1000 1 Aa E E ?_
 refine Au n.devices.length (fun j=>[(1,.ref 8 (Ap n) 0),(3,.osl 1000),(4,Aa j)]) (fun j=>[(1000,.row 1 Aa ((List.range j).map fun (i:Nat)=>(((List.range n.devices.length).countP fun k=>Cg n (k:Nat) i:Nat):Int)))]) [] ⟨⟨E,E,E,E,E,E,Y⟩,⟨.inl E,E,Y⟩,E,E⟩ ?_
 intro j hj
 refine rg ?_;conv=>whnf
 refine ⟨fun h2=>?_,fun h2=>?_⟩
 ·have hlt:j < n.devices.length:=by simpa using h2
  refine rg ?_;conv=>whnf
  refine Au n.devices.length (fun k=>[(1,.ref 8 (Ap n) 0),(3,.osl 1000),(4,Aa j),(5,Aa ((List.range k).countP fun q=>Cg n (q:Nat) j:Nat)),(6,Aa k)]) (fun _=>[(1000,.row 1 Aa ((List.range j).map fun (i:Nat)=>(((List.range n.devices.length).countP fun k=>Cg n (k:Nat) i:Nat):Int)))]) [] ⟨⟨E,E,E,E,E,E,E,E,E,E,Y⟩,⟨.inl E,E,Y⟩,E,E⟩ ?_
  intro k hk
  have hcnt:((List.range k).countP fun q=>Cg n (q:Nat) j) ≤ k:=by
   have:=List.countP_le_length (p:=fun q=>Cg n (q:Nat) j) (l:=List.range k)
   simpa using this
  refine rg ?_;conv=>whnf
  refine ⟨fun h3=>?_,fun h3=>?_⟩
  ·have hlt2:k < n.devices.length:=by simpa using h3
   refine rg ?_;conv=>whnf
   refine Ag (aheadS n k j (by omega) (by omega)) F265 E E E E E ?_
   refine rg ?_;conv=>whnf
   refine ⟨fun h4=>?_,fun h4=>?_⟩
   ·refine rg ?_;conv=>whnf
    refine ⟨by unfold I64; omega,?_⟩
    conv=>whnf
    refine ⟨by unfold I64; omega,?_⟩
    conv=>whnf
    exact Ar [] hlt2 ⟨⟨E,E,E,E,E,E,congrArg Aa (by rw [List.range_succ]; simp [h4]),E,E,E,Y⟩,⟨.inl E,E,Y⟩,E,E⟩
   ·refine rg ?_;conv=>whnf
    refine ⟨by unfold I64; omega,?_⟩
    conv=>whnf
    exact Ar [] hlt2 ⟨⟨E,E,E,E,E,E,congrArg Aa (by rw [List.range_succ]; simp [h4]),E,E,E,Y⟩,⟨.inl E,E,Y⟩,E,E⟩
  have hkl:k = n.devices.length:=by
   have:¬ k < n.devices.length:=by simpa using h3
   omega
  subst hkl
  refine rg ?_;conv=>whnf
  refine Ai (Af Γ.toTy 30 E E E E E (.row E) (.lit (l:=[_]) E E) (by simp) (by simp; omega) (by simp; omega)) E E ?_
  refine rg ?_;conv=>whnf
  refine ⟨by unfold I64; omega,?_⟩
  conv=>whnf
  exact Ar [(1000,30)] hlt ⟨⟨E,E,E,E,E,E,Y⟩,⟨.inl (congrArg (Ob.row 1 Aa) (by rw [List.range_succ,List.map_append]; rfl)),E,Y⟩,E,E⟩
 have hjl:j = n.devices.length:=by
  have:¬ j < n.devices.length:=by simpa using h2
  omega
 subst hjl
 refine rg ?_;conv=>whnf
 refine As 1000 E ?_
 exact Ac E (.cons .tmp .nil) E E
end Go.Sy.YtmelpejjondedaaGreat
