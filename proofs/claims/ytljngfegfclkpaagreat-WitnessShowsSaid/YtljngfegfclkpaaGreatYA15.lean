/-
  K8 K9 K10 K11 K15 K16 K17 K18 K19 K20 K21 K22 K23 K12 K13 K14 K24 Z2 K43 K44 K45: parts of a proof, joined by program.
-/
import Derived.Test.YtljngfegfclkpaaGreatYA9
import Derived.Test.YtljngfegfclkpaaGreatYA8
import Derived.Test.YtljngfegfclkpaaGreatYA7
import Derived.Test.YtljngfegfclkpaaGreatYA5
import Derived.Test.YtljngfegfclkpaaGreatYA6
import Derived.Test.YtljngfegfclkpaaGreatYA14
set_option linter.all false
set_option linter.unusedVariables false
set_option linter.unusedSimpArgs false
set_option linter.deprecated false
namespace Go.Sy.YtljngfegfclkpaaGreat
open Go.Proofs
attribute [local irreducible] Go.Sy.G Go.Sy.DR
set_option maxRecDepth 100000
set_option maxHeartbeats 4000000
def Hz {α:Type} (q:α→Bool) (l:List α):Nat→Nat
 | 0=>0
 | j+1=>match l[j]? with
  | some x=>if q x=true then Hz q l j+1 else Hz q l j
  | none=>Hz q l j
def dfC {α:Type} (q:α→Bool) (l:List α):Nat→List α
 | 0=>l
 | j+1=>match l[j]? with
  | some x=>if q x=true then (dfC q l j).set (Hz q l j) x else dfC q l j
  | none=>dfC q l j
theorem Aa4 {α:Type} (q:α→Bool) (l:List α) (j:Nat):Hz q l j≤j:=by
 induction j with
 | zero=>exact zZ _
 | succ j ih =>
  simp only[Hz]
  split
  ·split<;>omega
  ·omega
theorem Vt {α:Type} (q:α→Bool) (l:List α) (j:Nat):(dfC q l j).length=l.length:=by
 induction j with
 | zero=>rfl
 | succ j ih =>
  simp only[dfC]
  split
  ·split
   ·rw[yE];exact ih
   ·exact ih
  ·exact ih
theorem Ars {α:Type} (q:α→Bool) (l:List α) (j k:Nat) (h:j≤k):(dfC q l j)[k]? = l[k]?:=by
 induction j with
 | zero=>rfl
 | succ j ih =>
  simp only[dfC]
  split
  ·split
   ·rw[tA (by have:=Aa4 q l j;omega)];exact ih q_
   ·exact ih q_
  ·exact ih q_
theorem Al6 {α:Type} (q:α→Bool) (l:List α) (j:Nat) (h:j≤l.length):(dfC q l j).take (Hz q l j)=(l.take j).filter q:=by
 induction j with
 | zero=>rfl
 | succ j ih =>
  have hj:j<l.length:=by omega
  have ih:=ih q_
  have hc:=Aa4 q l j
  simp only[dfC,Hz,zH hj]
  rw[vV,zH hj,List.filter_append]
  by_cases hq:q l[j]=true
  ·rw[zC hq,zC hq]
   have hlt:Hz q l j<((dfC q l j).set (Hz q l j) l[j]).length:=by rw[yE,Vt];omega
   rw[vV,zH hlt,uB]
   rw[List.take_set_of_le (zZ _),ih]
   simp[hq]
  ·rw[zA hq,zA hq,ih]
   simp[hq]
theorem Agi {α:Type} (q:α→Bool) (l:List α) (i:Nat) (hi:i≤l.length) (h:∀ k (hk:k<l.length),k<i→q l[k]=true):dfC q l i=l∧Hz q l i=i:=by
 induction i with
 | zero=>exact⟨rfl,rfl⟩
 | succ i ih =>
  obtain ⟨h1,h2⟩:=ih q_ (λ k hk hki=>h k hk q_)
  have hil:i<l.length:=by omega
  simp only[dfC,Hz,zH hil]
  rw[zC (h i hil q_),zC (h i hil q_),h1,h2]
  exact⟨xZ hil,E⟩
theorem Lx {α:Type} (p:α→Bool) (l:List α):(Bg p l=-1∧∀ x∈l,p x=false)∨∃ (i:Nat) (hi:i<l.length),Bg p l=i∧p l[i]=true∧∀ k (hk:k<l.length),k<i→p l[k]=false:=by
 unfold Bg
 cases h:l.findIdx? p with
 | none=>exact .inl ⟨rfl,by simpa using h⟩
 | some i =>
  rw[xK]at h
  obtain ⟨hi,h1,h2⟩:=h
  exact .inr ⟨i,hi,E,h1,λ k hk hki=>by simpa using h2 k hki⟩
theorem Tc (l:List EntryM) (hl:l.length<2147483648):Sq 165 [.sl 3 A1 l] [] (.osl 0) [(0,.row 3 A1 l)]:=cT F165 Tryz.ntmps165 λ F hF=>by
 conv=>whnf
 refine Du E (.inl E) E E E .sl E E ?_
 intro b hb
 cases b
 ·refine oF ?_
  refine Ag (Ah Γ.toTy 7 E E E E E (.lit (e:=A1) (l:=[]) E E) .sl y_ (by simp;omega) (by simp;omega)) E E ?_
  refine oO ?_
  exact done E (.cons .tmp .nil) [(0,7)] [(0,.row 3 A1 l)] (λ _ h=>h) E E ⟨Y,⟨.inl E,E,Y⟩,E,E⟩
 ·have h0:l=[]:=zQ (hb rfl)
  subst h0
  refine oT ?_
  refine Co 2 1000 3 A1 E E ?_
  exact done E (.cons .tmp .nil) [(0,1000)] [(0,.row 3 A1 [])] (λ _ h=>h) E E ⟨Y,⟨.inl E,E,Y⟩,E,E⟩
theorem Od (l:List EntryM) (p:EntryM→Bool) (f:FuncId) (first cap:List SV) (hc:(SV.clo (.func f) first cap).inn []=true) (hf:∀ x∈l,Hh Tryz.prog f (first++[A1 x]++cap) (Ac (p x))) (hl:Ak l) :
  Sp 237 [.sl 3 A1 l,.clo (.func f) first cap] (Aa (Bg p l)):=cT F237 Tryz.ntmps237 λ F hF=>by
 unfold Ak at hl
 have hin:∀ x:EntryM,B7 [] (first++[A1 x]++cap)=true:=λ x=>C2 hc rfl
 conv=>whnf
 refine Bi l.length (λ j=>Ir (λ _ x=>!(p x)) l j) (λ j=>[(0,.sl 3 A1 l),(1,.clo (.func f) first cap),(7,Aa l.length),(8,Aa j)]) (λ _=>[]) [] (Bp _ _) ⟨⟨E,E,A9 _,hc,E,E,E,E,Y⟩,Y,E,E⟩ ?_
 intro j hj hI
 refine oO ?_
 constructor<;>intro h
 ·have h:=zK h
  have hj2:j<l.length:=by omega
  refine oO ?_
  refine⟨E,by omega,by omega,?_⟩
  conv=>whnf
  refine Eg (hf l[j] (zE hj2)) E E E (by simp only[hin];rfl) E E ?_
  refine oO ?_
  constructor<;>intro h2
  ·refine oO ?_
   refine Ap E (.cons .tmp .nil) (zD Aa ?_) E
   exact Cj hj2 (λ i hi hij=>by simpa using hI i hi hij) h2
  ·refine oO ?_
   refine iW ?_
   exact Be [] hI hj2 (Bj hI hj2 (by simp[h2])) ⟨⟨E,E,A9 _,hc,E,E,E,E,Y⟩,Y,E,E⟩
 ·have h:=zN h
  refine oO ?_
  refine Ap E (.cons .tmp .nil) (zD Aa ?_) E
  exact Dg (λ i hi=>by simpa using hI i hi q_)
theorem Xo (l:List EntryM) (p:EntryM→Bool) (f:FuncId) (first cap:List SV) (hc:(SV.clo (.func f) first cap).inn []=true) (hc0:(SV.clo (.func f) first cap).inn [0]=true) (hf:∀ x∈l,Hh Tryz.prog f (first++[A1 x]++cap) (Ac (p x))) (hl:Ak l) :
  Sq 167 [.osl 0,.clo (.func f) first cap] [(0,.row 3 A1 l)] (.osl 1) [(0,.non),(1,.row 3 A1 (l.filter λ x=>!(p x)))]:=cT F167 Tryz.ntmps167 λ F hF=>by
 have qi:=Od l p f first cap hc hf hl
 unfold Ak at hl
 have hin:∀ x:EntryM,B7 [] (first++[A1 x]++cap)=true:=λ x=>C2 hc rfl
 conv=>whnf
 refine Art [0] qi F237 E (.cons (.row E E) (.cons (.refl _) .nil)) (by simp only[B7,hc,vS];rfl) E E ?_
 rcases Lx p l with ⟨h1,h2⟩ | ⟨i,hi,h1,h2,h3⟩
 ·rw[h1]
  have e1:(l.filter λ x=>!(p x))=l:=List.filter_eq_self.2 (λ x hx=>by simp[h2 x hx])
  rw[e1]
  refine oT ?_
  refine Aqf 0 1000 [0,4] E E j_ (by simp;exact⟨E,E⟩) ?_
  exact done E (.cons .tmp .nil) [(0,0),(1,1000)] _ (λ _ h=>h) E E ⟨Y,⟨.inl E,E,.inl E,E,Y⟩,E,E⟩
 obtain ⟨f1,f2⟩:=Agi (λ x=>!(p x)) l i q_ (λ k hk hki=>by simp[h3 k hk hki])
 have g1:dfC (λ x=>!(p x)) l (i+1+0)=l:=by
  show dfC (λ x=>!(p x)) l (i+1)=l
  simp only[dfC,zH hi]
  rw[zA (by simp[h2]),f1]
 have g2:Hz (λ x=>!(p x)) l (i+1+0)=i:=by
  show Hz (λ x=>!(p x)) l (i+1)=i
  simp only[Hz,zH hi]
  rw[zA (by simp[h2]),f2]
 rw[h1]
 refine oF ?_
 refine iW ?_
 refine A5 (l.length-(i+1)) (λ j=>[(0,.osl 0),(1,.clo (.func f) first cap),(5,Aa (Hz (λ x=>!(p x)) l (i+1+j))),(6,Aa ((i+1+j:Nat)))]) (λ j=>[(0,.row 3 A1 (dfC (λ x=>!(p x)) l (i+1+j)))]) []
  ⟨⟨rfl,rfl,A9 _,hc0,zD Aa (zD Int.ofNat g2),rfl,zD (λ z=>SV.val (.int .i64 z)) q_,rfl,trivial⟩,⟨.inl (zD (Ob.row 3 A1) g1),rfl,trivial⟩,rfl,rfl⟩ ?_
 intro j hj
 have hcl:=Aa4 (λ x=>!(p x)) l (i+1+j)
 have hdl:=Vt (λ x=>!(p x)) l (i+1+j)
 have hget:=Ars (λ x=>!(p x)) l (i+1+j) (i+1+j) (zZ _)
 have s1:∀ h:i+1+j<l.length,Hz (λ x=>!(p x)) l (i+1+(j+1))=if (!(p l[i+1+j]))=true then Hz (λ x=>!(p x)) l (i+1+j)+1 else Hz (λ x=>!(p x)) l (i+1+j):=λ hlt=>by
  show Hz (λ x=>!(p x)) l (i+1+j+1)=_
  simp only[Hz,zH hlt]
 have s2:∀ h:i+1+j<l.length,dfC (λ x=>!(p x)) l (i+1+(j+1))=if (!(p l[i+1+j]))=true then (dfC (λ x=>!(p x)) l (i+1+j)).set (Hz (λ x=>!(p x)) l (i+1+j)) l[i+1+j] else dfC (λ x=>!(p x)) l (i+1+j):=λ hlt=>by
  show dfC (λ x=>!(p x)) l (i+1+j+1)=_
  simp only[dfC,zH hlt]
 have htk:=λ h=>Al6 (λ x=>!(p x)) l (i+1+j) h
 obtain ⟨D,hD⟩:∃ D,dfC (λ x=>!(p x)) l (i+1+j)=D:=⟨_,rfl⟩
 obtain ⟨K,hK⟩:∃ K,Hz (λ x=>!(p x)) l (i+1+j)=K:=⟨_,rfl⟩
 rw[hD]at hdl hget s2 htk ⊢
 rw[hK]at hcl s1 s2 htk ⊢
 refine oO ?_
 constructor<;>intro h
 ·have hlt:i+1+j<l.length:=qA h
  have hfx:=hf l[i+1+j] (zE hlt)
  have s1:=s1 hlt
  have s2:=s2 hlt
  rw[zH hlt,zH q_]at hget
  have hget:=Option.some.inj hget
  obtain ⟨x,hx⟩:∃ x,l[i+1+j]=x:=⟨_,rfl⟩
  rw[hx]at hfx s1 s2 hget
  refine oO ?_
  refine⟨by omega,by simp;omega,?_⟩
  conv=>whnf
  refine⟨E,by omega,?_⟩
  rw[show D[((i+1+j:Nat):Int).toNat]'q_=x from hget]
  conv=>whnf
  refine Eg hfx E E E (by simp only[hin];rfl) E E ?_
  cases hpx:p x
  ·rw[hpx]at s1 s2
   refine oT ?_
   refine⟨by omega,by simp;omega,?_⟩
   conv=>whnf
   refine⟨E,by omega,x,E,E,?_⟩
   conv=>whnf
   refine iW ?_
   refine iW ?_
   exact Ax [] q_ ⟨⟨E,E,A9 _,hc0,zD Aa (zD Int.ofNat s1),E,zD (λ z=>SV.val (.int .i64 z)) q_,E,Y⟩,⟨.inl (zD (Ob.row 3 A1) s2),E,Y⟩,E,E⟩
  ·rw[hpx]at s1 s2
   refine oF ?_
   refine iW ?_
   exact Ax [] q_ ⟨⟨E,E,A9 _,hc0,zD Aa (zD Int.ofNat s1),E,zD (λ z=>SV.val (.int .i64 z)) q_,E,Y⟩,⟨.inl (zD (Ob.row 3 A1) s2),E,Y⟩,E,E⟩
 ·have hend:i+1+j=l.length:=qB h
  have hne:D≠[]:=λ h=>by rw[h]at hdl;simp at hdl;omega
  have htk:=htk q_
  rw[show l.take (i+1+j)=l from yX q_]at htk
  refine Ar1 0 [0] E hne (by simp;rfl) ?_
  intro b cap' hcap
  refine oO ?_
  refine Ag (Dy Γ.toTy E E E E (.inr ⟨_,_,E,E⟩) (.inl ⟨E,E⟩) q_ q_) E E ?_
  refine oO ?_
  refine Ag (Ly Γ.toTy 0 (k:=K) E E E E j_ E E E q_ q_) E E ?_
  refine oO ?_
  refine Ag (Dy Γ.toTy E E E E (.inl ⟨E,E⟩) (.inr ⟨_,_,E,E⟩) q_ q_) E E ?_
  refine oO ?_
  refine Aa5 0 1000 [4] K E E (by rw[zU];omega) (λ i hi=>?_) ?_
  ·rw[zX]at hi
   subst hi
   show SV.val (.slice (some (if cap'=0 then ⟨b,0,none⟩ else ⟨b,0 * 3,none⟩)) (K-0) (cap'-0))=_
   split<;>simp
  refine done E (.cons .tmp .nil) [(0,0),(1,1000)] _ (λ _ h=>h) E E ⟨Y,⟨.inl E,E,.inl ?_,E,Y⟩,E,E⟩
  rw[← htk]
  exact zD (Ob.row 3 A1) (by rw[List.take_take,Nat.min_self])
theorem Aex (l:List EntryM) (i:Nat) (hi:i<l.length) (_hl:Ak l) :
  Sq 278 [.osl 0,Aa i,Aa ((i+1:Nat):Int)] [(0,.row 3 A1 l)] (.osl 1) [(0,.non),(1,.row 3 A1 (l.take i++l.drop (i+1)))]:=cT F278 Tryz.ntmps278 λ F hF=>by
 have hne:l≠[]:=λ h=>by rw[h]at hi;simp at hi
 refine fW ?_
 refine Ar1 0 [0,8] E hne (by simp;exact⟨E,E⟩) ?_
 intro b cap hcap
 refine fU ?_
 refine Ag (Aeo Γ.toTy E E E E E E E q_ q_ hcap) E E ?_
 refine fU ?_
 refine⟨λ h=>zW h (by simp;omega),λ _=>?_⟩
 refine fU ?_
 refine Bs (Dy Γ.toTy E E E E (.inl ⟨E,E⟩) (.inr ⟨_,_,E,E⟩) q_ q_) z_ E ?_
 refine fU ?_
 refine Bs (Dy (hi:=l.length) Γ.toTy E E E E (.inr ⟨_,_,E,E⟩) (.inl ⟨E,E⟩) q_ q_) z_ E ?_
 refine fU ?_
 have hif:(if cap=0 then (⟨b,0,none⟩:Addr) else ⟨b,0 * 3,none⟩)=⟨b,0,none⟩:=by split<;>simp
 refine Bs (Aat Γ.toTy 0 (n:=l.length) (i:=i) (j:=i+1) E E E (zD (λ z=>SV.val (.slice (some z) i cap)) hif) E E E E q_ q_) z_ E ?_
 refine fU ?_
 refine⟨z_,?_⟩
 refine fW ?_
 refine Ag (Dy (lo:=i+(l.length-(i+1))) (hi:=l.length) Γ.toTy E E E E (.inr ⟨_,_,E,E⟩) (.inr ⟨_,_,E,E⟩) q_ q_) E E ?_
 refine fU ?_
 have hll:(l.take i++l.drop (i+1)).length=i+(l.length-(i+1)):=by rw[zI,zU,yN];omega
 refine Ag (Ly Γ.toTy 0 (k:=i+(l.length-(i+1))) E E E E j_ E E E q_ q_) E E ?_
 refine fU ?_
 refine Aa5 0 1000 [6] (i+(l.length-(i+1))) E E (by rw[zU];omega) (by simp;rfl) ?_
 refine done E (.cons .tmp .nil) [(0,0),(1,1000)] _ (λ _ h=>h) E E ⟨Y,⟨.inl E,E,.inl ?_,E,Y⟩,E,E⟩
 exact zD (Ob.row 3 A1) (by rw[List.take_take,Nat.min_self];exact(yX q_).symm)
theorem Zd (m:Nat) (h:m<18446744073709551616):Sp 221 [Bb m] (Ac (E4 m)):=cT F221 Tryz.ntmps221 λ F hF=>by
 have q:=Lt m h
 refine fW ?_
 constructor<;>intro h1
 ·have h2:m≤281474976710655:=by simp at h1;omega
  refine fU ?_
  refine c0 q F149 ?_
  refine fU ?_
  exact Ap E (.cons .tmp .nil) (zD Ac (by rw[E4,zL h2,zS])) E
 ·have h2:¬ m≤281474976710655:=by simp at h1;omega
  refine fU ?_
  exact Ap E (.cons .tmp .nil) (zD Ac (by rw[E4,zJ h2,zT])) E
theorem Va (i:Int):Sp 166 [Aa i] (Ac (Ew i)):=cT F166 Tryz.ntmps166 λ F hF=>by
 conv=>whnf
 (repeat' (first | (refine⟨λ h=>?_,λ h=>?_⟩<;>(repeat (first | simp only[zG]at h | simp only[zV]at h))<;>((refine oO ?_))) | (refine Ap rfl (.cons .tmp .nil) ?_ rfl)))
 all_goals (refine zD Ac ?_)
 all_goals grind [Ew]
theorem Asd (m:Nat) (e:EntryM):Sp 276 [A1 e,.ref 1 (Bb m) 0] (Ac (decide (e.mac=m))):=cT F276 Tryz.ntmps276 λ F hF=>by
 conv=>whnf
 refine Ap E (.cons .tmp .nil) ?_ E
 refine zD Ac ?_
 rw[xO];simp;omega
theorem Yj (t:List EntryM) (m:Nat) (hl:Ak t):Sp 222 [.sl 3 A1 t,Bb m] (Aa (Df t m)):=cT F222 Tryz.ntmps222 λ F hF=>by
 have q:=Od t (λ e=>decide (e.mac=m)) 276 [] [.ref 1 (Bb m) 0] rfl (λ x _=>⟨⟨_,_,F276⟩,Asd m x⟩) hl
 conv=>whnf
 refine Az 3 1 (Bb m) E E E ?_
 refine oO ?_
 refine c0 q F237 ?_
 refine oO ?_
 exact dN
theorem Av0 (t:List EntryM) (m:Nat) (hl:Ak t):Sp 288 [.sl 3 A1 t,Bb m] (.tup [Aa (findE t m).1,Ac (findE t m).2]):=cT F288 Tryz.ntmps288 λ F hF=>by
 have q:=Yj t m hl
 have hlt:Df t m<t.length:=Hj _ _
 have hres:=findE.eq_1 t m
 generalize findE t m=res at *
 generalize Df t m=i at *
 conv=>whnf
 refine c0 q F222 ?_
 refine oO ?_
 constructor<;>intro h
 ·rw[zC (by simpa using h)]at hres
  subst hres
  refine oO ?_
  exact dN
 ·have h0:¬ i<0:=by simpa using h
  have hi:i.toNat<t.length:=by omega
  rw[zA h0,zH hi]at hres
  subst hres
  refine oO ?_
  refine⟨E,by omega,by omega,?_⟩
  conv=>whnf
  exact dN
theorem Yi (t:List EntryM) (hl:Ak t) (hmac:∀ e∈t,e.mac<18446744073709551616):Sp 153 [.sl 3 A1 t] (Ac (tableB t)):=cT F153 Tryz.ntmps153 λ F hF=>by
 unfold Ak at hl
 have hres:=tableB.eq_1 t
 generalize tableB t=res at *
 conv=>whnf
 constructor<;>intro h
 ·have h8:¬ t.length≤8:=by simp at h;omega
  rw[zJ h8,zT]at hres
  subst hres
  refine oO ?_
  exact dN
 have h8:t.length≤8:=by simp at h;omega
 rw[zL h8,zS]at hres
 refine oO ?_
 refine Bi t.length (λ j=>Ir (Qc t) t j) (λ j=>[(0,.sl 3 A1 t),(8,.sl 3 A1 t),(9,Aa t.length),(10,Aa j)]) (λ _=>[]) [] (Bp _ _) ⟨⟨E,E,E,E,E,E,E,E,Y⟩,Y,E,E⟩ ?_
 intro j hj hI
 refine oO ?_
 constructor<;>intro h
 ·have hlt:j<t.length:=qA h
  have q1:=Zd t[j].mac (hmac _ (zE hlt))
  have q2:=Va t[j].seen
  have q3:=Yj t t[j].mac hl
  have hent:Qc t j t[j]=(E4 t[j].mac && Ew t[j].seen && decide (Df t t[j].mac=j)):=rfl
  have hbad:Qc t j t[j]=false→res=false:=λ hf=>by rw[hres];exact Cz hlt hf
  have hgood:Qc t j t[j]=true→Ir (Qc t) t (j+1):=λ ht=>Bj hI hlt ht
  refine oO ?_
  refine⟨E,by omega,by omega,?_⟩
  rw[show t[((j:Nat):Int).toNat]'q_=t[j] from rfl]
  generalize t[j]=x at *
  conv=>whnf
  refine c0 q1 F221 ?_
  cases h1:E4 x.mac
  ·rw[hbad (by rw[hent,h1];rfl)]
   (refine oT ?_;refine bT ?_;refine bT ?_)
   exact dN
  refine oF ?_
  refine c0 q2 F166 ?_
  cases h2:Ew x.seen
  ·rw[hbad (by rw[hent,h1,h2];rfl)]
   (refine oT ?_;refine bT ?_)
   exact dN
  refine oF ?_
  refine c0 q3 F222 ?_
  refine oO ?_
  constructor<;>intro h3
  ·rw[hbad (by rw[hent,h1,h2,zJ (by simpa using h3)];rfl)]
   refine oO ?_
   exact dN
  ·have h4:=hgood (by rw[hent,h1,h2,zL (by simpa using h3)];rfl)
   refine oO ?_
   refine iW ?_
   exact Be [] hI q_ h4 ⟨⟨E,E,E,E,E,E,E,E,Y⟩,Y,E,E⟩
 ·have hend:j=t.length:=qB h
  subst hend
  rw[hres.trans (Eo hI (zZ _))]
  refine oO ?_
  exact dN
theorem Azr (now:Int) (hn:Ew now=true) (e:EntryM):Sp 168 [A1 e,.ref 1 (Aa now) 0] (Ac (decide (e.seen<now-4))):=cT F168 Tryz.ntmps168 λ F hF=>by
 have hn2:0≤now∧now≤1099511627776:=by simpa [Ew] using hn
 conv=>whnf
 refine iW ?_
 exact dN
theorem Azq (t:List EntryM) (now:Int) (hl:Ak t) (hmac:∀ e∈t,e.mac<18446744073709551616):Sp 98 [.sl 3 A1 t,Aa now] (.sl 3 A1 (ageT t now)):=cT F98 Tryz.ntmps98 λ F hF=>by
 have hl2:=hl
 unfold Ak at hl2
 have hres:=ageT.eq_1 t now
 generalize ageT t now=res at *
 have q1:=Yi t hl hmac
 have q2:=Va now
 conv=>whnf
 refine Ag (Ad [(0,55)] E F165 (Tc t hl2) E Y E ⟨.inr E,Y⟩) E E ?_
 refine oO ?_
 refine c0 q1 F153 ?_
 cases h1:tableB t
 ·rw[zC (.inl h1)]at hres
  subst hres
  (refine oT ?_;refine bT ?_)
  refine Ai 55 E ?_
  exact dN
 refine oF ?_
 refine c0 q2 F166 ?_
 cases h2:Ew now
 ·rw[zC (.inr h2)]at hres
  subst hres
  refine oT ?_
  refine Ai 55 E ?_
  exact dN
 rw[zA (by simp[h1,h2])]at hres
 refine oF ?_
 refine Az 3 1 (Aa now) E E E ?_
 refine oO ?_
 have q3:=Xo t (λ e=>decide (e.seen<now-4)) 168 [] [.ref 1 (Aa now) 0] rfl rfl (λ x _=>⟨⟨_,_,F168⟩,Azr now h2 x⟩) hl
 refine Ag (Ad [(0,55),(1,56)] E F167 q3 E ⟨E,Y⟩ E ⟨.inl E,.inr E,Y⟩) E E ?_
 refine oO ?_
 refine Ai 56 E ?_
 refine Ap E (.cons .tmp .nil) ?_ E
 subst hres
 refine zD (SV.sl 3 A1) (List.filter_congr λ e _=>?_)
 rw[xO];simp
theorem Ab9 (t:List EntryM) (j:Nat) (h:0<t.length) (hj:j≤t.length):oldestU t j<t.length:=by
 induction j with
 | zero=>exact h
 | succ j ih =>
  rw[oldestU]
  split
  ·omega
  ·exact ih q_
theorem Am4 (t:List EntryM) (hl:Ak t) (h0:0<t.length):Sp 277 [.sl 3 A1 t] (Aa (oldestU t t.length:Nat)):=cT F277 Tryz.ntmps277 λ F hF=>by
 unfold Ak at hl
 conv=>whnf
 refine A5 t.length (λ j=>[(0,.sl 3 A1 t),(3,Aa (oldestU t j:Nat)),(6,.sl 3 A1 t),(7,Aa t.length),(8,Aa j)]) (λ _=>[]) [] ⟨⟨E,E,E,E,E,E,E,E,E,E,Y⟩,Y,E,E⟩ ?_
 intro j hj
 refine oO ?_
 constructor<;>intro h
 ·have hlt:j<t.length:=qA h
  have hol:=Ab9 t j h0 q_
  have hs:=oldestU.eq_2 t j
  rw[zH hlt,zH hol]at hs
  obtain ⟨o,ho⟩:∃ o,oldestU t j=o:=⟨_,rfl⟩
  simp only[ho]at hs hol ⊢
  have hs2:oldestU t (j+1)=if t[j].seen<t[o].seen then j else o:=hs
  refine oO ?_
  refine⟨E,by omega,by omega,?_⟩
  rw[show t[((j:Nat):Int).toNat]'q_=t[j] from rfl]
  conv=>whnf
  refine⟨E,by omega,by omega,?_⟩
  rw[show t[((o:Nat):Int).toNat]'q_=t[o] from rfl]
  conv=>whnf
  refine kW ?_
  constructor<;>intro h2
  ·rw[zC (zK h2)]at hs2
   refine oO ?_
   refine iW ?_
   exact Ax [] q_ ⟨⟨E,E,zD (λ z:Nat=>Aa z) hs2,E,E,E,E,E,E,E,Y⟩,Y,E,E⟩
  ·rw[zA (zN h2)]at hs2
   refine oO ?_
   refine iW ?_
   exact Ax [] q_ ⟨⟨E,E,zD (λ z:Nat=>Aa z) hs2,E,E,E,E,E,E,E,Y⟩,Y,E,E⟩
 ·have:j=t.length:=qB h
  subst this
  refine oO ?_
  exact dN
theorem Ae9 (t:List EntryM) (m:Nat) (wh now:Int) (hl:Ak t) (hmac:∀ e∈t,e.mac<18446744073709551616) (hm64:m<18446744073709551616) :
  Sp 223 [.sl 3 A1 t,Bb m,Aa wh,Aa now] (.sl 3 A1 (learnT t m wh now)):=cT F223 Tryz.ntmps223 λ F hF=>by
 have hl2:=hl
 unfold Ak at hl2
 have hres:=learnT.eq_1 t m wh now
 generalize learnT t m wh now=res at *
 have q1:=Yi t hl hmac
 have q2:=Zd m hm64
 have q3:=Va now
 have q4:=Yj t m hl
 conv=>whnf
 refine Ag (Ad [(0,55)] E F165 (Tc t hl2) E Y E ⟨.inr E,Y⟩) E E ?_
 refine oO ?_
 refine c0 q1 F153 ?_
 cases h1:tableB t
 ·rw[zC (.inl h1)]at hres
  subst hres
  (refine oT ?_;refine bT ?_;refine bT ?_)
  refine Ai 55 E ?_
  exact dN
 refine oF ?_
 refine c0 q2 F221 ?_
 cases h2:E4 m
 ·rw[zC (.inr (.inl h2))]at hres
  subst hres
  (refine oT ?_;refine bT ?_)
  refine Ai 55 E ?_
  exact dN
 refine oF ?_
 refine c0 q3 F166 ?_
 cases h3:Ew now
 ·rw[zC (.inr (.inr h3))]at hres
  subst hres
  refine oT ?_
  refine Ai 55 E ?_
  exact dN
 rw[zA (by simp[h1,h2,h3])]at hres
 have ht8:t.length≤8:=by simp only[tableB,zB,zG]at h1;exact h1.1
 have hfound:∀ hi:0≤Df t m,∃ h:(Df t m).toNat<t.length,t[(Df t m).toNat].mac=m:=λ hi=>by
  rcases Lx (λ e=>decide (EntryM.mac e=m)) t with ⟨h,_⟩ | ⟨k,hk,h,h2,_⟩
  ·rw[Df,h]at hi
   exact zW hi j_
  ·have e1:Df t m=k:=h
   simp only[e1,zR]
   exact⟨hk,zK h2⟩
 generalize Df t m=i at *
 refine oF ?_
 refine c0 q4 F222 ?_
 refine oO ?_
 constructor<;>intro h4
 ·have h5:0≤i:=by simpa using h4
  obtain ⟨hi,hmm⟩:=hfound h5
  rw[zC h5]at hres
  refine oO ?_
  have hne:t≠[]:=λ h=>by rw[h]at hi;simp at hi
  refine⟨h5,by omega,?_⟩
  conv=>whnf
  refine⟨hne,?_⟩
  conv=>whnf
  refine⟨E,hi,⟨t[i.toNat].mac,wh,t[i.toNat].seen⟩,E,E,?_⟩
  conv=>whnf
  refine⟨h5,by simp;omega,?_⟩
  conv=>whnf
  refine⟨by simp;exact hne,?_⟩
  conv=>whnf
  refine⟨E,by simp;omega,⟨t[i.toNat].mac,wh,now⟩,by rw[uB];rfl,by rw[uB];rfl,?_⟩
  conv=>whnf
  refine Ai 55 E ?_
  refine oO ?_
  refine Ap E (.cons .tmp .nil) (zD (SV.sl 3 A1) ?_) E
  rw[hres,List.set_set,hmm]
 ·have h5:¬ 0≤i:=by simp at h4 ⊢;omega
  rw[zA h5]at hres
  refine oO ?_
  constructor<;>intro h6
  ·have h7:t.length=8:=by simp at h6;omega
   rw[zC h7]at hres
   have q5:=Am4 t hl q_
   have hol:=Ab9 t t.length q_ (zZ _)
   refine oO ?_
   refine Art [55] q5 F277 E (.cons (.row E E) .nil) E E E ?_
   generalize oldestU t t.length=o at *
   have q6:=Aex t o hol hl
   refine oO ?_
   refine iW ?_
   refine Ag (Ad [(0,55),(1,56)] E F278 q6 E ⟨E,Y⟩ E ⟨.inl E,.inr E,Y⟩) E E ?_
   refine oO ?_
   refine Ag (Ah Γ.toTy 60 rfl rfl rfl rfl rfl (.row rfl) (.lit (e:=A1) (l:=[⟨m,wh,now⟩]) rfl rfl) (λ j hj=>by cases hj;decide) (by simp;omega) (by simp;omega)) rfl rfl ?_
   refine Ai 60 E ?_
   refine oO ?_
   refine Ap E (.cons .tmp .nil) (zD (SV.sl 3 A1) ?_) E
   rw[hres,tU]
  ·have h7:¬ t.length=8:=by simp at h6;omega
   rw[zA h7]at hres
   refine oO ?_
   refine Ag (Ah Γ.toTy 60 rfl rfl rfl rfl rfl (.row rfl) (.lit (e:=A1) (l:=[⟨m,wh,now⟩]) rfl rfl) (λ j hj=>by cases hj;decide) (by simp;omega) (by simp;omega)) rfl rfl ?_
   refine Ai 60 E ?_
   refine oO ?_
   exact Ap E (.cons .tmp .nil) (zD (SV.sl 3 A1) hres) E
theorem Aiq (l:List Int) (hl:l.length<2147483648):Sq 90 [.sl 1 Aa l] [] (.osl 0) [(0,.row 1 Aa l)]:=cT F90 Tryz.ntmps90 λ F hF=>by
 conv=>whnf
 refine Du E (.inl E) E E E .sl E E ?_
 intro b hb
 cases b
 ·refine oF ?_
  refine Ag (Ah Γ.toTy 7 E E E E E (.lit (e:=Aa) (l:=[]) E E) .sl y_ (by simp;omega) (by simp;omega)) E E ?_
  refine oO ?_
  exact done E (.cons .tmp .nil) [(0,7)] [(0,.row 1 Aa l)] (λ _ h=>h) E E ⟨Y,⟨.inl E,E,Y⟩,E,E⟩
 ·have h0:l=[]:=zQ (hb rfl)
  subst h0
  refine oT ?_
  refine Co 2 1000 1 Aa E E ?_
  exact done E (.cons .tmp .nil) [(0,1000)] [(0,.row 1 Aa [])] (λ _ h=>h) E E ⟨Y,⟨.inl E,E,Y⟩,E,E⟩
theorem Aav (l:List Int) (p:Int→Bool) (f:FuncId) (first cap:List SV) (hc:(SV.clo (.func f) first cap).inn []=true) (hc0:(SV.clo (.func f) first cap).inn [0]=true) (hf:∀ x∈l,Hh Tryz.prog f (first++[Aa x]++cap) (Ac (p x))) (hl:Ak l) :
  Sq 275 [.osl 0,.clo (.func f) first cap] [(0,.row 1 Aa l)] (.osl 1) [(0,.non),(1,.row 1 Aa (l.filter λ x=>!(p x)))]:=cT F275 Tryz.ntmps275 λ F hF=>by
 have qi:=Lw l p f first cap hc hf hl
 unfold Ak at hl
 have hin:∀ x:Int,B7 [] (first++[Aa x]++cap)=true:=λ x=>C2 hc rfl
 conv=>whnf
 refine Art [0] qi F296 E (.cons (.row E E) (.cons (.refl _) .nil)) (by simp only[B7,hc,vS];rfl) E E ?_
 rcases Lx p l with ⟨h1,h2⟩ | ⟨i,hi,h1,h2,h3⟩
 ·rw[h1]
  have e1:(l.filter λ x=>!(p x))=l:=List.filter_eq_self.2 (λ x hx=>by simp[h2 x hx])
  rw[e1]
  refine oT ?_
  refine Aqf 0 1000 [0,4] E E j_ (by simp;exact⟨E,E⟩) ?_
  exact done E (.cons .tmp .nil) [(0,0),(1,1000)] _ (λ _ h=>h) E E ⟨Y,⟨.inl E,E,.inl E,E,Y⟩,E,E⟩
 obtain ⟨f1,f2⟩:=Agi (λ x=>!(p x)) l i q_ (λ k hk hki=>by simp[h3 k hk hki])
 have g1:dfC (λ x=>!(p x)) l (i+1+0)=l:=by
  show dfC (λ x=>!(p x)) l (i+1)=l
  simp only[dfC,zH hi]
  rw[zA (by simp[h2]),f1]
 have g2:Hz (λ x=>!(p x)) l (i+1+0)=i:=by
  show Hz (λ x=>!(p x)) l (i+1)=i
  simp only[Hz,zH hi]
  rw[zA (by simp[h2]),f2]
 rw[h1]
 refine oF ?_
 refine iW ?_
 refine A5 (l.length-(i+1)) (λ j=>[(0,.osl 0),(1,.clo (.func f) first cap),(5,Aa (Hz (λ x=>!(p x)) l (i+1+j))),(6,Aa ((i+1+j:Nat)))]) (λ j=>[(0,.row 1 Aa (dfC (λ x=>!(p x)) l (i+1+j)))]) []
  ⟨⟨rfl,rfl,A9 _,hc0,zD Aa (zD Int.ofNat g2),rfl,zD (λ z=>SV.val (.int .i64 z)) q_,rfl,trivial⟩,⟨.inl (zD (Ob.row 1 Aa) g1),rfl,trivial⟩,rfl,rfl⟩ ?_
 intro j hj
 have hcl:=Aa4 (λ x=>!(p x)) l (i+1+j)
 have hdl:=Vt (λ x=>!(p x)) l (i+1+j)
 have hget:=Ars (λ x=>!(p x)) l (i+1+j) (i+1+j) (zZ _)
 have s1:∀ h:i+1+j<l.length,Hz (λ x=>!(p x)) l (i+1+(j+1))=if (!(p l[i+1+j]))=true then Hz (λ x=>!(p x)) l (i+1+j)+1 else Hz (λ x=>!(p x)) l (i+1+j):=λ hlt=>by
  show Hz (λ x=>!(p x)) l (i+1+j+1)=_
  simp only[Hz,zH hlt]
 have s2:∀ h:i+1+j<l.length,dfC (λ x=>!(p x)) l (i+1+(j+1))=if (!(p l[i+1+j]))=true then (dfC (λ x=>!(p x)) l (i+1+j)).set (Hz (λ x=>!(p x)) l (i+1+j)) l[i+1+j] else dfC (λ x=>!(p x)) l (i+1+j):=λ hlt=>by
  show dfC (λ x=>!(p x)) l (i+1+j+1)=_
  simp only[dfC,zH hlt]
 have htk:=λ h=>Al6 (λ x=>!(p x)) l (i+1+j) h
 obtain ⟨D,hD⟩:∃ D,dfC (λ x=>!(p x)) l (i+1+j)=D:=⟨_,rfl⟩
 obtain ⟨K,hK⟩:∃ K,Hz (λ x=>!(p x)) l (i+1+j)=K:=⟨_,rfl⟩
 rw[hD]at hdl hget s2 htk ⊢
 rw[hK]at hcl s1 s2 htk ⊢
 refine oO ?_
 constructor<;>intro h
 ·have hlt:i+1+j<l.length:=qA h
  have hfx:=hf l[i+1+j] (zE hlt)
  have s1:=s1 hlt
  have s2:=s2 hlt
  rw[zH hlt,zH q_]at hget
  have hget:=Option.some.inj hget
  obtain ⟨x,hx⟩:∃ x,l[i+1+j]=x:=⟨_,rfl⟩
  rw[hx]at hfx s1 s2 hget
  refine oO ?_
  refine⟨by omega,by simp;omega,?_⟩
  conv=>whnf
  refine⟨E,by omega,?_⟩
  rw[show D[((i+1+j:Nat):Int).toNat]'q_=x from hget]
  conv=>whnf
  refine Eg hfx E E E (by simp only[hin];rfl) E E ?_
  cases hpx:p x
  ·rw[hpx]at s1 s2
   refine oT ?_
   refine⟨by omega,by simp;omega,?_⟩
   conv=>whnf
   refine⟨E,by omega,x,E,E,?_⟩
   conv=>whnf
   refine iW ?_
   refine iW ?_
   exact Ax [] q_ ⟨⟨E,E,A9 _,hc0,zD Aa (zD Int.ofNat s1),E,zD (λ z=>SV.val (.int .i64 z)) q_,E,Y⟩,⟨.inl (zD (Ob.row 1 Aa) s2),E,Y⟩,E,E⟩
  ·rw[hpx]at s1 s2
   refine oF ?_
   refine iW ?_
   exact Ax [] q_ ⟨⟨E,E,A9 _,hc0,zD Aa (zD Int.ofNat s1),E,zD (λ z=>SV.val (.int .i64 z)) q_,E,Y⟩,⟨.inl (zD (Ob.row 1 Aa) s2),E,Y⟩,E,E⟩
 ·have hend:i+1+j=l.length:=qB h
  have hne:D≠[]:=λ h=>by rw[h]at hdl;simp at hdl;omega
  have htk:=htk q_
  rw[show l.take (i+1+j)=l from yX q_]at htk
  refine Ar1 0 [0] E hne (by simp;rfl) ?_
  intro b cap' hcap
  refine oO ?_
  refine Ag (Dy Γ.toTy E E E E (.inr ⟨_,_,E,E⟩) (.inl ⟨E,E⟩) q_ q_) E E ?_
  refine oO ?_
  refine Ag (Ly Γ.toTy 0 (k:=K) E E E E j_ E E E q_ q_) E E ?_
  refine oO ?_
  refine Ag (Dy Γ.toTy E E E E (.inl ⟨E,E⟩) (.inr ⟨_,_,E,E⟩) q_ q_) E E ?_
  refine oO ?_
  refine Aa5 0 1000 [4] K E E (by rw[zU];omega) (λ i hi=>?_) ?_
  ·rw[zX]at hi
   subst hi
   show SV.val (.slice (some (if cap'=0 then ⟨b,0,none⟩ else ⟨b,0 * 1,none⟩)) (K-0) (cap'-0))=_
   split<;>simp
  refine done E (.cons .tmp .nil) [(0,0),(1,1000)] _ (λ _ h=>h) E E ⟨Y,⟨.inl E,E,.inl ?_,E,Y⟩,E,E⟩
  rw[← htk]
  exact zD (Ob.row 1 Aa) (by rw[List.take_take,Nat.min_self])
def Ot (n:Net) (fw:List Bool) (at_ from_:Int) (ml:List Int):SV :=
 .agg [.sl 5 Aq n.devices,.sl 7 Aw n.ports,.sl 3 Br n.links,.sl 6 An n.domains,.sl 4 As n.statics,.sl 4 A3 n.floods,.sl 5 B5 n.vrfs,.sl 5 By n.irbs,.sl 1 Ac fw,Aa at_,Aa from_,.sl 1 Aa ml]
theorem Azk (n:Net) (fw:List Bool) (p:Int) (h0:0≤p) (hp:p<n.ports.length) (hl:(nth n.ports p).link<fw.length):Sp 274 [Aj n,.sl 1 Ac fw,Aa p] (Ac (usableB n fw p)):=cT F274 Tryz.ntmps274 λ F hF=>by
 have hk:p.toNat<n.ports.length:=by omega
 have e1:nth n.ports p=n.ports[p.toNat]:=Ae hk
 have hu:=usableB.eq_1 n fw p
 generalize usableB n fw p=res at *
 rw[e1]at hu hl
 obtain ⟨q,hq⟩:∃ q,n.ports[p.toNat]'hk=q:=⟨_,rfl⟩
 rw[hq]at hu hl
 conv=>whnf
 refine⟨E,h0,hk,?_⟩
 rw[hq]
 conv=>whnf
 constructor<;>intro h
 ·rw[h,uS]at hu
  subst hu
  refine oO ?_
  exact dN
 ·rw[h,vF]at hu
  have h1:¬ q.link<0:=zN h
  have h2:q.link.toNat<fw.length:=by omega
  rw[zH h2]at hu
  refine oO ?_
  refine⟨E,by omega,h2,?_⟩
  conv=>whnf
  exact Ap E (.cons .tmp .nil) (zD Ac hu) E
theorem portsC (n:Net) (fw:List Bool) (at_ from_:Int) (ml:List Int) (p:Int) (h0:0≤p) (hp:p<n.ports.length) (hl:(nth n.ports p).link<fw.length) :
  Sp 273 [Aa p,.ref 1 (.ref 12 (Ot n fw at_ from_ ml) 0) 0] (Ac (decide (p=from_) || !(usableB n fw p))):=cT F273 Tryz.ntmps273 λ F hF=>by
 have q:=Azk n fw p h0 hp hl
 conv=>whnf
 constructor<;>intro h
 ·have h1:p=from_:=by simpa using h
  refine oD ?_
  refine kW ?_
  exact Ap E (.cons .tmp .nil) (zD Ac (by rw[zL h1,uS])) E
 ·have h1:¬ p=from_:=by simpa using h
  refine oD ?_
  refine cD q F274 ?_
  refine oD ?_
  refine kW ?_
  exact Ap E (.cons .tmp .nil) (zD Ac (by rw[zJ h1,vF])) E
def Arz (n:Net) (fw:List Bool) (l:List Int):Prop:=∀ p∈l,0≤p∧p<n.ports.length∧(nth n.ports p).link<fw.length
theorem An9 (n:Net) (fw:List Bool) (at_ from_:Int) (ml l:List Int) (hl:Ak l) (hp:Arz n fw l) :
  Sp 219 [.ref 12 (Ot n fw at_ from_ ml) 0,.sl 1 Aa l] (.sl 1 Aa (Ch n fw from_ l)):=cT F219 Tryz.ntmps219 λ F hF=>by
 have q:=Aav l (λ p=>decide (p=from_) || !(usableB n fw p)) 273 [] [.ref 1 (.ref 12 (Ot n fw at_ from_ ml) 0) 0] rfl rfl (λ p h=>⟨⟨_,_,F273⟩,portsC n fw at_ from_ ml p (hp p h).1 (hp p h).2.1 (hp p h).2.2⟩) hl
 unfold Ak at hl
 conv=>whnf
 refine Az 2 1 (.ref 12 (Ot n fw at_ from_ ml) 0) E E E ?_
 refine oO ?_
 refine Ag (Ad [(0,55)] E F90 (Aiq l hl) E Y E ⟨.inr E,Y⟩) E E ?_
 refine oO ?_
 refine Ag (Ad [(0,55),(1,56)] E F275 q E ⟨E,Y⟩ E ⟨.inl E,.inr E,Y⟩) E E ?_
 refine oO ?_
 refine Ai 56 E ?_
 exact dN
theorem Aq1 (n:Net) (hn:n.Fin) (fw:List Bool) (dom from_:Int) (ml:List Int) (hd:Af dom n.domains.length=true) :
  Sp 220 [.ref 12 (Ot n fw dom from_ ml) 0] (.sl 1 Aa (peersOut n dom from_)):=cT F220 Tryz.ntmps220 λ F hF=>by
 have hdi:=Ci hd
 have hd0:0≤dom:=hdi.1
 have hkd:dom.toNat<n.domains.length:=by omega
 have e2:nth n.domains dom=n.domains[dom.toNat]:=Ae hkd
 have hpe:=hn.peers _ (zE hkd)
 have hres:=peersOut.eq_1 n dom from_
 generalize peersOut n dom from_=res at *
 rw[e2]at hres
 obtain ⟨d,hdd⟩:∃ d,n.domains[dom.toNat]'hkd=d:=⟨_,rfl⟩
 rw[hdd]at hres hpe
 have qc:=D7 d.peers hpe
 conv=>whnf
 constructor<;>intro h
 ·rw[zC (by simpa using h)]at hres
  subst hres
  refine oO ?_
  refine Ao 2 1 Aa E ?_
  exact dN
 ·rw[zA (by simpa using h)]at hres
  subst hres
  refine oO ?_
  refine⟨E,hd0,hkd,?_⟩
  rw[hdd]
  conv=>whnf
  refine cD qc F90 ?_
  refine oD ?_
  refine kW ?_
  exact dN
def Te (n:Net) (fw:List Bool) (dom:Int):Bool:=Af dom n.domains.length && decide (fw.length=n.links.length) && Ab n
theorem Aqu (n:Net) (hn:n.Fin) (fw:List Bool) (dom from_:Int) (h:Te n fw dom=false) :
  Sp 218 [Aj n,.sl 1 Ac fw,Aa dom,Aa from_] (.tup [.val (.pointer none),Ac false]):=cT F218 Tryz.ntmps218 λ F hF=>by
 have qr:=Av n hn
 conv=>whnf
 constructor<;>intro h1
 ·(refine oT ?_;refine bT ?_;refine bT ?_)
  exact dN
 refine oO ?_
 constructor<;>intro h2
 ·(refine oT ?_;refine bT ?_)
  exact dN
 refine oO ?_
 constructor<;>intro h3
 ·refine oT ?_
  exact dN
 refine oO ?_
 refine c0 qr F19 ?_
 cases hbn:Ab n
 ·refine oT ?_
  exact dN
 ·exfalso
  have h4:Af dom n.domains.length=true:=Mc ⟨by simp at h1;omega,by simp at h2;omega⟩
  have h5:fw.length=n.links.length:=by simp at h3;omega
  simp[Te,h4,h5,hbn]at h
theorem Awf (n:Net) (hn:n.Fin) (fw:List Bool) (dom from_:Int) (h:Te n fw dom=true) :
  Sp 218 [Aj n,.sl 1 Ac fw,Aa dom,Aa from_] (.tup [.ref 12 (Ot n fw dom from_ (Au n dom)) 0,Ac (decide (from_=-1) || decide (from_=-2) || inB (Au n dom) from_)]):=cT F218 Tryz.ntmps218 λ F hF=>by
 have qr:=Av n hn
 simp only[Te,zB,zG]at h
 obtain ⟨⟨hd,hfw⟩,hbn⟩:=h
 rw[hbn]at qr
 have hdi:=Ci hd
 have qm:=Mq n hn dom
 have qc:=Dp (At n dom) from_ (Je n hn dom)
 have hmt:At n dom=Au n dom:=by rw[At,zC ⟨⟨hdi.1,hdi.2⟩,hbn⟩]
 rw[hmt]at qm qc
 generalize Au n dom=ml at *
 conv=>whnf
 refine⟨λ h1=>zW h1 (by simp;omega),λ _=>?_⟩
 refine oO ?_
 refine⟨λ h1=>zW h1 (by simp;omega),λ _=>?_⟩
 refine oO ?_
 refine⟨λ h1=>zW h1 (by simp;omega),λ _=>?_⟩
 refine oO ?_
 refine c0 qr F19 ?_
 refine oF ?_
 refine cD qm F22 ?_
 refine oD ?_
 refine kW ?_
 constructor<;>intro h1
 ·have h2:from_=-1:=by simpa using h1
  refine Az 41 12 (Ot n fw dom from_ ml) E E E ?_
  refine oT ?_
  exact Ap E (.cons .tmp (.cons .tmp .nil)) (zD (λ z=>SV.tup [_,Ac z]) (by simp[h2])) E
 have h2:¬ from_=-1:=by simpa using h1
 refine Az 41 12 (Ot n fw dom from_ ml) E E E ?_
 refine oO ?_
 constructor<;>intro h3
 ·have h4:from_=-2:=by simpa using h3
  refine oO ?_
  exact Ap E (.cons .tmp (.cons .tmp .nil)) (zD (λ z=>SV.tup [_,Ac z]) (by simp[h4])) E
 have h4:¬ from_=-2:=by simpa using h3
 refine oO ?_
 refine c0 qc F21 ?_
 refine oO ?_
 exact Ap E (.cons .tmp (.cons .tmp .nil)) (zD (λ z=>SV.tup [_,Ac z]) (by simp[h2,h4])) E
theorem Ahj {n:Net} (hb:Ab n=true) {p:Int} (h0:0≤p) (hp:p<n.ports.length):(nth n.ports p).link<n.links.length:=by
 have hk:p.toNat<n.ports.length:=by omega
 have e1:nth n.ports p=n.ports[p.toNat]:=Ae hk
 rw[e1]
 by_cases hl:0≤n.ports[p.toNat].link
 ·have:=Ee hb hk hl
  omega
 ·omega
theorem Ab3 {n:Net} {fw:List Bool} (hb:Ab n=true) (hf:fw.length=n.links.length) {l:List Int} (h:∀ p∈l,0≤p∧p<n.ports.length):Arz n fw l:=λ p hp =>
 ⟨(h p hp).1,(h p hp).2,by rw[hf];exact Ahj hb (h p hp).1 (h p hp).2⟩
theorem He {n:Net} {dom:Int}:∀ p∈Au n dom,0≤p∧p<n.ports.length:=λ p hp=>by
 rw[Au,Og]at hp
 exact⟨hp.1,hp.2.1⟩
theorem Mr {n:Net} (hn:n.Fin) (dom:Int):Ak (Au n dom):=by
 have h1:=Hy (Qq n (nth n.domains dom)) n.ports.length
 have h2:=hn.ports
 unfold Ak at *
 rw[Au]
 omega
theorem Q8 (n:Net) (fw:List Bool) (dom from_:Int):Jq n fw dom from_=(Te n fw dom && (decide (from_=-1) || decide (from_=-2) || inB (Au n dom) from_)):=rfl
theorem floodS (n:Net) (hn:n.Fin) (fw:List Bool) (dom from_:Int) :
  Sp 152 [Aj n,.sl 1 Ac fw,Aa dom,Aa from_] (.tup [.sl 1 Aa (floodT n fw dom from_).1,.sl 1 Aa (floodT n fw dom from_).2.1,Aa (floodT n fw dom from_).2.2]):=cT F152 Tryz.ntmps152 λ F hF=>by
 have hres:=floodT.eq_1 n fw dom from_
 generalize floodT n fw dom from_=res at *
 rw[Q8]at hres
 cases hbase:Te n fw dom
 ·rw[hbase,zT,zC rfl]at hres
  subst hres
  have q:=Aqu n hn fw dom from_ hbase
  conv=>whnf
  refine c0 q F218 ?_
  refine oT ?_
  refine Ao 8 1 Aa E ?_
  refine Ao 9 1 Aa E ?_
  exact dN
 rw[hbase,zS]at hres
 have q:=Awf n hn fw dom from_ hbase
 have hb2:=hbase
 simp only[Te,zB,zG]at hb2
 obtain ⟨⟨hd,hfw⟩,hbn⟩:=hb2
 have qp:=An9 n fw dom from_ (Au n dom) (Au n dom) (Mr hn dom) (Ab3 hbn hfw He)
 have qe:=Aq1 n hn fw dom from_ (Au n dom) hd
 generalize (decide (from_=-1) || decide (from_=-2) || inB (Au n dom) from_)=ok at *
 generalize Au n dom=ml at *
 conv=>whnf
 refine c0 q F218 ?_
 cases ok
 ·rw[zC rfl]at hres
  subst hres
  refine oT ?_
  refine Ao 8 1 Aa E ?_
  refine Ao 9 1 Aa E ?_
  exact dN
 rw[zA j_]at hres
 subst hres
 refine oF ?_
 refine c0 qp F219 ?_
 refine oO ?_
 refine c0 qe F220 ?_
 refine oO ?_
 exact dN
theorem W2 (l:List Static) (p:Static→Bool) (f:FuncId) (first cap:List SV) (hc:(SV.clo (.func f) first cap).inn []=true) (hf:∀ x∈l,Hh Tryz.prog f (first++[As x]++cap) (Ac (p x))) (hl:Ak l) :
  Sp 260 [.sl 4 As l,.clo (.func f) first cap] (Aa (Bg p l)):=cT F260 Tryz.ntmps260 λ F hF=>by
 unfold Ak at hl
 have hin:∀ x:Static,B7 [] (first++[As x]++cap)=true:=λ x=>C2 hc rfl
 conv=>whnf
 refine Bi l.length (λ j=>Ir (λ _ x=>!(p x)) l j) (λ j=>[(0,.sl 4 As l),(1,.clo (.func f) first cap),(7,Aa l.length),(8,Aa j)]) (λ _=>[]) [] (Bp _ _) ⟨⟨E,E,A9 _,hc,E,E,E,E,Y⟩,Y,E,E⟩ ?_
 intro j hj hI
 refine oO ?_
 constructor<;>intro h
 ·have h:=zK h
  have hj2:j<l.length:=by omega
  refine oO ?_
  refine⟨E,by omega,by omega,?_⟩
  conv=>whnf
  refine Eg (hf l[j] (zE hj2)) E E E (by simp only[hin];rfl) E E ?_
  refine oO ?_
  constructor<;>intro h2
  ·refine oO ?_
   refine Ap E (.cons .tmp .nil) (zD Aa ?_) E
   exact Cj hj2 (λ i hi hij=>by simpa using hI i hi hij) h2
  ·refine oO ?_
   refine iW ?_
   exact Be [] hI hj2 (Bj hI hj2 (by simp[h2])) ⟨⟨E,E,A9 _,hc,E,E,E,E,Y⟩,Y,E,E⟩
 ·have h:=zN h
  refine oO ?_
  refine Ap E (.cons .tmp .nil) (zD Aa ?_) E
  exact Dg (λ i hi=>by simpa using hI i hi q_)
theorem entryC (dom:Int) (m:Nat) (s:Static):Sp 261 [As s,.ref 1 (Aa dom) 0,.ref 1 (Bb m) 0] (Ac (decide (s.domain=dom) && decide (s.mac=(m:Int)))):=cT F261 Tryz.ntmps261 λ F hF=>by
 conv=>whnf
 constructor<;>intro h
 ·refine oO ?_
  refine Ap E (.cons .tmp .nil) (zD Ac ?_) E
  have h1:s.domain=dom:=by simpa using h
  rw[zL h1,zS,xO]
  simp
 ·refine oO ?_
  refine Ap E (.cons .tmp .nil) (zD Ac ?_) E
  have h1:¬ s.domain=dom:=by simpa using h
  rw[zJ h1,zT]
theorem entryI (n:Net) (hn:n.Fin) (dom:Int) (m:Nat):Sp 193 [Aj n,Aa dom,Bb m] (Aa (Dn n dom m)):=cT F193 Tryz.ntmps193 λ F hF=>by
 have q:=W2 n.statics (λ s:Static=>decide (s.domain=dom) && decide (s.mac=(m:Int))) 261 [] [.ref 1 (Aa dom) 0,.ref 1 (Bb m) 0] rfl (λ x _=>⟨⟨_,_,F261⟩,entryC dom m x⟩) hn.statics
 conv=>whnf
 refine Az 4 1 (Aa dom) E E E ?_
 refine Az 5 1 (Bb m) E E E ?_
 refine oO ?_
 refine c0 q F260 ?_
 refine oO ?_
 exact dN
def staticP (n:Net) (dom:Int) (m:Nat):Int:=if 0≤Dn n dom m then (nth n.statics (Dn n dom m)).port else -1
theorem Apt (n:Net) (hn:n.Fin) (hb:Ab n=true) (dom:Int) (m:Nat):Sp 287 [Aj n,Aa dom,Bb m] (Aa (staticP n dom m)):=cT F287 Tryz.ntmps287 λ F hF=>by
 have q:=entryI n hn dom m
 have qr:=Av n hn
 rw[hb]at qr
 have hlt:Dn n dom m<n.statics.length:=Hj _ _
 have hres:=staticP.eq_1 n dom m
 generalize staticP n dom m=res at *
 generalize Dn n dom m=i at *
 conv=>whnf
 refine c0 q F193 ?_
 refine oO ?_
 constructor<;>intro h
 ·rw[zA (by simp at h;omega)]at hres
  subst hres
  refine oT ?_
  exact dN
 ·have h0:0≤i:=by simp at h;omega
  have hk:i.toNat<n.statics.length:=by omega
  have e1:nth n.statics i=n.statics[i.toNat]:=Ae hk
  rw[zC h0,e1]at hres
  refine oO ?_
  refine c0 qr F19 ?_
  refine oF ?_
  refine⟨E,h0,hk,?_⟩
  conv=>whnf
  exact Ap E (.cons .tmp .nil) (zD Aa hres) E
def knownT (n:Net) (fw:List Bool) (t:List EntryM) (dom from_:Int) (m:Nat):List Int × List Int × Bool :=
 if 0≤staticP n dom m then (Ch n fw from_ [staticP n dom m],[],true)
 else if (findE t m).2=false then ([],[],false)
 else if 0≤(findE t m).1∧inB (Au n dom) (findE t m).1=true then (Ch n fw from_ [(findE t m).1],[],true)
 else if (findE t m).1<0∧inB (nth n.domains dom).peers (-1-(findE t m).1)=true then (if from_=-1 then ([],[],true) else ([],[-1-(findE t m).1],true))
 else ([],[],false)
theorem Zf {n:Net} (hb:Ab n=true) (dom:Int) (m:Nat) (h:0≤staticP n dom m):staticP n dom m<n.ports.length:=by
 unfold staticP at h ⊢
 split at h
 ·rename_i h0
  rw[zC h0]
  have hlt:Dn n dom m<n.statics.length:=Hj _ _
  have hk:(Dn n dom m).toNat<n.statics.length:=by omega
  simp only[Ab,zB]at hb
  have:=allB_iff.1 hb.1.1.1.2 _ hk
  simp only[J1,zB,Af,zG]at this
  rw[Ae hk]
  exact this.1.1.2.2
 ·omega
theorem knownS (n:Net) (hn:n.Fin) (fw:List Bool) (t:List EntryM) (dom from_:Int) (m:Nat) (hl:Ak t) (hw:I64 (-1-(findE t m).1)) (hbase:Te n fw dom=true) :
  Sp 227 [.ref 12 (Ot n fw dom from_ (Au n dom)) 0,.sl 3 A1 t,Bb m] (.tup [.sl 1 Aa (knownT n fw t dom from_ m).1,.sl 1 Aa (knownT n fw t dom from_ m).2.1,Ac (knownT n fw t dom from_ m).2.2]):=cT F227 Tryz.ntmps227 λ F hF=>by
 simp only[Te,zB,zG]at hbase
 obtain ⟨⟨hd,hfw⟩,hbn⟩:=hbase
 have hdi:=Ci hd
 have hd0:0≤dom:=hdi.1
 have hkd:dom.toNat<n.domains.length:=by omega
 have e2:nth n.domains dom=n.domains[dom.toNat]:=Ae hkd
 have hpe:=hn.peers _ (zE hkd)
 have hres:=knownT.eq_1 n fw t dom from_ m
 have qs:=Apt n hn hbn dom m
 have hsp:=Zf hbn dom m
 have qf:=Av0 t m hl
 have qp:∀ p:Int,0≤p→p<n.ports.length→_:=λ p h0 h1=>An9 n fw dom from_ (Au n dom) [p] (by unfold Ak;simp) (Ab3 hbn hfw (l:=[p]) (λ x hx=>by rw[zX]at hx;subst hx;exact⟨h0,h1⟩))
 have hmem:∀ p,inB (Au n dom) p=true→0≤p∧p<n.ports.length:=λ p hp=>He p (inB_mem.1 hp)
 have qc:=λ x=>Dp (Au n dom) x (Mr hn dom)
 rw[e2]at hres
 obtain ⟨d,hdd⟩:∃ d,n.domains[dom.toNat]'hkd=d:=⟨_,rfl⟩
 rw[hdd]at hres hpe
 have qc2:=λ x=>Dp d.peers x hpe
 generalize knownT n fw t dom from_ m=res at *
 generalize staticP n dom m=sp at *
 generalize findE t m=fe at *
 obtain ⟨w,ok⟩:=fe
 dsimp only at hres hw qf
 generalize Au n dom=ml at *
 conv=>whnf
 refine cD qs F287 ?_
 refine oD ?_
 refine kW ?_
 constructor<;>intro h1
 ·have h2:0≤sp:=by simpa using h1
  rw[zC h2]at hres
  subst hres
  refine oO ?_
  refine Ku 25 Aa [sp] E E ?_
  refine Ai 25 E ?_
  refine c0 (qp sp h2 (hsp h2)) F219 ?_
  refine oO ?_
  refine Ao 7 1 Aa E ?_
  exact dN
 have h2:¬ 0≤sp:=by simp at h1;omega
 rw[zA h2]at hres
 refine oO ?_
 refine c0 qf F288 ?_
 cases ok
 ·rw[zC rfl]at hres
  subst hres
  refine oT ?_
  refine Ao 6 1 Aa E ?_
  refine Ao 7 1 Aa E ?_
  exact dN
 rw[zA j_]at hres
 refine oF ?_
 constructor<;>intro h3
 ·have h4:0≤w:=by simpa using h3
  refine oO ?_
  refine c0 (qc w) F21 ?_
  cases hin:inB ml w
  ·rw[zA (by simp[hin]),zA q_]at hres
   subst hres
   refine oF ?_
   refine⟨λ h5=>zW h5 (by simp;omega),λ _=>?_⟩
   refine oD ?_
   refine⟨z_,?_⟩
   ((conv=>whnf);refine aF ?_;refine rg ?_;conv=>whnf)
   refine Ao 6 1 Aa E ?_
   refine Ao 7 1 Aa E ?_
   exact dN
  ·rw[zC ⟨h4,hin⟩]at hres
   subst hres
   refine oT ?_
   refine Ku 49 Aa [w] E E ?_
   refine Ai 49 E ?_
   refine c0 (qp w h4 (hmem w hin).2) F219 ?_
   refine oO ?_
   refine Ao 7 1 Aa E ?_
   exact dN
 have h4:¬ 0≤w:=by simp at h3;omega
 rw[zA q_]at hres
 refine oF ?_
 refine⟨λ h5=>?_,λ h5=>zW h5 (by simp;omega)⟩
 refine oD ?_
 refine⟨E,hd0,hkd,?_⟩
 rw[hdd]
 conv=>whnf
 refine⟨hw,?_⟩
 conv=>whnf
 refine cD (qc2 (-1-w)) F21 ?_
 cases hin:inB d.peers (-1-w)
 ·rw[zA (by simp[hin])]at hres
  subst hres
  refine oD ?_
  refine⟨z_,?_⟩
  ((conv=>whnf);refine aF ?_;refine rg ?_;conv=>whnf)
  refine Ao 6 1 Aa E ?_
  refine Ao 7 1 Aa E ?_
  exact dN
 rw[zC ⟨by omega,hin⟩]at hres
 refine oD ?_
 refine⟨z_,?_⟩
 ((conv=>whnf);refine aT ?_;refine rg ?_;conv=>whnf)
 constructor<;>intro h6
 ·rw[zC (by simpa using h6)]at hres
  subst hres
  refine oO ?_
  refine Ao 6 1 Aa E ?_
  refine Ao 7 1 Aa E ?_
  exact dN
 ·rw[zA (by simpa using h6)]at hres
  subst hres
  refine oO ?_
  refine⟨hw,?_⟩
  conv=>whnf
  refine Ao 6 1 Aa E ?_
  refine Ku 78 Aa [-1-w] E E ?_
  refine Ai 78 E ?_
  exact dN
theorem V5 {n:Net} (hb:Ab n=true) (dom:Int) (m:Nat):(0≤staticP n dom m↔0≤Dn n dom m)∧(0≤Dn n dom m→staticP n dom m=(nth n.statics (Dn n dom m)).port):=by
 refine⟨⟨λ h=>?_,λ h=>?_⟩,λ h=>by rw[staticP,zC h]⟩
 ·unfold staticP at h
  split at h
  ·assumption
  ·omega
 ·rw[staticP,zC h]
  have hlt:Dn n dom m<n.statics.length:=Hj _ _
  have hk:(Dn n dom m).toNat<n.statics.length:=by omega
  simp only[Ab,zB]at hb
  have:=allB_iff.1 hb.1.1.1.2 _ hk
  simp only[J1,zB,Af,zG]at this
  rw[Ae hk]
  exact this.1.1.2.1
theorem A02 {n:Net} {fw:List Bool} {t:List EntryM} {dom from_:Int} {m:Nat} (hb:Ab n=true) (hr:Jq n fw dom from_=true) (hg:Dh m=false) :
  Da n fw t dom from_ m=if (knownT n fw t dom from_ m).2.2=true then ((knownT n fw t dom from_ m).1,(knownT n fw t dom from_ m).2.1,0) else (Ch n fw from_ (Au n dom),peersOut n dom from_,0):=by
 obtain ⟨h1,h2⟩:=V5 hb dom m
 rw[Da,zA (by rw[hr];decide),zA (by rw[hg];decide)]
 unfold knownT
 by_cases hs:0≤Dn n dom m
 ·rw[zC hs,zC (h1.2 hs),h2 hs];rfl
 rw[zA hs,zA (λ h=>hs (h1.1 h))]
 generalize findE t m=fe
 obtain ⟨w,ok⟩:=fe
 cases ok
 ·simp
 simp only[Bool.true_eq_false,if_false,true_and]
 by_cases ha:0≤w∧inB (Au n dom) w=true
 ·rw[zC ha,zC ha];rfl
 rw[zA ha,zA ha]
 by_cases hc:w<0∧inB (nth n.domains dom).peers (-1-w)=true
 ·rw[zC hc,zC hc]
  split<;>rfl
 ·rw[zA hc,zA hc];rfl
theorem A03 (n:Net) (hn:n.Fin) (fw:List Bool) (t:List EntryM) (dom from_:Int) (m:Nat) (hl:Ak t) (hw:I64 (-1-(findE t m).1)) (hm64:m<18446744073709551616) :
  Sp 158 [Aj n,.sl 1 Ac fw,.sl 3 A1 t,Aa dom,Aa from_,Bb m] (.tup [.sl 1 Aa (Da n fw t dom from_ m).1,.sl 1 Aa (Da n fw t dom from_ m).2.1,Aa (Da n fw t dom from_ m).2.2]):=cT F158 Tryz.ntmps158 λ F hF=>by
 cases hbase:Te n fw dom
 ·have hres:Da n fw t dom from_ m=([],[],2):=by
   rw[Da,zC (by rw[Q8,hbase];rfl)]
  rw[hres]
  have q:=Aqu n hn fw dom from_ hbase
  refine fW ?_
  refine c0 q F218 ?_
  refine fU ?_
  refine Ao 12 1 Aa E ?_
  refine Ao 13 1 Aa E ?_
  exact dN
 have q:=Awf n hn fw dom from_ hbase
 have qk:=knownS n hn fw t dom from_ m hl hw hbase
 have qg:=Lt m hm64
 have hb2:=hbase
 simp only[Te,zB,zG]at hb2
 obtain ⟨⟨hd,hfw⟩,hbn⟩:=hb2
 have qp:=An9 n fw dom from_ (Au n dom) (Au n dom) (Mr hn dom) (Ab3 hbn hfw He)
 have qe:=Aq1 n hn fw dom from_ (Au n dom) hd
 have hroom:=Q8 n fw dom from_
 rw[hbase,zS]at hroom
 have hbad:Jq n fw dom from_=false→Da n fw t dom from_ m=([],[],2):=λ h=>by rw[Da,zC h]
 have hgrp:Jq n fw dom from_=true→Dh m=true→Da n fw t dom from_ m=(Ch n fw from_ (Au n dom),peersOut n dom from_,0):=λ h h2=>by
  rw[Da,zA (by rw[h];decide),zC h2]
 have hkn:=λ h h2=>@A02 n fw t dom from_ m hbn h h2
 generalize Da n fw t dom from_ m=res at *
 generalize knownT n fw t dom from_ m=kn at *
 obtain ⟨kp,ke,ko⟩:=kn
 generalize Jq n fw dom from_=rm at *
 generalize (decide (from_=-1) || decide (from_=-2) || inB (Au n dom) from_)=ok at *
 subst hroom
 generalize Au n dom=ml at *
 dsimp only at hkn qk
 refine fW ?_
 refine c0 q F218 ?_
 cases rm
 ·rw[hbad rfl]
  refine fU ?_
  refine Ao 12 1 Aa E ?_
  refine Ao 13 1 Aa E ?_
  exact dN
 refine fU ?_
 refine c0 qg F149 ?_
 cases hg:Dh m
 ·have hkn:=hkn rfl hg
  refine fU ?_
  refine c0 qk F227 ?_
  cases ko
  ·rw[zA j_]at hkn
   subst hkn
   refine fU ?_
   refine c0 qp F219 ?_
   refine fU ?_
   refine c0 qe F220 ?_
   refine fU ?_
   exact dN
  ·rw[zC rfl]at hkn
   subst hkn
   refine fU ?_
   exact dN
 ·rw[hgrp rfl hg]
  refine fU ?_
  refine c0 qp F219 ?_
  refine fU ?_
  refine c0 qe F220 ?_
  refine fU ?_
  exact dN
theorem Auo {t:List EntryM} {m:Nat} (hr:tableB t=true) (h:(findE t m).2=true):∃ (i:Nat) (_hi:i<t.length),Df t m=i∧∀ j (hj:j<t.length),t[j].mac=m↔j=i:=by
 rcases Lx (λ e=>decide (EntryM.mac e=m)) t with ⟨h1,h2⟩ | ⟨i,hi,h1,h2,h3⟩
 ·have h4:Df t m=-1:=h1
  rw[findE,h4,zC j_]at h
  cases h
 ·have him:t[i].mac=m:=zK h2
  refine⟨i,hi,h1,λ j hj=>⟨λ hj2=>?_,λ e=>by subst e;exact him⟩⟩
  simp only[tableB,zB]at hr
  have he:=allB_iff.1 hr.2 j hj
  simp only[Qc,zB,zG]at he
  have:=he.2
  rw[hj2]at this
  have h4:Df t m=i:=h1
  omega
end Go.Sy.YtljngfegfclkpaaGreat
namespace Go.Sy.YtljngfegfclkpaaGreat
open Go.Proofs
structure TabOK (t:List EntryM):Prop where
 short:Ak t
 mac:∀ e∈t,e.mac<18446744073709551616
 wh:∀ e∈t,I64 e.where_
structure QueuedOK (q:QueuedM):Prop where
 frame:FrameOK q.frame
 from_:-2≤q.from_∧q.from_<1099511627776
 peer:0≤q.peer∧q.peer<1099511627776
def Ij (l:List QueuedM):Prop:=l.length≤64∧∀ q∈l,QueuedOK q
structure MacOK (n:Net) (m:MacM) (J D:Int):Prop where
 up:m.up.length=n.links.length
 tabs:m.tables.length=n.domains.length
 ques:m.queues.length=n.domains.length
 tab:∀ t∈m.tables,TabOK t
 que:∀ l∈m.queues,Ij l
 now:0≤m.now∧m.now≤1099511627776
 inj:0≤m.injected∧m.injected≤J
 drp:∀ i,0≤m.drops i∧m.drops i≤D
theorem Iv {f:FrameM} (hf:FrameOK f) {a b:Int} (c:Int) (h1:-2≤a∧a<1099511627776) (h2:0≤b∧b<1099511627776):QueuedOK ⟨a,b,c,f⟩:=⟨hf,h1,h2⟩
theorem Aw3:QueuedOK noQ:=⟨D3,by decide,by decide⟩
theorem Yv:TabOK []:=⟨by unfold Ak;decide,λ _ h=>(by cases h),λ _ h=>(by cases h)⟩
theorem Zv:Ij []:=⟨by decide,λ _ h=>(by cases h)⟩
theorem Acf {α:Type} {l:List α} {i:Nat} {x y:α} (h:y∈l.set i x):y=x∨y∈l:=by
 rcases uD h with h | h
 ·exact .inr h
 ·exact .inl h
theorem Ac2 {α:Type} {l:List α} {i:Nat} {d:α} (h:i<l.length):(l[i]?).getD d∈l:=by
 rw[zH h]
 exact zE h
theorem Hx {n:Net} {m:MacM} {J D:Int} (h:MacOK n m J D) (dom:Int):Ij (queueL m dom):=by
 unfold queueL
 by_cases hd:dom.toNat<m.queues.length
 ·exact h.que _ (Ac2 hd)
 ·rw[wD q_];exact Zv
theorem Yh {n:Net} {m:MacM} {J D:Int} (h:MacOK n m J D) (dom:Int):TabOK (tableL m dom):=by
 unfold tableL
 by_cases hd:dom.toNat<m.tables.length
 ·exact h.tab _ (Ac2 hd)
 ·rw[wD q_];exact Yv
theorem MacOK.mono {n:Net} {m:MacM} {J D J' D':Int} (h:MacOK n m J D) (h1:J≤J') (h2:D≤D'):MacOK n m J' D' :=
 ⟨h.up,h.tabs,h.ques,h.tab,h.que,h.now,⟨h.inj.1,by have:=h.inj.2;omega⟩,λ i=>⟨(h.drp i).1,by have:=(h.drp i).2;omega⟩⟩
theorem Ta {n:Net} {m:MacM} {J D:Int} (h:MacOK n m J D) (_hD:0≤D) (e:Int):MacOK n (Cv m e) J (D+1):=by
 refine⟨h.up,h.tabs,h.ques,h.tab,h.que,h.now,h.inj,λ i=>?_⟩
 have:=h.drp i
 show 0≤(if i=e.toNat then m.drops i+1 else m.drops i)∧(if i=e.toNat then m.drops i+1 else m.drops i)≤D+1
 split<;>omega
theorem Aqr {n:Net} {m:MacM} {J D:Int} (h:MacOK n m J D) (dom:Int) {l:List QueuedM} (hl:Ij l):MacOK n (Mz m dom l) J D:=by
 refine⟨h.up,h.tabs,by rw[Mz];simp[h.ques],h.tab,λ x hx=>?_,h.now,h.inj,h.drp⟩
 rcases Acf hx with rfl | hx
 ·exact hl
 ·exact h.que x hx
theorem Aqq {n:Net} {m:MacM} {J D:Int} (h:MacOK n m J D) (dom:Int) {l:List EntryM} (hl:TabOK l):MacOK n (D9 m dom l) J D:=by
 refine⟨h.up,by rw[D9];simp[h.tabs],h.ques,λ x hx=>?_,h.que,h.now,h.inj,h.drp⟩
 rcases Acf hx with rfl | hx
 ·exact hl
 ·exact h.tab x hx
theorem Awn {l:List QueuedM} (hl:Ij l) {q:QueuedM} (hq:QueuedOK q):Ij (pushT l q).1:=by
 unfold pushT
 split
 ·exact hl
 ·refine⟨by simp;omega,λ x hx=>?_⟩
  rcases yF.1 hx with hx | hx
  ·exact hl.2 x hx
  ·rw[zX.1 hx];exact hq
theorem Avw {l:List QueuedM} (hl:Ij l) (at_:Int):QueuedOK (takeT l at_).1∧Ij (takeT l at_).2.1:=by
 unfold takeT
 split
 ·exact⟨Aw3,hl⟩
 ·rename_i h
  refine⟨hl.2 _ (Ac2 q_),?_,λ x hx=>hl.2 x (tK hx)⟩
  have:=List.length_eraseIdx_le l at_.toNat
  have:=hl.1
  show (l.eraseIdx at_.toNat).length≤64
  omega
theorem Xs {n:Net} {m:MacM} {J D:Int} (h:MacOK n m J D) (hD:0≤D) (dom:Int) {q:QueuedM} (hq:QueuedOK q) (e:Int):MacOK n (comeM m dom q e) J (D+1):=by
 unfold comeM
 split
 ·exact Ta h hD e
 split
 ·exact(Aqr h dom (Awn (Hx h dom) hq)).mono (wG _) q_
 ·exact Ta h hD 3
theorem Abd {n:Net} {m:MacM} {J D:Int} (h:MacOK n m J D) (dom at_:Int):MacOK n (takeM m dom at_).1 J D∧QueuedOK (takeM m dom at_).2.1:=by
 unfold takeM
 split
 ·exact⟨h,Aw3⟩
 ·have:=Avw (Hx h dom) at_
  exact⟨Aqr h dom this.2,this.1⟩
theorem Ao6 {n:Net} (hn:n.Fin) {m:MacM} {J D:Int} (h:MacOK n m J D) (_hJ:0≤J) (hD:0≤D) (port:Int) (b:List UInt8):MacOK n (injectT n m port b) (J+1) (D+1):=by
 unfold injectT
 split
 ·exact h.mono q_ q_
 ·rename_i hc
  have hp:Af port n.ports.length=true:=by cases hx:Af port n.ports.length;exact zW (.inl hx) hc;rfl
  have hpi:=Ci hp
  have hs:=hn.ports
  unfold Ak at hs
  have h1:=h.inj
  have hm:MacOK n ⟨m.up,m.tables,m.queues,m.now,m.injected+1,m.drops⟩ (J+1) D:=⟨h.up,h.tabs,h.ques,h.tab,h.que,h.now,(by show 0≤m.injected+1∧m.injected+1≤J+1;omega),h.drp⟩
  exact Xs hm hD _ (Iv (Y6 _ _ _) _ q_ q_) _
structure OutOK (n:Net) (o:OutM):Prop where
 kind:1≤o.kind∧o.kind≤5
 bytes:o.bytes.length≤1518
 frame:o.kind=4→FrameOK o.frame∧DomIn n o.domain
 err:o.kind=5→B4 o.error
theorem Ati {n:Net} (hn:n.Fin) (port:Int):-1≤Ay n port∧Ay n port<2147483648:=by
 unfold Ay
 split
 ·rename_i h
  obtain ⟨⟨h1,h2⟩,h3,hb⟩:=h
  have hk:port.toNat<n.ports.length:=by omega
  rw[Ae hk]at h3 ⊢
  have hl:=(Ee hb hk h3).1
  rw[Ae hl]
  simp only[Ab,zB]at hb
  have hlb:=allB_iff.1 hb.1.1.1.1.2 _ hl
  simp only[Kx,zB]at hlb
  have ha:=Ci hlb.1.1.1.1
  have hb2:=Ci hlb.1.1.1.2
  have hs:=hn.ports
  unfold Ak at hs
  split<;>omega
 ·omega
theorem Ak0 {n:Net} (hn:n.Fin) (port:Int) (b:List UInt8):0≤(linkT n port b).1∧(linkT n port b).1<1099511627776:=by
 have:=Ati hn port
 unfold linkT
 split<;>dsimp only<;>omega
theorem Ado {n:Net} (hn:n.Fin) (b:List UInt8):0≤(comeT n b).1∧(comeT n b).1<1099511627776:=by
 by_cases h:(comeT n b).2.2.2=0
 ·have:=(Agl h).1
  have hs:=hn.domains
  unfold Ak at hs
  unfold DomIn at this
  omega
 ·unfold comeT at h ⊢
  split
  ·decide
  rename_i h1
  rw[zA h1]at h
  split
  ·exact⟨wG _,by dsimp only;omega⟩
  rename_i h1
  rw[zA h1]at h
  split
  ·decide
  rename_i h1
  rw[zA h1]at h
  split
  ·decide
  rename_i h1
  rw[zA h1]at h
  exact zW E h
theorem Aya {n:Net} (hn:n.Fin) {m:MacM} {J D:Int} (h:MacOK n m J D) (hD:0≤D) {o:OutM} (ho:OutOK n o) (origin:Int):MacOK n (goesM n m o origin).1 J (D+1):=by
 unfold goesM
 split
 ·exact h.mono (wG _) q_
 split
 ·have:=Ak0 hn o.port o.bytes
  exact Xs h hD _ (Iv (Ak1 _ _ _) _ q_ q_) _
 split
 ·exact Xs h hD _ (Iv (Al9 _ _) _ q_ (Ado hn o.bytes)) _
 split
 ·rename_i h4
  exact Xs h hD o.domain (Iv (a:=-2) (b:=0) (ho.frame h4).1 origin j_ j_) 0
 ·exact Ta h hD _
theorem S3 {n:Net} (hn:n.Fin) (origin:Int):∀ (l:List OutM) {m:MacM} {J D:Int},MacOK n m J D→0≤D→(∀ o∈l,OutOK n o)→MacOK n (Bl n m origin l).1 J (D+l.length)
 | [],m,J,D,h,_,_=>by
  rw[Bl]
  exact h.mono (wG _) y_
 | o::l,m,J,D,h,hD,ho=>by
  rw[Bl]
  have:=S3 hn origin l (Aya hn h hD (ho o y_) origin) q_ (λ x hx=>ho x (by simp[hx]))
  exact this.mono (wG _) (by simp only[yJ];omega)
theorem Aku {n:Net} {o:OutM} {r:List UInt8 × Int} (hk:1≤o.kind∧o.kind≤3) (hr:r.1.length≤1518) (he:B4 r.2):OutOK n (Sl o r):=by
 unfold Sl
 split
 ·exact⟨⟨by dsimp only;omega,by dsimp only;omega⟩,by simp,λ h=>zW h (by dsimp only;omega),λ _=>he⟩
 ·exact⟨⟨hk.1,by have:=hk.2;dsimp only;omega⟩,hr,λ h=>by have:=hk.2;dsimp only at h;omega,λ h=>by have:=hk.2;dsimp only at h;omega⟩
theorem At7 {t:List EntryM} (h:TabOK t) {m:Nat} (hm:m<18446744073709551616) {wh:Int} (hw:I64 wh) (now:Int):TabOK (learnT t m wh now):=by
 have hs:=h.short
 unfold Ak at hs
 have key:∀ e:EntryM,e∈learnT t m wh now→e∈t∨e=⟨m,wh,now⟩:=λ e he=>by
  unfold learnT at he
  split at he
  ·exact .inl he
  split at he
  ·rcases Acf he with h | h
   ·exact .inr h
   ·exact .inl h
  ·rcases yF.1 he with h | h
   ·split at h
    ·exact .inl (tK h)
    ·exact .inl h
   ·exact .inr (zX.1 h)
 refine⟨?_,λ e he=>?_,λ e he=>?_⟩
 ·unfold learnT
  split
  ·exact h.short
  rename_i hb
  have h8:t.length≤8:=by
   have:tableB t=true:=by cases hx:tableB t;exact zW (.inl hx) hb;rfl
   simp only[tableB,zB,zG]at this
   exact this.1
  split
  ·unfold Ak;simp;omega
  ·unfold Ak
   split
   ·have:=List.length_eraseIdx_le t (oldestU t t.length)
    simp only[zI,yJ,xA]
    omega
   ·simp only[zI,yJ,xA]
    omega
 ·rcases key e he with h1 | rfl
  ·exact h.mac e h1
  ·exact hm
 ·rcases key e he with h1 | rfl
  ·exact h.wh e h1
  ·exact hw
theorem Tu {t:List EntryM} (h:TabOK t) {q:QueuedM} (hq:QueuedOK q) (now:Int):TabOK (learnQ t q now):=by
 unfold learnQ
 split
 ·exact h
 ·have hs:=hq.frame.src
  refine At7 h q_ ?_ now
  have h1:=hq.from_
  have h2:=hq.peer
  unfold I64
  split<;>omega
theorem A1d {t:List EntryM} (h:TabOK t) (now:Int):TabOK (ageT t now):=by
 unfold ageT
 split
 ·exact h
 ·have hs:=h.short
  unfold Ak at hs
  refine⟨?_,λ e he=>h.mac e (vW.1 he).1,λ e he=>h.wh e (vW.1 he).1⟩
  unfold Ak
  exact Nat.lt_of_le_of_lt (tW _ _) hs
theorem Ako (n:Net) (dom:Int):(Au n dom).length≤n.ports.length:=by
 rw[Au]
 have:=Hy (Qq n (nth n.domains dom)) n.ports.length
 exact this
end Go.Sy.YtljngfegfclkpaaGreat
namespace Go.Sy.YtljngfegfclkpaaGreat
open Go.Proofs
attribute [local irreducible] Go.Sy.G Go.Sy.DR
set_option maxRecDepth 100000
set_option maxHeartbeats 4000000
theorem Ait (t:List EntryM) (q:QueuedM) (now:Int) (ht:TabOK t) (hq:QueuedOK q):Sp 154 [.sl 3 A1 t,Bv q,Aa now] (.sl 3 A1 (learnQ t q now)):=cT F154 Tryz.ntmps154 λ F hF=>by
 have hres:=learnQ.eq_1 t q now
 generalize learnQ t q now=res at *
 have hl:=ht.short
 have hl2:=hl
 unfold Ak at hl2
 have hs:=hq.frame.src
 have h1:=hq.peer
 conv=>whnf
 constructor<;>intro h
 ·rw[zC (by simpa using h)]at hres
  subst hres
  refine oO ?_
  refine Ag (Ad [(0,55)] E F165 (Tc res hl2) E Y E ⟨.inr E,Y⟩) E E ?_
  refine Ai 55 E ?_
  refine oO ?_
  exact dN
 rw[zA (by simpa using h)]at hres
 clear h
 refine oO ?_
 constructor<;>intro h
 ·rw[zC (by simpa using h)]at hres
  subst hres
  refine oO ?_
  refine iW ?_
  refine c0 (Ae9 t q.frame.src (-1-q.peer) now hl ht.mac q_) F223 ?_
  refine oO ?_
  exact dN
 rw[zA (by simpa using h)]at hres
 subst hres
 refine oO ?_
 refine c0 (Ae9 t q.frame.src q.from_ now hl ht.mac q_) F223 ?_
 refine oO ?_
 exact dN
def Ath (k p d:Int):OutM:=⟨k,p,d,[],noF,0⟩
theorem A0h (k p d:Int) (b:List UInt8) (e:Int):Sl (Ath k p d) (b,e)=if e≠0 then ⟨5,p,d,[],noF,e⟩ else ⟨k,p,d,b,noF,0⟩:=rfl
theorem Vv (l:List OutM) (k p d:Int) (b:List UInt8) (e:Int) (hl:l.length<100000000000) :
  Sq 157 [E5 (Ath k p d),.sl 1 Al b,Aa e,.ptr 0 0] [(0,.box [.osl 1]),(1,.row 9 E5 l)] (.tup []) [(0,.box [.osl 2]),(1,.non),(2,.row 9 E5 (l++[Sl (Ath k p d) (b,e)]))]:=cT F157 Tryz.ntmps157 λ F hF=>by
 have hres:=A0h k p d b e
 generalize Sl (Ath k p d) (b,e)=res at *
 conv=>whnf
 constructor<;>intro h
 ·rw[zC (by simpa using h)]at hres
  refine oO ?_
  refine Ai1 17 [E5 ⟨5,p,d,[],noF,e⟩] E (.cons (.agg vL) .nil) E ?_
  refine Ag (Ah Γ.toTy 18 E E E E E (.row E) (.lit (e:=E5) (l:=[res]) E (by rw[hres];rfl)) j_ (by simp;omega) (by simp;omega)) E E ?_
  refine oO ?_
  exact A4 E .nil [(2,18)] [(0,.box [.osl 2]),(1,.non),(2,.row 9 E5 (l++[res]))] (λ _ h=>h) E E ⟨Y,⟨.inl E,E,.inl E,E,.inl E,E,Y⟩,E,E⟩
 ·rw[zA (by simpa using h)]at hres
  refine oO ?_
  refine Ag (Ah Γ.toTy 18 E E E E E (.row E) (.lit (e:=E5) (l:=[res]) E (by rw[hres];rfl)) j_ (by simp;omega) (by simp;omega)) E E ?_
  refine oO ?_
  exact A4 E .nil [(2,18)] [(0,.box [.osl 2]),(1,.non),(2,.row 9 E5 (l++[res]))] (λ _ h=>h) E E ⟨Y,⟨.inl E,E,.inl E,E,.inl E,E,Y⟩,E,E⟩
theorem A0v {t:List EntryM} (ht:TabOK t) (m:Nat):I64 (findE t m).1:=by
 unfold findE
 split
 ·unfold I64;dsimp only;omega
 ·rename_i h
  have hlt:Df t m<t.length:=Hj _ _
  have hk:(Df t m).toNat<t.length:=by omega
  dsimp only
  rw[zH hk]
  exact ht.wh _ (zE hk)
theorem K6 {n:Net} {fw:List Bool} {fr:Int} {l:List Int} {p:Int} (h:p∈Ch n fw fr l):p∈l:=(vW.1 h).1
theorem Ain {n:Net} (hb:Ab n=true) (fw:List Bool) (t:List EntryM) (dom fr:Int) (m:Nat):∀ p∈(Da n fw t dom fr m).1,0≤p∧p<n.ports.length:=by
 intro p hp
 unfold Da at hp
 split at hp
 ·cases hp
 split at hp
 ·exact He p (K6 hp)
 split at hp
 ·rename_i h1
  obtain ⟨hs1,hs2⟩:=V5 hb dom m
  have h2:=hs1.2 h1
  have h3:=Zf hb dom m h2
  have h4:=zX.1 (K6 hp)
  rw[h4,← hs2 h1]
  exact⟨h2,h3⟩
 split at hp
 ·rename_i h1
  rw[zX.1 (K6 hp)]
  exact He _ (inB_mem.1 h1.2.2)
 split at hp
 ·cases hp
 ·exact He p (K6 hp)
theorem Ahi (n:Net) (fw:List Bool) (fr:Int) (l:List Int):(Ch n fw fr l).length≤l.length:=tW _ _
theorem Ahk {n:Net} (hn:n.Fin) (dom fr:Int) (hd:Af dom n.domains.length=true):(peersOut n dom fr).length<2147483648:=by
 unfold peersOut
 split
 ·decide
 ·have h:=Lo hd
  rw[Ae h.2]
  exact hn.peers _ (zE h.2)
theorem Adn {n:Net} (hn:n.Fin) (fw:List Bool) (t:List EntryM) (dom fr:Int) (m:Nat):(Da n fw t dom fr m).1.length<2147483648∧(Da n fw t dom fr m).2.1.length<2147483648:=by
 have h1:=Ako n dom
 have h2:=hn.ports
 unfold Ak at h2
 have h3:=λ l=>Ahi n fw fr l
 unfold Da
 split
 ·decide
 rename_i h
 have hd:Af dom n.domains.length=true:=by
  cases hx:Af dom n.domains.length
  ·exact zW (by rw[Jq,hx];rfl) h
  ·rfl
 have h4:=Ahk hn dom fr hd
 split
 ·have:=h3 (Au n dom);exact⟨by dsimp only;omega,h4⟩
 split
 ·have:=h3 [(nth n.statics (Dn n dom m)).port];simp only[yJ,xA]at this;exact⟨by dsimp only;omega,by show (0:Nat)<2147483648;decide⟩
 split
 ·have:=h3 [(findE t m).1];simp only[yJ,xA]at this;exact⟨by dsimp only;omega,by show (0:Nat)<2147483648;decide⟩
 split
 ·refine⟨by show (0:Nat)<2147483648;decide,?_⟩
  dsimp only
  split<;>simp
 ·have:=h3 (Au n dom);exact⟨by dsimp only;omega,h4⟩
theorem Amf (n:Net) (hn:n.Fin) (hm0:n.Num) (fw:List Bool) (t:List EntryM) (dom:Int) (q:QueuedM) (now:Int) (ht:TabOK t) (hq:QueuedOK q) :
  Sp 94 [Aj n,.sl 1 Ac fw,.sl 3 A1 t,Aa dom,Bv q,Aa now] (.tup [.sl 3 A1 (bridgeT n fw t dom q now).1,.sl 9 E5 (bridgeT n fw t dom q now).2.1,Aa (bridgeT n fw t dom q now).2.2]):=cT F94 Tryz.ntmps94 λ F hF=>by
 have hres:=bridgeT.eq_1 n fw t dom q now
 generalize bridgeT n fw t dom q now=res at *
 have qf:=floodS n hn fw dom q.from_
 have qr:=Yi t ht.short ht.mac
 conv=>whnf
 refine Az 6 8 (Aj n) E E E ?_
 refine Az 10 7 (Bv q) E E E ?_
 refine oO ?_
 cases hroom:Jq n fw dom q.from_
 ·rw[zC (.inl hroom)]at hres
  subst hres
  rw[floodT,zC hroom]at qf
  refine c0 qf F152 ?_
  (refine oT ?_;refine bT ?_)
  refine Am 13 [.sl 9 E5 []] E (.cons .nil .nil) ?_
  refine Ao 12 3 A1 E ?_
  exact dN
 rw[floodT,zA (by rw[hroom];decide)]at qf
 refine c0 qf F152 ?_
 refine oF ?_
 refine c0 qr F153 ?_
 cases htb:tableB t
 ·rw[zC (.inr htb)]at hres
  subst hres
  refine oT ?_
  refine Am 13 [.sl 9 E5 []] E (.cons .nil .nil) ?_
  refine Ao 12 3 A1 E ?_
  exact dN
 rw[zA (by simp[hroom,htb])]at hres
 have ql:=Ait t q now ht hq
 have hu:=Tu ht hq now
 generalize learnQ t q now=u at *
 have qro:=Ai4 n hn hm0 dom q.frame.dst
 generalize routerT n dom q.frame.dst=ro at *
 obtain ⟨irb,ok⟩:=ro
 dsimp only at hres qro
 have hbn:Ab n=true:=by
  simp only[Jq,zB]at hroom
  exact hroom.1.2
 refine oF ?_
 refine c0 ql F154 ?_
 refine oO ?_
 refine c0 qro F155 ?_
 cases ok
 rotate_left
 ·rw[zC rfl]at hres
  have qh:=As0 n hn hm0 irb q.frame hq.frame
  generalize hopT n irb q.frame=hp at *
  obtain ⟨to,g,e⟩:=hp
  dsimp only at hres qh
  refine oT ?_
  refine c0 qh F156 ?_
  refine oO ?_
  constructor<;>intro h
  ·rw[zC (by simpa using h)]at hres
   subst hres
   refine oO ?_
   refine Am 13 [.sl 9 E5 []] E (.cons .nil .nil) ?_
   exact dN
  ·rw[zA (by simpa using h)]at hres
   subst hres
   refine oO ?_
   refine kW ?_
   refine Ai1 84 [E5 ⟨4,0,to,[],g,0⟩] E (.cons (.agg vL) .nil) E ?_
   refine Ku 84 E5 [⟨4,0,to,[],g,0⟩] E E ?_
   refine Ai 84 E ?_
   exact dN
 rw[zA j_]at hres
 have hs:=hq.frame.src
 have hd2:=hq.frame.dst
 have hfw:=A0v hu q.frame.dst
 have qd:=A03 n hn fw u dom q.from_ q.frame.dst hu.short (by unfold I64 at *;omega) q_
 have hports:=Ain hbn fw u dom q.from_ q.frame.dst
 have hfew:=Adn hn fw u dom q.from_ q.frame.dst
 generalize Da n fw u dom q.from_ q.frame.dst=dc at *
 obtain ⟨ports,peers,e0⟩:=dc
 dsimp only at hres qd hports hfew
 obtain ⟨hf1,hf2⟩:=hfew
 refine oF ?_
 refine c0 qd F158 ?_
 refine oO ?_
 refine Amw 13 0 1000 9 E5 E E E E ?_
 refine A5 ports.length (λ j=>[(3,Aa dom),(6,.ref 8 (Aj n) 0),(10,.ref 7 (Bv q) 0),(12,.sl 3 A1 u),(13,.ptr 13 0),(23,.clo (.func 157) [] [.ptr 13 0]),(25,.sl 1 Aa peers),(100,.sl 1 Aa ports),(101,Aa ports.length),(102,Aa j)])
  (λ j=>[(13,.box [.osl 1000]),(1000,.row 9 E5 ((ports.take j).map (Qw n dom q.frame)))]) [(13,13),(1000,1000)] ⟨⟨rfl,rfl,rfl,rfl,rfl,rfl,rfl,rfl,rfl,rfl,rfl,rfl,rfl,rfl,rfl,rfl,rfl,rfl,rfl,rfl,trivial⟩,⟨.inl rfl,rfl,.inl rfl,rfl,trivial⟩,rfl,rfl⟩ ?_
 intro j hj
 refine oO ?_
 constructor<;>intro h
 ·have hlt:j<ports.length:=qA h
  have hj0:((j:Nat):Int).toNat<ports.length:=by simpa using hlt
  obtain ⟨p,hp⟩:∃ p,ports[j]=p:=⟨_,rfl⟩
  have e1:ports[((j:Nat):Int).toNat]'hj0=p:=hp
  have hs:(ports.take (j+1)).map (Qw n dom q.frame)=(ports.take j).map (Qw n dom q.frame)++[Qw n dom q.frame p]:=by
   rw[zY hlt,wK,hp];rfl
  have hal:((ports.take j).map (Qw n dom q.frame)).length=j:=by rw[yP,zU];omega
  have hpi:=hports p (by rw[← hp];exact zE hlt)
  have hpk:p.toNat<n.ports.length:=by omega
  have ql:=Axr n hn p dom q.frame hq.frame
  have hop:Qw n dom q.frame p=Sl (Ath (if (nth n.ports p).link<0 then 1 else 2) p 0) ((leaveT n p dom q.frame).1,(leaveT n p dom q.frame).2):=rfl
  rw[hop,Ae hpk]at hs
  clear hop
  obtain ⟨acc,hacc⟩:∃ acc,(ports.take j).map (Qw n dom q.frame)=acc:=⟨_,rfl⟩
  rw[hacc]at hs hal ⊢
  obtain ⟨x,hx⟩:∃ x,n.ports[p.toNat]'hpk=x:=⟨_,rfl⟩
  rw[hx]at hs
  clear h
  refine oO ?_
  refine⟨E,by omega,hj0,?_⟩
  rw[e1]
  conv=>whnf
  refine⟨E,hpi.1,hpk,?_⟩
  rw[hx]
  conv=>whnf
  constructor<;>intro h
  ·rw[zA (qA h)]at hs
   refine oO ?_
   refine c0 ql F159 ?_
   refine oO ?_
   refine Ag (I0 [(0,13),(1,1000),(2,1001)] [] (Cb E E F157) (Vv acc 2 p 0 (leaveT n p dom q.frame).1 (leaveT n p dom q.frame).2 q_) (.cons (.agg vL) vL) ⟨E,E,Y⟩ E ⟨.inl E,.inl E,.inr E,Y⟩ E) E E ?_
   refine oO ?_
   refine iW ?_
   exact Ax [(13,13),(1000,1001)] hlt ⟨⟨E,E,E,E,E,E,E,E,E,E,E,E,E,E,E,E,E,E,E,E,Y⟩,⟨.inl E,E,.inl (zD (Ob.row 9 E5) hs),E,Y⟩,E,E⟩
  ·rw[zC (qB h)]at hs
   refine oO ?_
   refine c0 ql F159 ?_
   refine oO ?_
   refine Ag (I0 [(0,13),(1,1000),(2,1001)] [] (Cb E E F157) (Vv acc 1 p 0 (leaveT n p dom q.frame).1 (leaveT n p dom q.frame).2 q_) (.cons (.agg vL) vL) ⟨E,E,Y⟩ E ⟨.inl E,.inl E,.inr E,Y⟩ E) E E ?_
   refine oO ?_
   refine iW ?_
   exact Ax [(13,13),(1000,1001)] hlt ⟨⟨E,E,E,E,E,E,E,E,E,E,E,E,E,E,E,E,E,E,E,E,Y⟩,⟨.inl E,E,.inl (zD (Ob.row 9 E5) hs),E,Y⟩,E,E⟩
 have hjj:j=ports.length:=qB h
 subst hjj
 clear h
 rw[yG]
 obtain ⟨acc0,hacc0⟩:∃ acc0,ports.map (Qw n dom q.frame)=acc0:=⟨_,rfl⟩
 have hal0:acc0.length=ports.length:=by rw[← hacc0,yP]
 rw[hacc0]at hres ⊢
 refine oO ?_
 refine A5 peers.length (λ j=>[(3,Aa dom),(6,.ref 8 (Aj n) 0),(10,.ref 7 (Bv q) 0),(12,.sl 3 A1 u),(13,.ptr 13 0),(23,.clo (.func 157) [] [.ptr 13 0]),(130,.sl 1 Aa peers),(131,Aa peers.length),(132,Aa j)])
  (λ j=>[(13,.box [.osl 1000]),(1000,.row 9 E5 (acc0++(peers.take j).map (T7 n dom q.frame)))]) [(13,13),(1000,1000)] ⟨⟨rfl,rfl,rfl,rfl,rfl,rfl,rfl,rfl,rfl,rfl,rfl,rfl,rfl,rfl,rfl,rfl,rfl,rfl,trivial⟩,⟨.inl rfl,rfl,.inl (zD (Ob.row 9 E5) y_),rfl,trivial⟩,rfl,rfl⟩ ?_
 intro j hj
 refine oO ?_
 constructor<;>intro h
 ·have hlt:j<peers.length:=qA h
  have hj0:((j:Nat):Int).toNat<peers.length:=by simpa using hlt
  obtain ⟨p,hp⟩:∃ p,peers[j]=p:=⟨_,rfl⟩
  have e1:peers[((j:Nat):Int).toNat]'hj0=p:=hp
  have hs:acc0++(peers.take (j+1)).map (T7 n dom q.frame)=(acc0++(peers.take j).map (T7 n dom q.frame))++[T7 n dom q.frame p]:=by
   rw[zY hlt,wK,hp,yU];rfl
  have hal:(acc0++(peers.take j).map (T7 n dom q.frame)).length≤ports.length+j:=by rw[zI,yP,zU];omega
  have ql:=Aou n hn hm0 dom p q.frame hq.frame
  have hop:T7 n dom q.frame p=Sl (Ath 3 0 p) ((meshT n dom p q.frame).1,(meshT n dom p q.frame).2):=rfl
  rw[hop]at hs
  clear hop
  obtain ⟨acc,hacc⟩:∃ acc,acc0++(peers.take j).map (T7 n dom q.frame)=acc:=⟨_,rfl⟩
  rw[hacc]at hs hal ⊢
  clear h
  refine oO ?_
  refine⟨E,by omega,hj0,?_⟩
  rw[e1]
  conv=>whnf
  refine c0 ql F160 ?_
  refine oO ?_
  refine Ag (I0 [(0,13),(1,1000),(2,1001)] [] (Cb E E F157) (Vv acc 3 0 p (meshT n dom p q.frame).1 (meshT n dom p q.frame).2 q_) (.cons (.agg vL) vL) ⟨E,E,Y⟩ E ⟨.inl E,.inl E,.inr E,Y⟩ E) E E ?_
  refine oO ?_
  refine iW ?_
  exact Ax [(13,13),(1000,1001)] hlt ⟨⟨E,E,E,E,E,E,E,E,E,E,E,E,E,E,E,E,E,E,Y⟩,⟨.inl E,E,.inl (zD (Ob.row 9 E5) hs),E,Y⟩,E,E⟩
 have hjj:j=peers.length:=qB h
 subst hjj
 clear h
 rw[yG]
 subst hres
 refine oO ?_
 refine kW ?_
 refine Ai 1000 E ?_
 exact dN
end Go.Sy.YtljngfegfclkpaaGreat
