/-
  K9 K10 K11 K15 K16 K17 K18 K19 K20 K21 K22 K23 K12 K13 K14 K24 K43 K44 Z5 Z6 Z7 Z8 Z9 Z10 Z11 Z12 Z13: parts of a proof, joined by program.
-/
import Derived.Test.YteinjapglfkamaaGreatXC8
import Derived.Test.YteinjapglfkamaaGreatXC6
import Derived.Test.YteinjapglfkamaaGreatXC3
import Derived.Tactics
import Derived.Tactics2
import Derived.Defers
import Derived.Laws.Pointers
import Derived.Laws.LoneSync
import Derived.RegionTactic
import Derived.RegionCalls
import Derived.ChangeAlike
import Derived.Laws.NewBlocks
namespace Go.Sy.YteinjapglfkamaaGreat
open Go.Proofs
attribute [local irreducible] Go.Sy.G Go.Sy.DR
set_option maxRecDepth 100000
set_option maxHeartbeats 4000000
theorem X6 (m:Nat) (h:m<18446744073709551616):Sy.Spec Tryz.prog 294 [Aw m] [] (Ab (Eu m)) []:=cT F294 Tryz.ntmps294 fun F hF=>by
 have q:=Mo m h
 conv=>whnf
 refine⟨fun h1=>?_,fun h1=>?_⟩
 ·have h2:m≤281474976710655:=by simp at h1;omega
  refine oO ?_
  refine c0 q F226 ?_
  refine oO ?_
  exact Ao E (.cons .tmp .nil) (congrArg Ab (by rw[Eu,decide_eq_true h2,Bool.true_and])) E
 ·have h2:¬ m≤281474976710655:=by simp at h1;omega
  refine oO ?_
  exact Ao E (.cons .tmp .nil) (congrArg Ab (by rw[Eu,decide_eq_false h2,Bool.false_and])) E
theorem Uf (i:Int):Sy.Spec Tryz.prog 244 [Aa i] [] (Ab (Cy i)) []:=cT F244 Tryz.ntmps244 fun F hF=>by
 conv=>whnf
 (repeat' (first | (refine⟨fun h=>?_,fun h=>?_⟩<;>(repeat (first | simp only[decide_eq_true_eq]at h | simp only[decide_eq_false_iff_not]at h))<;>((refine oO ?_))) | (refine Ao rfl (.cons .tmp .nil) ?_ rfl)))
 all_goals (refine congrArg Ab ?_)
 all_goals grind [Cy]
theorem Ant (m:Nat) (e:EntryM):Sy.Spec Tryz.prog 342 [Am e,.ref 1 (Aw m) 0] [] (Ab (decide (e.mac=m))) []:=cT F342 Tryz.ntmps342 fun F hF=>by
 conv=>whnf
 refine Ao E (.cons .tmp .nil) ?_ E
 refine congrArg Ab ?_
 rw[Bool.eq_iff_iff];simp;omega
theorem W7 (t:List EntryM) (m:Nat) (hl:Al t):Sy.Spec Tryz.prog 295 [.sl 3 Am t,Aw m] [] (Aa (C1 t m)) []:=cT F295 Tryz.ntmps295 fun F hF=>by
 have q:=Ms t (fun e=>decide (e.mac=m)) 342 [] [.ref 1 (Aw m) 0] rfl (fun x _=>⟨⟨_,_,F342⟩,Ant m x⟩) hl
 conv=>whnf
 refine A0 3 1 (Aw m) E E E ?_
 refine oO ?_
 refine c0 q F310 ?_
 refine oO ?_
 exact dN
theorem Aqp (t:List EntryM) (m:Nat) (hl:Al t):Sy.Spec Tryz.prog 349 [.sl 3 Am t,Aw m] [] (.tup [Aa (findE t m).1,Ab (findE t m).2]) []:=cT F349 Tryz.ntmps349 fun F hF=>by
 have q:=W7 t m hl
 have hlt:C1 t m<t.length:=Hd _ _
 have hres:=findE.eq_1 t m
 generalize findE t m=res at *
 generalize C1 t m=i at *
 conv=>whnf
 refine c0 q F295 ?_
 refine oO ?_
 refine⟨fun h=>?_,fun h=>?_⟩
 ·rw[if_pos (by simpa using h)]at hres
  subst hres
  refine oO ?_
  exact dN
 ·have h0:¬ i<0:=by simpa using h
  have hi:i.toNat<t.length:=by omega
  rw[if_neg h0,List.getElem?_eq_getElem hi]at hres
  subst hres
  refine oO ?_
  refine⟨E,by omega,by omega,?_⟩
  conv=>whnf
  exact dN
theorem W6 (t:List EntryM) (hl:Al t) (hmac:∀ e∈t,e.mac<18446744073709551616):Sy.Spec Tryz.prog 230 [.sl 3 Am t] [] (Ab (tableB t)) []:=cT F230 Tryz.ntmps230 fun F hF=>by
 unfold Al at hl
 have hres:=tableB.eq_1 t
 generalize tableB t=res at *
 conv=>whnf
 refine⟨fun h=>?_,fun h=>?_⟩
 ·have h8:¬ t.length≤8:=by simp at h;omega
  rw[decide_eq_false h8,Bool.false_and]at hres
  subst hres
  refine oO ?_
  exact dN
 have h8:t.length≤8:=by simp at h;omega
 rw[decide_eq_true h8,Bool.true_and]at hres
 refine oO ?_
 refine Av t.length (fun j=>Di (Jj t) t j) (fun j=>[(0,.sl 3 Am t),(8,.sl 3 Am t),(9,Aa t.length),(10,Aa j)]) (fun _=>[]) [] (A2 _ _) ⟨⟨E,E,E,E,E,E,E,E,Y⟩,Y,E,E⟩ ?_
 intro j hj hI
 refine oO ?_
 refine⟨fun h=>?_,fun h=>?_⟩
 ·have hlt:j<t.length:=qA h
  have q1:=X6 t[j].mac (hmac _ (List.getElem_mem hlt))
  have q2:=Uf t[j].seen
  have q3:=W7 t t[j].mac hl
  have hent:Jj t j t[j]=(Eu t[j].mac && Cy t[j].seen && decide (C1 t t[j].mac=j)):=rfl
  have hbad:Jj t j t[j]=false→res=false:=fun hf=>by rw[hres];exact Be hlt hf
  have hgood:Jj t j t[j]=true→Di (Jj t) t (j+1):=fun ht=>Ax hI hlt ht
  refine oO ?_
  refine⟨E,by omega,by omega,?_⟩
  rw[show t[((j:Nat):Int).toNat]'qn=t[j] from rfl]
  generalize t[j]=x at *
  conv=>whnf
  refine c0 q1 F294 ?_
  cases h1:Eu x.mac
  ·rw[hbad (by rw[hent,h1];rfl)]
   (refine oT ?_;refine bT ?_;refine bT ?_)
   exact dN
  refine oF ?_
  refine c0 q2 F244 ?_
  cases h2:Cy x.seen
  ·rw[hbad (by rw[hent,h1,h2];rfl)]
   (refine oT ?_;refine bT ?_)
   exact dN
  refine oF ?_
  refine c0 q3 F295 ?_
  refine oO ?_
  refine⟨fun h3=>?_,fun h3=>?_⟩
  ·rw[hbad (by rw[hent,h1,h2,decide_eq_false (by simpa using h3)];rfl)]
   refine oO ?_
   exact dN
  ·have h4:=hgood (by rw[hent,h1,h2,decide_eq_true (by simpa using h3)];rfl)
   refine oO ?_
   refine iW ?_
   exact As [] hI qn h4 ⟨⟨E,E,E,E,E,E,E,E,Y⟩,Y,E,E⟩
 ·have hend:j=t.length:=qB h
  subst hend
  rw[hres.trans (Cc hI (Nat.le_refl _))]
  refine oO ?_
  exact dN
theorem Atq (now:Int) (hn:Cy now=true) (e:EntryM):Sy.Spec Tryz.prog 246 [Am e,.ref 1 (Aa now) 0] [] (Ab (decide (e.seen<now-4))) []:=cT F246 Tryz.ntmps246 fun F hF=>by
 have hn2:0≤now∧now≤1099511627776:=by simpa [Cy] using hn
 conv=>whnf
 refine iW ?_
 exact dN
theorem Atp (t:List EntryM) (now:Int) (hl:Al t) (hmac:∀ e∈t,e.mac<18446744073709551616):Sy.Spec Tryz.prog 178 [.sl 3 Am t,Aa now] [] (.sl 3 Am (ageT t now)) []:=cT F178 Tryz.ntmps178 fun F hF=>by
 have hl2:=hl
 unfold Al at hl2
 have hres:=ageT.eq_1 t now
 generalize ageT t now=res at *
 have q1:=W6 t hl hmac
 have q2:=Uf now
 conv=>whnf
 refine Ae (Ah [(0,55)] E F243 (Se t hl2) E Y E ⟨.inr E,Y⟩) E E ?_
 refine oO ?_
 refine c0 q1 F230 ?_
 cases h1:tableB t
 ·rw[if_pos (.inl h1)]at hres
  subst hres
  (refine oT ?_;refine bT ?_)
  refine Ap 55 E ?_
  exact dN
 refine oF ?_
 refine c0 q2 F244 ?_
 cases h2:Cy now
 ·rw[if_pos (.inr h2)]at hres
  subst hres
  refine oT ?_
  refine Ap 55 E ?_
  exact dN
 rw[if_neg (by simp[h1,h2])]at hres
 refine oF ?_
 refine A0 3 1 (Aa now) E E E ?_
 refine oO ?_
 have q3:=Wl t (fun e=>decide (e.seen<now-4)) 246 [] [.ref 1 (Aa now) 0] rfl rfl (fun x _=>⟨⟨_,_,F246⟩,Atq now h2 x⟩) hl
 refine Ae (Ah [(0,55),(1,56)] E F245 q3 E ⟨E,Y⟩ E ⟨.inl E,.inr E,Y⟩) E E ?_
 refine oO ?_
 refine Ap 56 E ?_
 refine Ao E (.cons .tmp .nil) ?_ E
 subst hres
 refine congrArg (SV.sl 3 Am) (List.filter_congr fun e _=>?_)
 rw[Bool.eq_iff_iff];simp
theorem Un (t:List EntryM) (j:Nat) (h:0<t.length) (hj:j≤t.length):oldestU t j<t.length:=by
 induction j with
 | zero=>exact h
 | succ j ih =>
  rw[oldestU]
  split
  ·omega
  ·exact ih qn
theorem Ajn (t:List EntryM) (hl:Al t) (h0:0<t.length):Sy.Spec Tryz.prog 343 [.sl 3 Am t] [] (Aa (oldestU t t.length:Nat)) []:=cT F343 Tryz.ntmps343 fun F hF=>by
 unfold Al at hl
 conv=>whnf
 refine Aq t.length (fun j=>[(0,.sl 3 Am t),(3,Aa (oldestU t j:Nat)),(6,.sl 3 Am t),(7,Aa t.length),(8,Aa j)]) (fun _=>[]) [] ⟨⟨E,E,E,E,E,E,E,E,E,E,Y⟩,Y,E,E⟩ ?_
 intro j hj
 refine oO ?_
 refine⟨fun h=>?_,fun h=>?_⟩
 ·have hlt:j<t.length:=qA h
  have hol:=Un t j h0 qn
  have hs:=oldestU.eq_2 t j
  rw[List.getElem?_eq_getElem hlt,List.getElem?_eq_getElem hol]at hs
  obtain ⟨o,ho⟩:∃ o,oldestU t j=o:=⟨_,rfl⟩
  simp only[ho]at hs hol ⊢
  have hs2:oldestU t (j+1)=if t[j].seen<t[o].seen then j else o:=hs
  refine oO ?_
  refine⟨E,by omega,by omega,?_⟩
  rw[show t[((j:Nat):Int).toNat]'qn=t[j] from rfl]
  conv=>whnf
  refine⟨E,by omega,by omega,?_⟩
  rw[show t[((o:Nat):Int).toNat]'qn=t[o] from rfl]
  conv=>whnf
  refine kW ?_
  refine⟨fun h2=>?_,fun h2=>?_⟩
  ·rw[if_pos (of_decide_eq_true h2)]at hs2
   refine oO ?_
   refine iW ?_
   exact An [] qn ⟨⟨E,E,congrArg (fun z:Nat=>Aa z) hs2,E,E,E,E,E,E,E,Y⟩,Y,E,E⟩
  ·rw[if_neg (of_decide_eq_false h2)]at hs2
   refine oO ?_
   refine iW ?_
   exact An [] qn ⟨⟨E,E,congrArg (fun z:Nat=>Aa z) hs2,E,E,E,E,E,E,E,Y⟩,Y,E,E⟩
 ·have:j=t.length:=qB h
  subst this
  refine oO ?_
  exact dN
theorem Ac4 (t:List EntryM) (m:Nat) (wh now:Int) (hl:Al t) (hmac:∀ e∈t,e.mac<18446744073709551616) (hm64:m<18446744073709551616) :
  Sy.Spec Tryz.prog 296 [.sl 3 Am t,Aw m,Aa wh,Aa now] [] (.sl 3 Am (learnT t m wh now)) []:=cT F296 Tryz.ntmps296 fun F hF=>by
 have hl2:=hl
 unfold Al at hl2
 have hres:=learnT.eq_1 t m wh now
 generalize learnT t m wh now=res at *
 have q1:=W6 t hl hmac
 have q2:=X6 m hm64
 have q3:=Uf now
 have q4:=W7 t m hl
 conv=>whnf
 refine Ae (Ah [(0,55)] E F243 (Se t hl2) E Y E ⟨.inr E,Y⟩) E E ?_
 refine oO ?_
 refine c0 q1 F230 ?_
 cases h1:tableB t
 ·rw[if_pos (.inl h1)]at hres
  subst hres
  (refine oT ?_;refine bT ?_;refine bT ?_)
  refine Ap 55 E ?_
  exact dN
 refine oF ?_
 refine c0 q2 F294 ?_
 cases h2:Eu m
 ·rw[if_pos (.inr (.inl h2))]at hres
  subst hres
  (refine oT ?_;refine bT ?_)
  refine Ap 55 E ?_
  exact dN
 refine oF ?_
 refine c0 q3 F244 ?_
 cases h3:Cy now
 ·rw[if_pos (.inr (.inr h3))]at hres
  subst hres
  refine oT ?_
  refine Ap 55 E ?_
  exact dN
 rw[if_neg (by simp[h1,h2,h3])]at hres
 have ht8:t.length≤8:=by simp only[tableB,Bool.and_eq_true,decide_eq_true_eq]at h1;exact h1.1
 have hfound:∀ hi:0≤C1 t m,∃ h:(C1 t m).toNat<t.length,t[(C1 t m).toNat].mac=m:=fun hi=>by
  rcases Ia (fun e=>decide (EntryM.mac e=m)) t with ⟨h,_⟩ | ⟨k,hk,h,h2,_⟩
  ·rw[C1,h]at hi
   exact absurd hi qy
  ·have e1:C1 t m=k:=h
   simp only[e1,Int.toNat_natCast]
   exact⟨hk,of_decide_eq_true h2⟩
 generalize C1 t m=i at *
 refine oF ?_
 refine c0 q4 F295 ?_
 refine oO ?_
 refine⟨fun h4=>?_,fun h4=>?_⟩
 ·have h5:0≤i:=by simpa using h4
  obtain ⟨hi,hmm⟩:=hfound h5
  rw[if_pos h5]at hres
  refine oO ?_
  have hne:t≠[]:=fun h=>by rw[h]at hi;simp at hi
  refine⟨h5,by omega,?_⟩
  conv=>whnf
  refine⟨hne,?_⟩
  conv=>whnf
  refine⟨E,hi,⟨t[i.toNat].mac,wh,t[i.toNat].seen⟩,E,E,?_⟩
  conv=>whnf
  refine⟨h5,by simp;omega,?_⟩
  conv=>whnf
  refine⟨by simp;exact hne,?_⟩
  conv=>whnf
  refine⟨E,by simp;omega,⟨t[i.toNat].mac,wh,now⟩,by rw[List.getElem_set_self];rfl,by rw[List.getElem_set_self];rfl,?_⟩
  conv=>whnf
  refine Ap 55 E ?_
  refine oO ?_
  refine Ao E (.cons .tmp .nil) (congrArg (SV.sl 3 Am) ?_) E
  rw[hres,List.set_set,hmm]
 ·have h5:¬ 0≤i:=by simp at h4 ⊢;omega
  rw[if_neg h5]at hres
  refine oO ?_
  refine⟨fun h6=>?_,fun h6=>?_⟩
  ·have h7:t.length=8:=by simp at h6;omega
   rw[if_pos h7]at hres
   have q5:=Ajn t hl qn
   have hol:=Un t t.length qn (Nat.le_refl _)
   refine oO ?_
   refine Ad6 [55] q5 F343 E (.cons (.row E E) .nil) E E E ?_
   generalize oldestU t t.length=o at *
   have q6:=Acz t o hol hl
   refine oO ?_
   refine iW ?_
   refine Ae (Ah [(0,55),(1,56)] E F344 q6 E ⟨E,Y⟩ E ⟨.inl E,.inr E,Y⟩) E E ?_
   refine oO ?_
   refine Ae (Ad Γ.toTy 60 rfl rfl rfl rfl rfl (.row rfl) (.lit (e:=Am) (l:=[⟨m,wh,now⟩]) rfl rfl) (fun j hj=>by cases hj;decide) (by simp;omega) (by simp;omega)) rfl rfl ?_
   refine Ap 60 E ?_
   refine oO ?_
   refine Ao E (.cons .tmp .nil) (congrArg (SV.sl 3 Am) ?_) E
   rw[hres,List.eraseIdx_eq_take_drop_succ]
  ·have h7:¬ t.length=8:=by simp at h6;omega
   rw[if_neg h7]at hres
   refine oO ?_
   refine Ae (Ad Γ.toTy 60 rfl rfl rfl rfl rfl (.row rfl) (.lit (e:=Am) (l:=[⟨m,wh,now⟩]) rfl rfl) (fun j hj=>by cases hj;decide) (by simp;omega) (by simp;omega)) rfl rfl ?_
   refine Ap 60 E ?_
   refine oO ?_
   exact Ao E (.cons .tmp .nil) (congrArg (SV.sl 3 Am) hres) E
theorem Afy (l:List Int) (hl:l.length<2147483648):Sy.Spec Tryz.prog 170 [.sl 1 Aa l] [] (.osl 0) [(0,.row 1 Aa l)]:=cT F170 Tryz.ntmps170 fun F hF=>by
 conv=>whnf
 refine E3 E (.inl E) E E E .sl E E ?_
 intro b hb
 cases b
 ·refine oF ?_
  refine Ae (Ad Γ.toTy 7 E E E E E (.lit (e:=Aa) (l:=[]) E E) .sl qz (by simp;omega) (by simp;omega)) E E ?_
  refine oO ?_
  exact done E (.cons .tmp .nil) [(0,7)] [(0,.row 1 Aa l)] (fun _ h=>h) E E ⟨Y,⟨.inl E,E,Y⟩,E,E⟩
 ·have h0:l=[]:=List.eq_nil_of_length_eq_zero (hb rfl)
  subst h0
  refine oT ?_
  refine Bo 2 1000 1 Aa E E ?_
  exact done E (.cons .tmp .nil) [(0,1000)] [(0,.row 1 Aa [])] (fun _ h=>h) E E ⟨Y,⟨.inl E,E,Y⟩,E,E⟩
theorem Zf (l:List Int) (p:Int→Bool) (f:FuncId) (first cap:List SV) (hc:(SV.clo (.func f) first cap).inn []=true) (hc0:(SV.clo (.func f) first cap).inn [0]=true) (hf:∀ x∈l,I7 Tryz.prog f (first++[Aa x]++cap) (Ab (p x))) (hl:Al l) :
  Sy.Spec Tryz.prog 341 [.osl 0,.clo (.func f) first cap] [(0,.row 1 Aa l)] (.osl 1) [(0,.non),(1,.row 1 Aa (l.filter fun x=>!(p x)))]:=cT F341 Tryz.ntmps341 fun F hF=>by
 have qi:=Lb l p f first cap hc hf hl
 unfold Al at hl
 have hin:∀ x:Int,Cj [] (first++[Aa x]++cap)=true:=fun x=>Dd hc rfl
 conv=>whnf
 refine Ad6 [0] qi F362 E (.cons (.row E E) (.cons (.refl _) .nil)) (by simp only[Cj,hc,Bool.and_true];rfl) E E ?_
 rcases Ia p l with ⟨h1,h2⟩ | ⟨i,hi,h1,h2,h3⟩
 ·rw[h1]
  have e1:(l.filter fun x=>!(p x))=l:=List.filter_eq_self.2 (fun x hx=>by simp[h2 x hx])
  rw[e1]
  refine oT ?_
  refine Ami 0 1000 [0,4] E E qy (by simp;exact⟨E,E⟩) ?_
  exact done E (.cons .tmp .nil) [(0,0),(1,1000)] _ (fun _ h=>h) E E ⟨Y,⟨.inl E,E,.inl E,E,Y⟩,E,E⟩
 obtain ⟨f1,f2⟩:=Ad1 (fun x=>!(p x)) l i qn (fun k hk hki=>by simp[h3 k hk hki])
 have g1:dfC (fun x=>!(p x)) l (i+1+0)=l:=by
  show dfC (fun x=>!(p x)) l (i+1)=l
  simp only[dfC,List.getElem?_eq_getElem hi]
  rw[if_neg (by simp[h2]),f1]
 have g2:He (fun x=>!(p x)) l (i+1+0)=i:=by
  show He (fun x=>!(p x)) l (i+1)=i
  simp only[He,List.getElem?_eq_getElem hi]
  rw[if_neg (by simp[h2]),f2]
 rw[h1]
 refine oF ?_
 refine iW ?_
 refine Aq (l.length-(i+1)) (fun j=>[(0,.osl 0),(1,.clo (.func f) first cap),(5,Aa (He (fun x=>!(p x)) l (i+1+j))),(6,Aa ((i+1+j:Nat)))]) (fun j=>[(0,.row 1 Aa (dfC (fun x=>!(p x)) l (i+1+j)))]) []
  ⟨⟨rfl,rfl,Bj _,hc0,congrArg Aa (congrArg Int.ofNat g2),rfl,congrArg (fun z=>SV.val (.int .i64 z)) qn,rfl,trivial⟩,⟨.inl (congrArg (Ob.row 1 Aa) g1),rfl,trivial⟩,rfl,rfl⟩ ?_
 intro j hj
 have hcl:=Zp (fun x=>!(p x)) l (i+1+j)
 have hdl:=U2 (fun x=>!(p x)) l (i+1+j)
 have hget:=Anh (fun x=>!(p x)) l (i+1+j) (i+1+j) (Nat.le_refl _)
 have s1:∀ h:i+1+j<l.length,He (fun x=>!(p x)) l (i+1+(j+1))=if (!(p l[i+1+j]))=true then He (fun x=>!(p x)) l (i+1+j)+1 else He (fun x=>!(p x)) l (i+1+j):=fun hlt=>by
  show He (fun x=>!(p x)) l (i+1+j+1)=_
  simp only[He,List.getElem?_eq_getElem hlt]
 have s2:∀ h:i+1+j<l.length,dfC (fun x=>!(p x)) l (i+1+(j+1))=if (!(p l[i+1+j]))=true then (dfC (fun x=>!(p x)) l (i+1+j)).set (He (fun x=>!(p x)) l (i+1+j)) l[i+1+j] else dfC (fun x=>!(p x)) l (i+1+j):=fun hlt=>by
  show dfC (fun x=>!(p x)) l (i+1+j+1)=_
  simp only[dfC,List.getElem?_eq_getElem hlt]
 have htk:=fun h=>Aiy (fun x=>!(p x)) l (i+1+j) h
 obtain ⟨D,hD⟩:∃ D,dfC (fun x=>!(p x)) l (i+1+j)=D:=⟨_,rfl⟩
 obtain ⟨K,hK⟩:∃ K,He (fun x=>!(p x)) l (i+1+j)=K:=⟨_,rfl⟩
 rw[hD]at hdl hget s2 htk ⊢
 rw[hK]at hcl s1 s2 htk ⊢
 refine oO ?_
 refine⟨fun h=>?_,fun h=>?_⟩
 ·have hlt:i+1+j<l.length:=qA h
  have hfx:=hf l[i+1+j] (List.getElem_mem hlt)
  have s1:=s1 hlt
  have s2:=s2 hlt
  rw[List.getElem?_eq_getElem hlt,List.getElem?_eq_getElem qn]at hget
  have hget:=Option.some.inj hget
  obtain ⟨x,hx⟩:∃ x,l[i+1+j]=x:=⟨_,rfl⟩
  rw[hx]at hfx s1 s2 hget
  refine oO ?_
  refine⟨by omega,by simp;omega,?_⟩
  conv=>whnf
  refine⟨E,by omega,?_⟩
  rw[show D[((i+1+j:Nat):Int).toNat]'qn=x from hget]
  conv=>whnf
  refine Ex hfx E E E (by simp only[hin];rfl) E E ?_
  cases hpx:p x
  ·rw[hpx]at s1 s2
   refine oT ?_
   refine⟨by omega,by simp;omega,?_⟩
   conv=>whnf
   refine⟨E,by omega,x,E,E,?_⟩
   conv=>whnf
   refine iW ?_
   refine iW ?_
   exact An [] qn ⟨⟨E,E,Bj _,hc0,congrArg Aa (congrArg Int.ofNat s1),E,congrArg (fun z=>SV.val (.int .i64 z)) qn,E,Y⟩,⟨.inl (congrArg (Ob.row 1 Aa) s2),E,Y⟩,E,E⟩
  ·rw[hpx]at s1 s2
   refine oF ?_
   refine iW ?_
   exact An [] qn ⟨⟨E,E,Bj _,hc0,congrArg Aa (congrArg Int.ofNat s1),E,congrArg (fun z=>SV.val (.int .i64 z)) qn,E,Y⟩,⟨.inl (congrArg (Ob.row 1 Aa) s2),E,Y⟩,E,E⟩
 ·have hend:i+1+j=l.length:=qB h
  have hne:D≠[]:=fun h=>by rw[h]at hdl;simp at hdl;omega
  have htk:=htk qn
  rw[show l.take (i+1+j)=l from List.take_of_length_le qn]at htk
  refine Ano 0 [0] E hne (by simp;rfl) ?_
  intro b cap' hcap
  refine oO ?_
  refine Ae (Dh Γ.toTy E E E E (.inr ⟨_,_,E,E⟩) (.inl ⟨E,E⟩) qn qn) E E ?_
  refine oO ?_
  refine Ae (Lc Γ.toTy 0 (k:=K) E E E E qy E E E qn qn) E E ?_
  refine oO ?_
  refine Ae (Dh Γ.toTy E E E E (.inl ⟨E,E⟩) (.inr ⟨_,_,E,E⟩) qn qn) E E ?_
  refine oO ?_
  refine Zs 0 1000 [4] K E E (by rw[List.length_take];omega) (fun i hi=>?_) ?_
  ·rw[List.mem_singleton]at hi
   subst hi
   show SV.val (.slice (some (if cap'=0 then ⟨b,0,none⟩ else ⟨b,0 * 1,none⟩)) (K-0) (cap'-0))=_
   split<;>simp
  refine done E (.cons .tmp .nil) [(0,0),(1,1000)] _ (fun _ h=>h) E E ⟨Y,⟨.inl E,E,.inl ?_,E,Y⟩,E,E⟩
  rw[← htk]
  exact congrArg (Ob.row 1 Aa) (by rw[List.take_take,Nat.min_self])
def Oe (n:Net) (fw:List Bool) (at_ from_:Int) (ml:List Int):SV :=
 .agg [.sl 5 Bn n.devices,.sl 7 A7 n.ports,.sl 3 Cp n.links,.sl 6 Au n.domains,.sl 4 Bk n.statics,.sl 4 B1 n.floods,.sl 5 C3 n.vrfs,.sl 5 Cr n.irbs,.sl 1 Ab fw,Aa at_,Aa from_,.sl 1 Aa ml]
theorem Atj (n:Net) (fw:List Bool) (p:Int) (h0:0≤p) (hp:p<n.ports.length) (hl:(nth n.ports p).link<fw.length):Sy.Spec Tryz.prog 340 [Aj n,.sl 1 Ab fw,Aa p] [] (Ab (usableB n fw p)) []:=cT F340 Tryz.ntmps340 fun F hF=>by
 have hk:p.toNat<n.ports.length:=by omega
 have e1:nth n.ports p=n.ports[p.toNat]:=Ag hk
 have hu:=usableB.eq_1 n fw p
 generalize usableB n fw p=res at *
 rw[e1]at hu hl
 obtain ⟨q,hq⟩:∃ q,n.ports[p.toNat]'hk=q:=⟨_,rfl⟩
 rw[hq]at hu hl
 conv=>whnf
 refine⟨E,h0,hk,?_⟩
 rw[hq]
 conv=>whnf
 refine⟨fun h=>?_,fun h=>?_⟩
 ·rw[h,Bool.true_or]at hu
  subst hu
  refine oO ?_
  exact dN
 ·rw[h,Bool.false_or]at hu
  have h1:¬ q.link<0:=of_decide_eq_false h
  have h2:q.link.toNat<fw.length:=by omega
  rw[List.getElem?_eq_getElem h2]at hu
  refine oO ?_
  refine⟨E,by omega,h2,?_⟩
  conv=>whnf
  exact Ao E (.cons .tmp .nil) (congrArg Ab hu) E
theorem portsC (n:Net) (fw:List Bool) (at_ from_:Int) (ml:List Int) (p:Int) (h0:0≤p) (hp:p<n.ports.length) (hl:(nth n.ports p).link<fw.length) :
  Sy.Spec Tryz.prog 339 [Aa p,.ref 1 (.ref 12 (Oe n fw at_ from_ ml) 0) 0] [] (Ab (decide (p=from_) || !(usableB n fw p))) []:=cT F339 Tryz.ntmps339 fun F hF=>by
 have q:=Atj n fw p h0 hp hl
 conv=>whnf
 refine⟨fun h=>?_,fun h=>?_⟩
 ·have h1:p=from_:=by simpa using h
  refine oD ?_
  refine kW ?_
  exact Ao E (.cons .tmp .nil) (congrArg Ab (by rw[decide_eq_true h1,Bool.true_or])) E
 ·have h1:¬ p=from_:=by simpa using h
  refine oD ?_
  refine cD q F340 ?_
  refine oD ?_
  refine kW ?_
  exact Ao E (.cons .tmp .nil) (congrArg Ab (by rw[decide_eq_false h1,Bool.false_or])) E
def Anm (n:Net) (fw:List Bool) (l:List Int):Prop:=∀ p∈l,0≤p∧p<n.ports.length∧(nth n.ports p).link<fw.length
theorem Akn (n:Net) (fw:List Bool) (at_ from_:Int) (ml l:List Int) (hl:Al l) (hp:Anm n fw l) :
  Sy.Spec Tryz.prog 292 [.ref 12 (Oe n fw at_ from_ ml) 0,.sl 1 Aa l] [] (.sl 1 Aa (Cf n fw from_ l)) []:=cT F292 Tryz.ntmps292 fun F hF=>by
 have q:=Zf l (fun p=>decide (p=from_) || !(usableB n fw p)) 339 [] [.ref 1 (.ref 12 (Oe n fw at_ from_ ml) 0) 0] rfl rfl (fun p h=>⟨⟨_,_,F339⟩,portsC n fw at_ from_ ml p (hp p h).1 (hp p h).2.1 (hp p h).2.2⟩) hl
 unfold Al at hl
 conv=>whnf
 refine A0 2 1 (.ref 12 (Oe n fw at_ from_ ml) 0) E E E ?_
 refine oO ?_
 refine Ae (Ah [(0,55)] E F170 (Afy l hl) E Y E ⟨.inr E,Y⟩) E E ?_
 refine oO ?_
 refine Ae (Ah [(0,55),(1,56)] E F341 q E ⟨E,Y⟩ E ⟨.inl E,.inr E,Y⟩) E E ?_
 refine oO ?_
 refine Ap 56 E ?_
 exact dN
theorem Amu (n:Net) (hn:n.Fin) (fw:List Bool) (dom from_:Int) (ml:List Int) (hd:Ak dom n.domains.length=true) :
  Sy.Spec Tryz.prog 293 [.ref 12 (Oe n fw dom from_ ml) 0] [] (.sl 1 Aa (peersOut n dom from_)) []:=cT F293 Tryz.ntmps293 fun F hF=>by
 have hdi:=Bs hd
 have hd0:0≤dom:=hdi.1
 have hkd:dom.toNat<n.domains.length:=by omega
 have e2:nth n.domains dom=n.domains[dom.toNat]:=Ag hkd
 have hpe:=hn.peers _ (List.getElem_mem hkd)
 have hres:=peersOut.eq_1 n dom from_
 generalize peersOut n dom from_=res at *
 rw[e2]at hres
 obtain ⟨d,hdd⟩:∃ d,n.domains[dom.toNat]'hkd=d:=⟨_,rfl⟩
 rw[hdd]at hres hpe
 have qc:=M0 d.peers hpe
 conv=>whnf
 refine⟨fun h=>?_,fun h=>?_⟩
 ·rw[if_pos (by simpa using h)]at hres
  subst hres
  refine oO ?_
  refine Ai 2 1 Aa E ?_
  exact dN
 ·rw[if_neg (by simpa using h)]at hres
  subst hres
  refine oO ?_
  refine⟨E,hd0,hkd,?_⟩
  rw[hdd]
  conv=>whnf
  refine cD qc F170 ?_
  refine oD ?_
  refine kW ?_
  exact dN
def Lg (n:Net) (fw:List Bool) (dom:Int):Bool:=Ak dom n.domains.length && decide (fw.length=n.links.length) && Ac n
theorem Amp (n:Net) (hn:n.Fin) (fw:List Bool) (dom from_:Int) (h:Lg n fw dom=false) :
  Sy.Spec Tryz.prog 291 [Aj n,.sl 1 Ab fw,Aa dom,Aa from_] [] (.tup [.val (.pointer none),Ab false]) []:=cT F291 Tryz.ntmps291 fun F hF=>by
 have qr:=Br n hn
 conv=>whnf
 refine⟨fun h1=>?_,fun h1=>?_⟩
 ·(refine oT ?_;refine bT ?_;refine bT ?_)
  exact dN
 refine oO ?_
 refine⟨fun h2=>?_,fun h2=>?_⟩
 ·(refine oT ?_;refine bT ?_)
  exact dN
 refine oO ?_
 refine⟨fun h3=>?_,fun h3=>?_⟩
 ·refine oT ?_
  exact dN
 refine oO ?_
 refine c0 qr F23 ?_
 cases hbn:Ac n
 ·refine oT ?_
  exact dN
 ·exfalso
  have h4:Ak dom n.domains.length=true:=Ck ⟨by simp at h1;omega,by simp at h2;omega⟩
  have h5:fw.length=n.links.length:=by simp at h3;omega
  simp[Lg,h4,h5,hbn]at h
theorem Aq6 (n:Net) (hn:n.Fin) (fw:List Bool) (dom from_:Int) (h:Lg n fw dom=true) :
  Sy.Spec Tryz.prog 291 [Aj n,.sl 1 Ab fw,Aa dom,Aa from_] [] (.tup [.ref 12 (Oe n fw dom from_ (Az n dom)) 0,Ab (decide (from_=-1) || decide (from_=-2) || inB (Az n dom) from_)]) []:=cT F291 Tryz.ntmps291 fun F hF=>by
 have qr:=Br n hn
 simp only[Lg,Bool.and_eq_true,decide_eq_true_eq]at h
 obtain ⟨⟨hd,hfw⟩,hbn⟩:=h
 rw[hbn]at qr
 have hdi:=Bs hd
 have qm:=L3 n hn dom
 have qc:=Dm (A4 n dom) from_ (Co n hn dom)
 have hmt:A4 n dom=Az n dom:=by rw[A4,if_pos ⟨⟨hdi.1,hdi.2⟩,hbn⟩]
 rw[hmt]at qm qc
 generalize Az n dom=ml at *
 conv=>whnf
 refine⟨fun h1=>absurd h1 (by simp;omega),fun _=>?_⟩
 refine oO ?_
 refine⟨fun h1=>absurd h1 (by simp;omega),fun _=>?_⟩
 refine oO ?_
 refine⟨fun h1=>absurd h1 (by simp;omega),fun _=>?_⟩
 refine oO ?_
 refine c0 qr F23 ?_
 refine oF ?_
 refine cD qm F26 ?_
 refine oD ?_
 refine kW ?_
 refine⟨fun h1=>?_,fun h1=>?_⟩
 ·have h2:from_=-1:=by simpa using h1
  refine A0 41 12 (Oe n fw dom from_ ml) E E E ?_
  refine oT ?_
  exact Ao E (.cons .tmp (.cons .tmp .nil)) (congrArg (fun z=>SV.tup [_,Ab z]) (by simp[h2])) E
 have h2:¬ from_=-1:=by simpa using h1
 refine A0 41 12 (Oe n fw dom from_ ml) E E E ?_
 refine oO ?_
 refine⟨fun h3=>?_,fun h3=>?_⟩
 ·have h4:from_=-2:=by simpa using h3
  refine oO ?_
  exact Ao E (.cons .tmp (.cons .tmp .nil)) (congrArg (fun z=>SV.tup [_,Ab z]) (by simp[h4])) E
 have h4:¬ from_=-2:=by simpa using h3
 refine oO ?_
 refine c0 qc F25 ?_
 refine oO ?_
 exact Ao E (.cons .tmp (.cons .tmp .nil)) (congrArg (fun z=>SV.tup [_,Ab z]) (by simp[h2,h4])) E
theorem Ol {n:Net} (hb:Ac n=true) {p:Int} (h0:0≤p) (hp:p<n.ports.length):(nth n.ports p).link<n.links.length:=by
 have hk:p.toNat<n.ports.length:=by omega
 have e1:nth n.ports p=n.ports[p.toNat]:=Ag hk
 rw[e1]
 by_cases hl:0≤n.ports[p.toNat].link
 ·have:=Ij hb hk hl
  omega
 ·omega
theorem Aax {n:Net} {fw:List Bool} (hb:Ac n=true) (hf:fw.length=n.links.length) {l:List Int} (h:∀ p∈l,0≤p∧p<n.ports.length):Anm n fw l:=fun p hp =>
 ⟨(h p hp).1,(h p hp).2,by rw[hf];exact Ol hb (h p hp).1 (h p hp).2⟩
theorem B4 {n:Net} {dom:Int}:∀ p∈Az n dom,0≤p∧p<n.ports.length:=fun p hp=>by
 rw[Az,filtI_mem]at hp
 exact⟨hp.1,hp.2.1⟩
theorem Jo {n:Net} (hn:n.Fin) (dom:Int):Al (Az n dom):=by
 have h1:=Ep (Jw n (nth n.domains dom)) n.ports.length
 have h2:=hn.ports
 unfold Al at *
 rw[Az]
 omega
theorem Jr (n:Net) (fw:List Bool) (dom from_:Int):roomB n fw dom from_=(Lg n fw dom && (decide (from_=-1) || decide (from_=-2) || inB (Az n dom) from_)):=rfl
theorem floodS (n:Net) (hn:n.Fin) (fw:List Bool) (dom from_:Int) :
  Sy.Spec Tryz.prog 229 [Aj n,.sl 1 Ab fw,Aa dom,Aa from_] [] (.tup [.sl 1 Aa (floodT n fw dom from_).1,.sl 1 Aa (floodT n fw dom from_).2.1,Aa (floodT n fw dom from_).2.2]) []:=cT F229 Tryz.ntmps229 fun F hF=>by
 have hres:=floodT.eq_1 n fw dom from_
 generalize floodT n fw dom from_=res at *
 rw[Jr]at hres
 cases hbase:Lg n fw dom
 ·rw[hbase,Bool.false_and,if_pos rfl]at hres
  subst hres
  have q:=Amp n hn fw dom from_ hbase
  conv=>whnf
  refine c0 q F291 ?_
  refine oT ?_
  refine Ai 8 1 Aa E ?_
  refine Ai 9 1 Aa E ?_
  exact dN
 rw[hbase,Bool.true_and]at hres
 have q:=Aq6 n hn fw dom from_ hbase
 have hb2:=hbase
 simp only[Lg,Bool.and_eq_true,decide_eq_true_eq]at hb2
 obtain ⟨⟨hd,hfw⟩,hbn⟩:=hb2
 have qp:=Akn n fw dom from_ (Az n dom) (Az n dom) (Jo hn dom) (Aax hbn hfw B4)
 have qe:=Amu n hn fw dom from_ (Az n dom) hd
 generalize (decide (from_=-1) || decide (from_=-2) || inB (Az n dom) from_)=ok at *
 generalize Az n dom=ml at *
 conv=>whnf
 refine c0 q F291 ?_
 cases ok
 ·rw[if_pos rfl]at hres
  subst hres
  refine oT ?_
  refine Ai 8 1 Aa E ?_
  refine Ai 9 1 Aa E ?_
  exact dN
 rw[if_neg qy]at hres
 subst hres
 refine oF ?_
 refine c0 qp F292 ?_
 refine oO ?_
 refine c0 qe F293 ?_
 refine oO ?_
 exact dN
theorem V5 (l:List Static) (p:Static→Bool) (f:FuncId) (first cap:List SV) (hc:(SV.clo (.func f) first cap).inn []=true) (hf:∀ x∈l,I7 Tryz.prog f (first++[Bk x]++cap) (Ab (p x))) (hl:Al l) :
  Sy.Spec Tryz.prog 386 [.sl 4 Bk l,.clo (.func f) first cap] [] (Aa (Cm p l)) []:=cT F386 Tryz.ntmps386 fun F hF=>by
 unfold Al at hl
 have hin:∀ x:Static,Cj [] (first++[Bk x]++cap)=true:=fun x=>Dd hc rfl
 conv=>whnf
 refine Av l.length (fun j=>Di (fun _ x=>!(p x)) l j) (fun j=>[(0,.sl 4 Bk l),(1,.clo (.func f) first cap),(7,Aa l.length),(8,Aa j)]) (fun _=>[]) [] (A2 _ _) ⟨⟨E,E,Bj _,hc,E,E,E,E,Y⟩,Y,E,E⟩ ?_
 intro j hj hI
 refine oO ?_
 refine⟨fun h=>?_,fun h=>?_⟩
 ·have h:=of_decide_eq_true h
  have hj2:j<l.length:=by omega
  refine oO ?_
  refine⟨E,by omega,by omega,?_⟩
  conv=>whnf
  refine Ex (hf l[j] (List.getElem_mem hj2)) E E E (by simp only[hin];rfl) E E ?_
  refine oO ?_
  refine⟨fun h2=>?_,fun h2=>?_⟩
  ·refine oO ?_
   refine Ao E (.cons .tmp .nil) (congrArg Aa ?_) E
   exact Ct hj2 (fun i hi hij=>by simpa using hI i hi hij) h2
  ·refine oO ?_
   refine iW ?_
   exact As [] hI hj2 (Ax hI hj2 (by simp[h2])) ⟨⟨E,E,Bj _,hc,E,E,E,E,Y⟩,Y,E,E⟩
 ·have h:=of_decide_eq_false h
  refine oO ?_
  refine Ao E (.cons .tmp .nil) (congrArg Aa ?_) E
  exact C6 (fun i hi=>by simpa using hI i hi qn)
theorem entryC (dom:Int) (m:Nat) (s:Static):Sy.Spec Tryz.prog 387 [Bk s,.ref 1 (Aa dom) 0,.ref 1 (Aw m) 0] [] (Ab (decide (s.domain=dom) && decide (s.mac=(m:Int)))) []:=cT F387 Tryz.ntmps387 fun F hF=>by
 conv=>whnf
 refine⟨fun h=>?_,fun h=>?_⟩
 ·refine oO ?_
  refine Ao E (.cons .tmp .nil) (congrArg Ab ?_) E
  have h1:s.domain=dom:=by simpa using h
  rw[decide_eq_true h1,Bool.true_and,Bool.eq_iff_iff]
  simp
 ·refine oO ?_
  refine Ao E (.cons .tmp .nil) (congrArg Ab ?_) E
  have h1:¬ s.domain=dom:=by simpa using h
  rw[decide_eq_false h1,Bool.false_and]
theorem entryI (n:Net) (hn:n.Fin) (dom:Int) (m:Nat):Sy.Spec Tryz.prog 375 [Aj n,Aa dom,Aw m] [] (Aa (Dr n dom m)) []:=cT F375 Tryz.ntmps375 fun F hF=>by
 have q:=V5 n.statics (fun s:Static=>decide (s.domain=dom) && decide (s.mac=(m:Int))) 387 [] [.ref 1 (Aa dom) 0,.ref 1 (Aw m) 0] rfl (fun x _=>⟨⟨_,_,F387⟩,entryC dom m x⟩) hn.statics
 conv=>whnf
 refine A0 4 1 (Aa dom) E E E ?_
 refine A0 5 1 (Aw m) E E E ?_
 refine oO ?_
 refine c0 q F386 ?_
 refine oO ?_
 exact dN
def staticP (n:Net) (dom:Int) (m:Nat):Int:=if 0≤Dr n dom m then (nth n.statics (Dr n dom m)).port else -1
theorem Aly (n:Net) (hn:n.Fin) (hb:Ac n=true) (dom:Int) (m:Nat):Sy.Spec Tryz.prog 348 [Aj n,Aa dom,Aw m] [] (Aa (staticP n dom m)) []:=cT F348 Tryz.ntmps348 fun F hF=>by
 have q:=entryI n hn dom m
 have qr:=Br n hn
 rw[hb]at qr
 have hlt:Dr n dom m<n.statics.length:=Hd _ _
 have hres:=staticP.eq_1 n dom m
 generalize staticP n dom m=res at *
 generalize Dr n dom m=i at *
 conv=>whnf
 refine c0 q F375 ?_
 refine oO ?_
 refine⟨fun h=>?_,fun h=>?_⟩
 ·rw[if_neg (by simp at h;omega)]at hres
  subst hres
  refine oT ?_
  exact dN
 ·have h0:0≤i:=by simp at h;omega
  have hk:i.toNat<n.statics.length:=by omega
  have e1:nth n.statics i=n.statics[i.toNat]:=Ag hk
  rw[if_pos h0,e1]at hres
  refine oO ?_
  refine c0 qr F23 ?_
  refine oF ?_
  refine⟨E,h0,hk,?_⟩
  conv=>whnf
  exact Ao E (.cons .tmp .nil) (congrArg Aa hres) E
def knownT (n:Net) (fw:List Bool) (t:List EntryM) (dom from_:Int) (m:Nat):List Int × List Int × Bool :=
 if 0≤staticP n dom m then (Cf n fw from_ [staticP n dom m],[],true)
 else if (findE t m).2=false then ([],[],false)
 else if 0≤(findE t m).1∧inB (Az n dom) (findE t m).1=true then (Cf n fw from_ [(findE t m).1],[],true)
 else if (findE t m).1<0∧inB (nth n.domains dom).peers (-1-(findE t m).1)=true then (if from_=-1 then ([],[],true) else ([],[-1-(findE t m).1],true))
 else ([],[],false)
theorem Qk {n:Net} (hb:Ac n=true) (dom:Int) (m:Nat) (h:0≤staticP n dom m):staticP n dom m<n.ports.length:=by
 unfold staticP at h ⊢
 split at h
 ·rename_i h0
  rw[if_pos h0]
  have hlt:Dr n dom m<n.statics.length:=Hd _ _
  have hk:(Dr n dom m).toNat<n.statics.length:=by omega
  simp only[Ac,Bool.and_eq_true]at hb
  have:=allB_iff.1 hb.1.1.1.2 _ hk
  simp only[Hx,Bool.and_eq_true,Ak,decide_eq_true_eq]at this
  rw[Ag hk]
  exact this.1.1.2.2
 ·omega
theorem knownS (n:Net) (hn:n.Fin) (fw:List Bool) (t:List EntryM) (dom from_:Int) (m:Nat) (hl:Al t) (hw:I64 (-1-(findE t m).1)) (hbase:Lg n fw dom=true) :
  Sy.Spec Tryz.prog 299 [.ref 12 (Oe n fw dom from_ (Az n dom)) 0,.sl 3 Am t,Aw m] [] (.tup [.sl 1 Aa (knownT n fw t dom from_ m).1,.sl 1 Aa (knownT n fw t dom from_ m).2.1,Ab (knownT n fw t dom from_ m).2.2]) []:=cT F299 Tryz.ntmps299 fun F hF=>by
 simp only[Lg,Bool.and_eq_true,decide_eq_true_eq]at hbase
 obtain ⟨⟨hd,hfw⟩,hbn⟩:=hbase
 have hdi:=Bs hd
 have hd0:0≤dom:=hdi.1
 have hkd:dom.toNat<n.domains.length:=by omega
 have e2:nth n.domains dom=n.domains[dom.toNat]:=Ag hkd
 have hpe:=hn.peers _ (List.getElem_mem hkd)
 have hres:=knownT.eq_1 n fw t dom from_ m
 have qs:=Aly n hn hbn dom m
 have hsp:=Qk hbn dom m
 have qf:=Aqp t m hl
 have qp:∀ p:Int,0≤p→p<n.ports.length→_:=fun p h0 h1=>Akn n fw dom from_ (Az n dom) [p] (by unfold Al;simp) (Aax hbn hfw (l:=[p]) (fun x hx=>by rw[List.mem_singleton]at hx;subst hx;exact⟨h0,h1⟩))
 have hmem:∀ p,inB (Az n dom) p=true→0≤p∧p<n.ports.length:=fun p hp=>B4 p (inB_mem.1 hp)
 have qc:=fun x=>Dm (Az n dom) x (Jo hn dom)
 rw[e2]at hres
 obtain ⟨d,hdd⟩:∃ d,n.domains[dom.toNat]'hkd=d:=⟨_,rfl⟩
 rw[hdd]at hres hpe
 have qc2:=fun x=>Dm d.peers x hpe
 generalize knownT n fw t dom from_ m=res at *
 generalize staticP n dom m=sp at *
 generalize findE t m=fe at *
 obtain ⟨w,ok⟩:=fe
 dsimp only at hres hw qf
 generalize Az n dom=ml at *
 conv=>whnf
 refine cD qs F348 ?_
 refine oD ?_
 refine kW ?_
 refine⟨fun h1=>?_,fun h1=>?_⟩
 ·have h2:0≤sp:=by simpa using h1
  rw[if_pos h2]at hres
  subst hres
  refine oO ?_
  refine Ec 25 Aa [sp] E E ?_
  refine Ap 25 E ?_
  refine c0 (qp sp h2 (hsp h2)) F292 ?_
  refine oO ?_
  refine Ai 7 1 Aa E ?_
  exact dN
 have h2:¬ 0≤sp:=by simp at h1;omega
 rw[if_neg h2]at hres
 refine oO ?_
 refine c0 qf F349 ?_
 cases ok
 ·rw[if_pos rfl]at hres
  subst hres
  refine oT ?_
  refine Ai 6 1 Aa E ?_
  refine Ai 7 1 Aa E ?_
  exact dN
 rw[if_neg qy]at hres
 refine oF ?_
 refine⟨fun h3=>?_,fun h3=>?_⟩
 ·have h4:0≤w:=by simpa using h3
  refine oO ?_
  refine c0 (qc w) F25 ?_
  cases hin:inB ml w
  ·rw[if_neg (by simp[hin]),if_neg qn]at hres
   subst hres
   refine oF ?_
   refine⟨fun h5=>absurd h5 (by simp;omega),fun _=>?_⟩
   refine oD ?_
   refine⟨qq,?_⟩
   ((conv=>whnf);refine aF ?_;refine rg ?_;conv=>whnf)
   refine Ai 6 1 Aa E ?_
   refine Ai 7 1 Aa E ?_
   exact dN
  ·rw[if_pos ⟨h4,hin⟩]at hres
   subst hres
   refine oT ?_
   refine Ec 49 Aa [w] E E ?_
   refine Ap 49 E ?_
   refine c0 (qp w h4 (hmem w hin).2) F292 ?_
   refine oO ?_
   refine Ai 7 1 Aa E ?_
   exact dN
 have h4:¬ 0≤w:=by simp at h3;omega
 rw[if_neg qn]at hres
 refine oF ?_
 refine⟨fun h5=>?_,fun h5=>absurd h5 (by simp;omega)⟩
 refine oD ?_
 refine⟨E,hd0,hkd,?_⟩
 rw[hdd]
 conv=>whnf
 refine⟨hw,?_⟩
 conv=>whnf
 refine cD (qc2 (-1-w)) F25 ?_
 cases hin:inB d.peers (-1-w)
 ·rw[if_neg (by simp[hin])]at hres
  subst hres
  refine oD ?_
  refine⟨qq,?_⟩
  ((conv=>whnf);refine aF ?_;refine rg ?_;conv=>whnf)
  refine Ai 6 1 Aa E ?_
  refine Ai 7 1 Aa E ?_
  exact dN
 rw[if_pos ⟨by omega,hin⟩]at hres
 refine oD ?_
 refine⟨qq,?_⟩
 ((conv=>whnf);refine aT ?_;refine rg ?_;conv=>whnf)
 refine⟨fun h6=>?_,fun h6=>?_⟩
 ·rw[if_pos (by simpa using h6)]at hres
  subst hres
  refine oO ?_
  refine Ai 6 1 Aa E ?_
  refine Ai 7 1 Aa E ?_
  exact dN
 ·rw[if_neg (by simpa using h6)]at hres
  subst hres
  refine oO ?_
  refine⟨hw,?_⟩
  conv=>whnf
  refine Ai 6 1 Aa E ?_
  refine Ec 78 Aa [-1-w] E E ?_
  refine Ap 78 E ?_
  exact dN
theorem Oc {n:Net} (hb:Ac n=true) (dom:Int) (m:Nat):(0≤staticP n dom m↔0≤Dr n dom m)∧(0≤Dr n dom m→staticP n dom m=(nth n.statics (Dr n dom m)).port):=by
 refine⟨⟨fun h=>?_,fun h=>?_⟩,fun h=>by rw[staticP,if_pos h]⟩
 ·unfold staticP at h
  split at h
  ·assumption
  ·omega
 ·rw[staticP,if_pos h]
  have hlt:Dr n dom m<n.statics.length:=Hd _ _
  have hk:(Dr n dom m).toNat<n.statics.length:=by omega
  simp only[Ac,Bool.and_eq_true]at hb
  have:=allB_iff.1 hb.1.1.1.2 _ hk
  simp only[Hx,Bool.and_eq_true,Ak,decide_eq_true_eq]at this
  rw[Ag hk]
  exact this.1.1.2.1
theorem Aup {n:Net} {fw:List Bool} {t:List EntryM} {dom from_:Int} {m:Nat} (hb:Ac n=true) (hr:roomB n fw dom from_=true) (hg:Ea m=false) :
  decideT n fw t dom from_ m=if (knownT n fw t dom from_ m).2.2=true then ((knownT n fw t dom from_ m).1,(knownT n fw t dom from_ m).2.1,0) else (Cf n fw from_ (Az n dom),peersOut n dom from_,0):=by
 obtain ⟨h1,h2⟩:=Oc hb dom m
 rw[decideT,if_neg (by rw[hr];decide),if_neg (by rw[hg];decide)]
 unfold knownT
 by_cases hs:0≤Dr n dom m
 ·rw[if_pos hs,if_pos (h1.2 hs),h2 hs];rfl
 rw[if_neg hs,if_neg (fun h=>hs (h1.1 h))]
 generalize findE t m=fe
 obtain ⟨w,ok⟩:=fe
 cases ok
 ·simp
 simp only[Bool.true_eq_false,if_false,true_and]
 by_cases ha:0≤w∧inB (Az n dom) w=true
 ·rw[if_pos ha,if_pos ha];rfl
 rw[if_neg ha,if_neg ha]
 by_cases hc:w<0∧inB (nth n.domains dom).peers (-1-w)=true
 ·rw[if_pos hc,if_pos hc]
  split<;>rfl
 ·rw[if_neg hc,if_neg hc];rfl
theorem Auq (n:Net) (hn:n.Fin) (fw:List Bool) (t:List EntryM) (dom from_:Int) (m:Nat) (hl:Al t) (hw:I64 (-1-(findE t m).1)) (hm64:m<18446744073709551616) :
  Sy.Spec Tryz.prog 235 [Aj n,.sl 1 Ab fw,.sl 3 Am t,Aa dom,Aa from_,Aw m] [] (.tup [.sl 1 Aa (decideT n fw t dom from_ m).1,.sl 1 Aa (decideT n fw t dom from_ m).2.1,Aa (decideT n fw t dom from_ m).2.2]) []:=cT F235 Tryz.ntmps235 fun F hF=>by
 cases hbase:Lg n fw dom
 ·have hres:decideT n fw t dom from_ m=([],[],2):=by
   rw[decideT,if_pos (by rw[Jr,hbase];rfl)]
  rw[hres]
  have q:=Amp n hn fw dom from_ hbase
  conv=>whnf
  refine c0 q F291 ?_
  refine oT ?_
  refine Ai 12 1 Aa E ?_
  refine Ai 13 1 Aa E ?_
  exact dN
 have q:=Aq6 n hn fw dom from_ hbase
 have qk:=knownS n hn fw t dom from_ m hl hw hbase
 have qg:=Mo m hm64
 have hb2:=hbase
 simp only[Lg,Bool.and_eq_true,decide_eq_true_eq]at hb2
 obtain ⟨⟨hd,hfw⟩,hbn⟩:=hb2
 have qp:=Akn n fw dom from_ (Az n dom) (Az n dom) (Jo hn dom) (Aax hbn hfw B4)
 have qe:=Amu n hn fw dom from_ (Az n dom) hd
 have hroom:=Jr n fw dom from_
 rw[hbase,Bool.true_and]at hroom
 have hbad:roomB n fw dom from_=false→decideT n fw t dom from_ m=([],[],2):=fun h=>by rw[decideT,if_pos h]
 have hgrp:roomB n fw dom from_=true→Ea m=true→decideT n fw t dom from_ m=(Cf n fw from_ (Az n dom),peersOut n dom from_,0):=fun h h2=>by
  rw[decideT,if_neg (by rw[h];decide),if_pos h2]
 have hkn:=fun h h2=>@Aup n fw t dom from_ m hbn h h2
 generalize decideT n fw t dom from_ m=res at *
 generalize knownT n fw t dom from_ m=kn at *
 obtain ⟨kp,ke,ko⟩:=kn
 generalize roomB n fw dom from_=rm at *
 generalize (decide (from_=-1) || decide (from_=-2) || inB (Az n dom) from_)=ok at *
 subst hroom
 generalize Az n dom=ml at *
 dsimp only at hkn qk
 conv=>whnf
 refine c0 q F291 ?_
 cases rm
 ·rw[hbad rfl]
  refine oT ?_
  refine Ai 12 1 Aa E ?_
  refine Ai 13 1 Aa E ?_
  exact dN
 refine oF ?_
 refine c0 qg F226 ?_
 cases hg:Ea m
 ·have hkn:=hkn rfl hg
  refine oT ?_
  refine c0 qk F299 ?_
  cases ko
  ·rw[if_neg qy]at hkn
   subst hkn
   refine oF ?_
   refine c0 qp F292 ?_
   refine oO ?_
   refine c0 qe F293 ?_
   refine oO ?_
   exact dN
  ·rw[if_pos rfl]at hkn
   subst hkn
   refine oT ?_
   exact dN
 ·rw[hgrp rfl hg]
  refine oF ?_
  refine c0 qp F292 ?_
  refine oO ?_
  refine c0 qe F293 ?_
  refine oO ?_
  exact dN
theorem Vp (n:Net) (fw:List Bool) (p:Int) (h0:0≤p) (hp:p<n.ports.length) (hl:(nth n.ports p).link<fw.length) (hneg:(nth n.ports p).link=-1∨0≤(nth n.ports p).link):Sy.Spec Tryz.prog 315 [Aj n,.sl 1 Ab fw,Aa p] [] (Ab (usableB n fw p)) []:=cT F315 Tryz.ntmps315 fun F hF=>by
 have q:=A1 p n.ports.length
 rw[Ck ⟨h0,hp⟩]at q
 have hk:p.toNat<n.ports.length:=by omega
 have e1:nth n.ports p=n.ports[p.toNat]:=Ag hk
 have hu:=usableB.eq_1 n fw p
 generalize usableB n fw p=res at *
 rw[e1]at hu hl hneg
 obtain ⟨x,hx⟩:∃ x,n.ports[p.toNat]'hk=x:=⟨_,rfl⟩
 rw[hx]at hu hl hneg
 conv=>whnf
 refine c0 q F46 ?_
 refine oT ?_
 refine⟨E,h0,hk,?_⟩
 rw[hx]
 conv=>whnf
 refine⟨fun h=>?_,fun h=>?_⟩
 ·have h1:x.link=-1:=by simpa using h
  rw[decide_eq_true qn,Bool.true_or]at hu
  subst hu
  refine oO ?_
  exact dN
 ·have h1:¬ x.link=-1:=by simpa using h
  have h2:x.link.toNat<fw.length:=by omega
  rw[decide_eq_false qn,Bool.false_or,List.getElem?_eq_getElem h2]at hu
  refine oO ?_
  refine⟨E,h0,hk,?_⟩
  rw[hx]
  conv=>whnf
  refine⟨E,by omega,h2,?_⟩
  conv=>whnf
  exact Ao E (.cons .tmp .nil) (congrArg Ab hu) E
theorem Aka (n:Net) (hn:n.Fin) (fw:List Bool) (dom from_:Int):Sy.Spec Tryz.prog 314 [Aj n,.sl 1 Ab fw,Aa dom,Aa from_] [] (Ab (roomB n fw dom from_)) []:=cT F314 Tryz.ntmps314 fun F hF=>by
 have hr:=Dy n hn
 have hpl:=A1 dom n.domains.length
 have hres:=roomB.eq_1 n fw dom from_
 generalize roomB n fw dom from_=res at *
 conv=>whnf
 refine c0 hr F10 ?_
 cases hbn:Ac n
 ·rw[hbn,Bool.and_false,Bool.false_and]at hres
  subst hres
  (refine oT ?_;refine bT ?_;refine bT ?_)
  exact dN
 refine oF ?_
 refine⟨fun h=>?_,fun h=>?_⟩
 ·have h1:¬ fw.length=n.links.length:=by simp at h;omega
  rw[decide_eq_false h1,Bool.and_false,Bool.false_and,Bool.false_and]at hres
  subst hres
  refine oT ?_
  exact dN
 have h1:fw.length=n.links.length:=by simp at h;omega
 refine oO ?_
 refine c0 hpl F46 ?_
 cases hd:Ak dom n.domains.length
 ·rw[hd,Bool.false_and,Bool.false_and,Bool.false_and]at hres
  subst hres
  refine oT ?_
  exact dN
 have hdi:=Bs hd
 have qm:=E5 n hn hbn dom
 have qi:=Dn (A4 n dom) from_ (Co n hn dom)
 have hmt:A4 n dom=Az n dom:=by rw[A4,if_pos ⟨⟨hdi.1,hdi.2⟩,hbn⟩]
 rw[hmt]at qm qi
 rw[hd,hbn,decide_eq_true h1,Bool.true_and,Bool.true_and,Bool.true_and]at hres
 generalize Az n dom=ml at *
 refine oF ?_
 refine⟨fun h2=>?_,fun h2=>?_⟩
 ·have h3:from_=-1:=by simpa using h2
  rw[decide_eq_true h3,Bool.true_or,Bool.true_or]at hres
  subst hres
  refine oT ?_
  exact dN
 have h3:¬ from_=-1:=by simpa using h2
 refine oO ?_
 refine⟨fun h4=>?_,fun h4=>?_⟩
 ·have h5:from_=-2:=by simpa using h4
  rw[decide_eq_true h5,Bool.or_true,Bool.true_or]at hres
  subst hres
  refine oO ?_
  exact dN
 have h5:¬ from_=-2:=by simpa using h4
 rw[decide_eq_false h3,decide_eq_false h5,Bool.false_or,Bool.false_or]at hres
 subst hres
 refine oO ?_
 refine c0 qm F37 ?_
 refine oO ?_
 refine c0 qi F36 ?_
 refine oO ?_
 exact dN
theorem Tv {n:Net} (hb:Ac n=true) {p:Int} (h0:0≤p) (hp:p<n.ports.length):(nth n.ports p).link=-1∨0≤(nth n.ports p).link:=by
 have hk:p.toNat<n.ports.length:=by omega
 rw[Ag hk]
 simp only[Ac,Bool.and_eq_true]at hb
 have:=allB_iff.1 hb.1.1.1.1.1.2 _ hk
 simp only[D8,Bool.and_eq_true,Bool.or_eq_true,Ak,decide_eq_true_eq,beq_iff_eq]at this
 rcases this.2 with h | h
 ·exact .inl h
 ·exact .inr h.1.1
theorem Ack (n:Net) (fw:List Bool) (from_:Int) (l:List Int) {j:Nat} (h:j<l.length):Cf n fw from_ (l.take (j+1))=if (!(decide (l[j]=from_) || !(usableB n fw l[j])))=true then Cf n fw from_ (l.take j)++[l[j]] else Cf n fw from_ (l.take j):=by
 simp only[Cf]
 rw[List.take_add_one,List.getElem?_eq_getElem h,List.filter_append,Option.toList_some]
 by_cases hc:(!(decide (l[j]=from_) || !(usableB n fw l[j])))=true
 ·rw[if_pos hc,List.filter_cons,if_pos hc];rfl
 ·rw[if_neg hc,List.filter_cons,if_neg hc];simp
theorem Y7 (n:Net) (fw:List Bool) (from_:Int) (l:List Int):(Cf n fw from_ l).length≤l.length:=List.length_filter_le _ _
theorem Yc (n:Net) (hn:n.Fin) (fw:List Bool) (dom from_:Int) :
  Sy.Spec Tryz.prog 252 [Aj n,.sl 1 Ab fw,Aa dom,Aa from_] [] (.tup [.sl 1 Aa (floodT n fw dom from_).1,.sl 1 Aa (floodT n fw dom from_).2.1,Aa (floodT n fw dom from_).2.2]) []:=cT F252 Tryz.ntmps252 fun F hF=>by
 have hres:=floodT.eq_1 n fw dom from_
 generalize floodT n fw dom from_=res at *
 have qf:=Aka n hn fw dom from_
 cases hroom:roomB n fw dom from_
 ·rw[hroom]at qf
  rw[if_pos hroom]at hres
  subst hres
  conv=>whnf
  refine c0 qf F314 ?_
  refine oT ?_
  refine Ai 8 1 Aa E ?_
  refine Ai 9 1 Aa E ?_
  exact dN
 rw[hroom]at qf
 rw[if_neg (by rw[hroom];decide)]at hres
 have hb2:Lg n fw dom=true:=by rw[Jr,Bool.and_eq_true]at hroom;exact hroom.1
 simp only[Lg,Bool.and_eq_true,decide_eq_true_eq]at hb2
 obtain ⟨⟨hd,hfw⟩,hbn⟩:=hb2
 have hdi:=Bs hd
 have hd0:0≤dom:=hdi.1
 have hkd:dom.toNat<n.domains.length:=by omega
 have e2:nth n.domains dom=n.domains[dom.toNat]:=Ag hkd
 have qm:=E5 n hn hbn dom
 have hmt:A4 n dom=Az n dom:=by rw[A4,if_pos ⟨⟨hdi.1,hdi.2⟩,hbn⟩]
 rw[hmt]at qm
 have hml:=Jo hn dom
 have qu:∀ p∈Az n dom,_:=fun p hp=>Vp n fw p (B4 p hp).1 (B4 p hp).2 (by rw[hfw];exact Ol hbn (B4 p hp).1 (B4 p hp).2) (Tv hbn (B4 p hp).1 (B4 p hp).2)
 have hpo:=peersOut.eq_1 n dom from_
 rw[e2]at hpo
 obtain ⟨d,hdd⟩:∃ d,n.domains[dom.toNat]'hkd=d:=⟨_,rfl⟩
 rw[hdd]at hpo
 generalize Az n dom=ml at *
 generalize peersOut n dom from_=po at *
 unfold Al at hml
 conv=>whnf
 refine c0 qf F314 ?_
 refine oF ?_
 refine c0 qm F37 ?_
 refine oO ?_
 refine Bo 11 1000 1 Aa E E ?_
 refine A0 4 8 (Aj n) E E E ?_
 refine Aq ml.length (fun j=>[(1,.sl 1 Ab fw),(2,Aa dom),(3,Aa from_),(4,.ref 8 (Aj n) 0),(11,.osl 1000),(12,.sl 1 Aa ml),(13,Aa j)]) (fun j=>[(1000,.row 1 Aa (Cf n fw from_ (ml.take j)))]) [] ⟨⟨E,E,E,E,E,E,E,E,E,E,E,E,E,E,Y⟩,⟨.inl E,E,Y⟩,E,E⟩ ?_
 intro j hj
 have hsucc:=fun h:j<ml.length=>Ack n fw from_ ml h
 have hlen:=Y7 n fw from_ (ml.take j)
 rw[List.length_take]at hlen
 obtain ⟨u,hu⟩:∃ u,Cf n fw from_ (ml.take j)=u:=⟨_,rfl⟩
 rw[hu]at hsucc hlen ⊢
 refine oO ?_
 refine⟨fun h=>?_,fun h=>?_⟩
 ·have hlt:j<ml.length:=qA h
  have hs:=hsucc hlt
  have qx:=qu ml[j] (List.getElem_mem hlt)
  have hej:ml[((j:Nat):Int).toNat]'qn=ml[j]:=rfl
  obtain ⟨x,hx⟩:∃ x,ml[j]=x:=⟨_,rfl⟩
  rw[hx]at hs qx hej
  refine oO ?_
  refine⟨E,by omega,by omega,?_⟩
  rw[hej]
  conv=>whnf
  refine⟨fun h2=>?_,fun h2=>?_⟩
  ·have h3:¬ x=from_:=by simpa using h2
   refine oD ?_
   refine⟨E,by omega,by omega,?_⟩
   rw[hej]
   conv=>whnf
   refine cD qx F315 ?_
   cases hub:usableB n fw x
   ·rw[if_neg (by simp[hub])]at hs
    refine oD ?_
    refine⟨qq,?_⟩
    ((conv=>whnf);refine aF ?_;refine rg ?_;conv=>whnf)
    refine iW ?_
    exact An [] hlt ⟨⟨E,E,E,E,E,E,E,E,E,E,E,E,E,E,Y⟩,⟨.inl (congrArg (Ob.row 1 Aa) hs),E,Y⟩,E,E⟩
   ·rw[if_pos (by simp[hub,h3])]at hs
    refine oD ?_
    refine⟨qq,?_⟩
    ((conv=>whnf);refine aT ?_;refine rg ?_;conv=>whnf)
    refine⟨E,by omega,by omega,?_⟩
    rw[hej]
    conv=>whnf
    refine Ae (Ad Γ.toTy 60 rfl rfl rfl rfl rfl (.row rfl) (.lit (e:=Aa) (l:=[x]) rfl rfl) (fun j hj=>by cases hj;decide) (by simp;omega) (by simp;omega)) rfl rfl ?_
    refine oO ?_
    refine iW ?_
    exact An [(1000,60)] hlt ⟨⟨E,E,E,E,E,E,E,E,E,E,E,E,E,E,Y⟩,⟨.inl (congrArg (Ob.row 1 Aa) hs),E,Y⟩,E,E⟩
  ·have h3:x=from_:=by simpa using h2
   rw[if_neg (by simp[h3])]at hs
   refine oD ?_
   refine⟨qq,?_⟩
   ((conv=>whnf);refine aF ?_;refine rg ?_;conv=>whnf)
   refine iW ?_
   exact An [] hlt ⟨⟨E,E,E,E,E,E,E,E,E,E,E,E,E,E,Y⟩,⟨.inl (congrArg (Ob.row 1 Aa) hs),E,Y⟩,E,E⟩
 ·have:j=ml.length:=qB h
  subst this
  rw[List.take_length]at hu
  rw[hu]at hres
  refine Ap 1000 E ?_
  refine oO ?_
  refine⟨fun h2=>?_,fun h2=>?_⟩
  ·rw[if_pos (by simpa using h2)]at hpo
   rw[hpo]at hres
   subst hres
   refine oO ?_
   refine Ai 9 1 Aa E ?_
   exact dN
  ·rw[if_neg (by simpa using h2)]at hpo
   rw[hpo]at hres
   subst hres
   refine oO ?_
   refine⟨E,hd0,hkd,?_⟩
   rw[hdd]
   conv=>whnf
   refine kW ?_
   exact dN
theorem Ahu {b:Bool} (h:(!b)=true):b=false:=by simpa using h
theorem Aet (n:Net) (hn:n.Fin) (dom:Int) (m:Nat):Sy.Spec Tryz.prog 319 [Aj n,Aa dom,Aw m] [] (Aa (staticP n dom m)) []:=cT F319 Tryz.ntmps319 fun F hF=>by
 have hst:=hn.statics
 unfold Al at hst
 conv=>whnf
 refine A0 3 8 (Aj n) E E E ?_
 refine Av n.statics.length (fun j=>Di (fun _ s=>!(decide (Static.domain s=dom) && decide (Static.mac s=(m:Int)))) n.statics j) (fun j=>[(1,Aa dom),(2,Aw m),(3,.ref 8 (Aj n) 0),(7,Aa j)]) (fun _=>[]) [] (A2 _ _) ⟨⟨E,E,E,E,E,E,E,E,Y⟩,Y,E,E⟩ ?_
 intro j hj hI
 refine oO ?_
 refine⟨fun h=>?_,fun h=>?_⟩
 ·have hlt:j<n.statics.length:=qA h
  have hej:n.statics[((j:Nat):Int).toNat]'qn=n.statics[j]:=rfl
  have hfound:(decide (n.statics[j].domain=dom) && decide (n.statics[j].mac=(m:Int)))=true→staticP n dom m=n.statics[j].port:=fun h=>by
   have:Dr n dom m=j:=Ct hlt (fun i hi hij=>Ahu (hI i hi hij)) h
   rw[staticP,this,if_pos qn,Ag (by simpa using hlt)];rfl
  have hnext:(decide (n.statics[j].domain=dom) && decide (n.statics[j].mac=(m:Int)))=false→Di (fun _ s=>!(decide (Static.domain s=dom) && decide (Static.mac s=(m:Int)))) n.statics (j+1):=fun h=>Ax hI hlt (by simp only[h];rfl)
  obtain ⟨x,hx⟩:∃ x,n.statics[j]=x:=⟨_,rfl⟩
  rw[hx]at hej hfound hnext
  refine oO ?_
  refine⟨E,by omega,by omega,?_⟩
  rw[hej]
  conv=>whnf
  refine⟨fun h2=>?_,fun h2=>?_⟩
  ·have h3:x.domain=dom:=by simpa using h2
   refine oO ?_
   refine⟨E,by omega,by omega,?_⟩
   rw[hej]
   conv=>whnf
   refine⟨fun h4=>?_,fun h4=>?_⟩
   ·rw[hfound (by rw[decide_eq_true h3,decide_eq_true (by simpa using h4)];rfl)]
    refine oO ?_
    refine⟨E,by omega,by omega,?_⟩
    rw[hej]
    conv=>whnf
    exact dN
   ·have hI2:=hnext (by rw[decide_eq_false (p:=x.mac=(m:Int)) (by simpa using h4),Bool.and_false])
    refine oO ?_
    refine iW ?_
    exact As [] hI qn hI2 ⟨⟨E,E,E,E,E,E,E,E,Y⟩,Y,E,E⟩
  ·have hI2:=hnext (by rw[decide_eq_false (p:=x.domain=dom) (by simpa using h2),Bool.false_and])
   refine oF ?_
   refine iW ?_
   exact As [] hI qn hI2 ⟨⟨E,E,E,E,E,E,E,E,Y⟩,Y,E,E⟩
 ·have hend:j=n.statics.length:=qB h
  subst hend
  have hno:Dr n dom m=-1:=C6 fun i hi=>Ahu (hI i hi hi)
  have hp:staticP n dom m=-1:=by rw[staticP,hno,if_neg qy]
  rw[hp]
  refine oO ?_
  exact dN
theorem Aos (n:Net) (fw:List Bool) (p from_:Int) (hb:Ac n=true) (hfw:fw.length=n.links.length) (h0:0≤p) (hp:p<n.ports.length) :
  Sy.Spec Tryz.prog 320 [Aj n,.sl 1 Ab fw,Aa p,Aa from_] [] (.sl 1 Aa (Cf n fw from_ [p])) []:=cT F320 Tryz.ntmps320 fun F hF=>by
 have q:=Vp n fw p h0 hp (by rw[hfw];exact Ol hb h0 hp) (Tv hb h0 hp)
 have hres:Cf n fw from_ [p]=if (!(decide (p=from_) || !(usableB n fw p)))=true then [p] else []:=by
  simp only[Cf,List.filter_cons,List.filter_nil]
 rw[hres]
 conv=>whnf
 refine⟨fun h=>?_,fun h=>?_⟩
 ·have h1:p=from_:=by simpa using h
  rw[if_neg (by simp[h1])]
  refine oT ?_
  refine Ai 8 1 Aa E ?_
  exact dN
 have h1:¬ p=from_:=by simpa using h
 refine oO ?_
 refine c0 q F315 ?_
 cases hub:usableB n fw p
 ·rw[if_neg qz]
  refine oT ?_
  refine Ai 8 1 Aa E ?_
  exact dN
 ·rw[if_pos (by simp[h1])]
  refine oF ?_
  refine Ec 20 Aa [p] E E ?_
  refine Ap 20 E ?_
  exact dN
theorem Ach (x:Int) (g:Bool) (q:Sy.Spec Tryz.prog 186 [Aw x] [] (Ab g) []):Sy.Spec Tryz.prog 262 [Aw x] [] (Ab (decide (x<281474976710656) && !g)) []:=cT F262 Tryz.ntmps262 fun F hF=>by
 conv=>whnf
 refine⟨fun h1=>?_,fun h1=>?_⟩
 ·refine oO ?_
  refine c0 q F186 ?_
  refine oO ?_
  exact Ao E (.cons .tmp .nil) (congrArg Ab (by rw[h1,Bool.true_and])) E
 ·refine oO ?_
  exact Ao E (.cons .tmp .nil) (congrArg Ab (by rw[h1,Bool.false_and])) E
theorem Tt (m:Nat) (h:m<18446744073709551616):Sy.Spec Tryz.prog 262 [Aw m] [] (Ab (Eu m)) []:=by
 have q:=Ach m _ (Js m h)
 have e:decide ((m:Int)<281474976710656)=decide (m≤281474976710655):=by
  by_cases h:m≤281474976710655
  ·rw[decide_eq_true h,decide_eq_true qn]
  ·rw[decide_eq_false h,decide_eq_false qn]
 rw[e]at q
 exact q
theorem Og (i:Int):Sy.Spec Tryz.prog 193 [Aa i] [] (Ab (Cy i)) []:=cT F193 Tryz.ntmps193 fun F hF=>by
 conv=>whnf
 (repeat' (first | (refine⟨fun h=>?_,fun h=>?_⟩<;>(repeat (first | simp only[decide_eq_true_eq]at h | simp only[decide_eq_false_iff_not]at h))<;>((refine oO ?_))) | (refine Ao rfl (.cons .tmp .nil) ?_ rfl)))
 all_goals (refine congrArg Ab ?_)
 all_goals grind [Cy]
theorem Q6 {t:List EntryM} {m:Nat} {j:Nat} (hj:j<t.length) (h1:∀ k (hk:k<t.length),k<j→t[k].mac≠m) (h2:t[j].mac=m):C1 t m=j :=
 Ct hj (fun k hk hkj=>decide_eq_false (h1 k hk hkj)) (decide_eq_true h2)
theorem Aam (t:List EntryM) (m:Nat) (hl:Al t):Sy.Spec Tryz.prog 316 [.sl 3 Am t,Aw m] [] (.tup [Aa (findE t m).1,Ab (findE t m).2]) []:=cT F316 Tryz.ntmps316 fun F hF=>by
 unfold Al at hl
 conv=>whnf
 refine Av t.length (fun j=>∀ k (hk:k<t.length),k<j→t[k].mac≠m) (fun j=>[(0,.sl 3 Am t),(1,Aw m),(6,Aa j)]) (fun _=>[]) [] (fun k _ h=>absurd h qn) ⟨⟨E,E,E,E,E,E,Y⟩,Y,E,E⟩ ?_
 intro j hj hI
 refine oO ?_
 refine⟨fun h=>?_,fun h=>?_⟩
 ·have hlt:j<t.length:=qA h
  refine oO ?_
  refine⟨E,by omega,by omega,?_⟩
  rw[show t[((j:Nat):Int).toNat]'qn=t[j] from rfl]
  conv=>whnf
  refine⟨fun h2=>?_,fun h2=>?_⟩
  ·have h3:t[j].mac=m:=by simp at h2;omega
   have hix:=Q6 hlt hI h3
   have hfe:findE t m=(t[j].where_,true):=by
    rw[findE,hix,if_neg qn,Int.toNat_natCast,List.getElem?_eq_getElem hlt];rfl
   rw[hfe]
   refine oO ?_
   refine⟨E,by omega,by omega,?_⟩
   rw[show t[((j:Nat):Int).toNat]'qn=t[j] from rfl]
   conv=>whnf
   exact dN
  ·have h3:t[j].mac≠m:=by simp at h2;omega
   refine oO ?_
   refine iW ?_
   exact As [] hI qn (fun k hk hkj=>by
    by_cases hkj2:k<j
    ·exact hI k hk hkj2
    ·have:k=j:=by omega
     subst this
     exact h3) ⟨⟨E,E,E,E,E,E,Y⟩,Y,E,E⟩
 ·have hend:j=t.length:=qB h
  subst hend
  have hix:C1 t m=-1:=C6 fun i hi=>decide_eq_false (hI i hi hi)
  have hfe:findE t m=(0,false):=by rw[findE,hix,if_pos qy]
  rw[hfe]
  refine oO ?_
  exact dN
theorem Aip {t:List EntryM} {j:Nat} (hj:j<t.length):C1 t t[j].mac=j↔∀ k (hk:k<t.length),k<j→t[k].mac≠t[j].mac:=by
 refine⟨fun h k hk hkj he=>?_,fun h=>Q6 hj h E⟩
 rcases Ia (fun e=>decide (EntryM.mac e=t[j].mac)) t with ⟨h1,_⟩ | ⟨i,hi,h1,h2,h3⟩
 ·rw[C1,h1]at h;omega
 ·have:i=j:=by rw[C1,h1]at h;omega
  subst this
  have:=h3 k hk hkj
  rw[decide_eq_false_iff_not]at this
  exact this he
theorem Qs (t:List EntryM) (hl:Al t) (hmac:∀ e∈t,e.mac<18446744073709551616):Sy.Spec Tryz.prog 192 [.sl 3 Am t] [] (Ab (tableB t)) []:=cT F192 Tryz.ntmps192 fun F hF=>by
 unfold Al at hl
 have hres:=tableB.eq_1 t
 generalize tableB t=res at *
 conv=>whnf
 refine⟨fun h=>?_,fun h=>?_⟩
 ·have h8:¬ t.length≤8:=by simp at h;omega
  rw[decide_eq_false h8,Bool.false_and]at hres
  subst hres
  refine oO ?_
  exact dN
 have h8:t.length≤8:=by simp at h;omega
 rw[decide_eq_true h8,Bool.true_and]at hres
 refine oO ?_
 refine Av t.length (fun j=>Di (Jj t) t j) (fun j=>[(0,.sl 3 Am t),(3,Aa j)]) (fun _=>[]) [] (A2 _ _) ⟨⟨E,E,E,E,Y⟩,Y,E,E⟩ ?_
 intro j hj hI
 refine oO ?_
 refine⟨fun h=>?_,fun h=>?_⟩
 ·have hlt:j<t.length:=qA h
  have q1:=Tt t[j].mac (hmac _ (List.getElem_mem hlt))
  have q2:=Og t[j].seen
  have hfirst:=Aip hlt
  have hent:Jj t j t[j]=(Eu t[j].mac && Cy t[j].seen && decide (C1 t t[j].mac=j)):=rfl
  have hbad:Jj t j t[j]=false→res=false:=fun hf=>by rw[hres];exact Be hlt hf
  have hgood:Jj t j t[j]=true→Di (Jj t) t (j+1):=fun ht=>Ax hI hlt ht
  have hej:t[((j:Nat):Int).toNat]'qn=t[j]:=rfl
  obtain ⟨x,hx⟩:∃ x,t[j]=x:=⟨_,rfl⟩
  rw[hx]at q1 q2 hfirst hent hbad hgood hej
  refine oO ?_
  refine⟨E,by omega,by omega,?_⟩
  rw[hej]
  conv=>whnf
  refine c0 q1 F262 ?_
  cases h1:Eu x.mac
  ·rw[hbad (by rw[hent,h1];rfl)]
   (refine oT ?_;refine bT ?_)
   exact dN
  refine oF ?_
  refine⟨E,by omega,by omega,?_⟩
  rw[hej]
  conv=>whnf
  refine c0 q2 F193 ?_
  cases h2:Cy x.seen
  ·rw[hbad (by rw[hent,h1,h2];rfl)]
   refine oT ?_
   exact dN
  refine oF ?_
  refine Av j (fun i=>∀ k (hk:k<t.length),k<i→t[k].mac≠x.mac) (fun i=>[(0,.sl 3 Am t),(3,Aa j),(4,Aa i)]) (fun _=>[]) [] (fun k _ h=>absurd h qn) ⟨⟨E,E,E,E,E,E,Y⟩,Y,E,E⟩ ?_
  intro i hi hJ
  refine oO ?_
  refine⟨fun h=>?_,fun h=>?_⟩
  ·have hlt2:i<j:=qA h
   refine oO ?_
   refine⟨E,by omega,by omega,?_⟩
   rw[show t[((i:Nat):Int).toNat]'qn=t[i] from rfl]
   conv=>whnf
   refine⟨E,by omega,by omega,?_⟩
   rw[hej]
   conv=>whnf
   refine kW ?_
   refine⟨fun h3=>?_,fun h3=>?_⟩
   ·have h4:t[i].mac=x.mac:=by simp at h3;omega
    have h5:¬ C1 t x.mac=j:=fun h=>hfirst.1 h i qn hlt2 h4
    rw[hbad (by rw[hent,h1,h2,decide_eq_false h5];rfl)]
    refine oO ?_
    exact dN
   ·have h4:t[i].mac≠x.mac:=by simp at h3;omega
    refine oO ?_
    refine iW ?_
    exact As [] hJ qn (fun k hk hki=>by
     by_cases hki2:k<i
     ·exact hJ k hk hki2
     ·have:k=i:=by omega
      subst this
      exact h4) ⟨⟨E,E,E,E,E,E,Y⟩,Y,E,E⟩
  ·have:i=j:=qB h
   subst this
   have h4:=hgood (by rw[hent,h1,h2,decide_eq_true (hfirst.2 hJ)];rfl)
   refine oO ?_
   refine iW ?_
   exact As [] hI qn h4 ⟨⟨E,E,E,E,Y⟩,Y,E,E⟩
 ·have hend:j=t.length:=qB h
  subst hend
  rw[hres.trans (Cc hI (Nat.le_refl _))]
  refine oO ?_
  exact dN
theorem Auy (t:List EntryM) (now:Int):ageT t now=t.filter fun e=>!(tableB t) || !(Cy now) || decide (now-e.seen≤4):=by
 unfold ageT
 split
 ·rename_i h
  refine(List.filter_eq_self.2 fun e _=>?_).symm
  rcases h with h | h<;>simp[h]
 ·rename_i h
  rw[not_or]at h
  refine List.filter_congr fun e _=>?_
  have h1:tableB t=true:=by simpa using h.1
  have h2:Cy now=true:=by simpa using h.2
  rw[h1,h2,Bool.eq_iff_iff]
  simp
  omega
theorem table_seen {t:List EntryM} (h:tableB t=true) {i:Nat} (hi:i<t.length):0≤t[i].seen∧t[i].seen≤1099511627776:=by
 simp only[tableB,Bool.and_eq_true]at h
 have h2:=allB_iff.1 h.2 i hi
 simp only[Jj,Bool.and_eq_true,Cy,decide_eq_true_eq]at h2
 exact h2.1.2
theorem Adb (t:List EntryM) (now:Int) (hl:Al t) (hmac:∀ e∈t,e.mac<18446744073709551616):Sy.Spec Tryz.prog 130 [.sl 3 Am t,Aa now] [] (.sl 3 Am (ageT t now)) []:=cT F130 Tryz.ntmps130 fun F hF=>by
 have q1:=Qs t hl hmac
 have q2:=Og now
 unfold Al at hl
 have hseen:=@table_seen t
 rw[Auy]
 obtain ⟨c,hc⟩:∃ c:EntryM→Bool,(fun e=>!(tableB t) || !(Cy now) || decide (now-e.seen≤4))=c:=⟨_,rfl⟩
 rw[hc]
 conv=>whnf
 refine Bo 5 1000 3 Am E E ?_
 refine Aq t.length (fun j=>[(0,.sl 3 Am t),(1,Aa now),(5,.osl 1000),(6,Aa j)]) (fun j=>[(1000,.row 3 Am ((t.take j).filter c))]) [] ⟨⟨E,E,E,E,E,E,E,E,Y⟩,⟨.inl E,E,Y⟩,E,E⟩ ?_
 intro j hj
 have hfl:((t.take j).filter c).length≤j:=Nat.le_trans (List.length_filter_le _ _) (by rw[List.length_take];omega)
 have hsucc:∀ h:j<t.length,(t.take (j+1)).filter c=if c t[j]=true then (t.take j).filter c++[t[j]] else (t.take j).filter c:=fun h=>by
  rw[List.take_add_one,List.getElem?_eq_getElem h,List.filter_append]
  by_cases hct:c t[j]=true
  ·rw[if_pos hct];simp[hct]
  ·rw[if_neg hct];simp[hct]
 refine oO ?_
 refine⟨fun h=>?_,fun h=>?_⟩
 ·have hlt:j<t.length:=qA h
  have hs:=hsucc hlt
  have hct:c t[j]=(!(tableB t) || !(Cy now) || decide (now-t[j].seen≤4)):=by rw[← hc]
  have hsj:=fun h=>hseen h hlt
  have hej:t[((j:Nat):Int).toNat]'qn=t[j]:=rfl
  obtain ⟨u,hu⟩:∃ u,(t.take j).filter c=u:=⟨_,rfl⟩
  obtain ⟨x,hx⟩:∃ x,t[j]=x:=⟨_,rfl⟩
  rw[hu]at hs hfl ⊢
  rw[hx]at hs hct hsj hej
  have fin:∀ b:Bool,c x=b→True:=fun _ _=>trivial
  refine oO ?_
  refine c0 q1 F192 ?_
  cases h1:tableB t
  ·rw[h1]at hct
   have hcx:c x=true:=by rw[hct];rfl
   rw[if_pos hcx]at hs
   (refine oT ?_;refine bT ?_;refine bT ?_)
   refine⟨E,by omega,by omega,?_⟩
   rw[hej]
   conv=>whnf
   refine Ae (Ad Γ.toTy 60 rfl rfl rfl rfl rfl (.row rfl) (.lit (e:=Am) (l:=[x]) rfl rfl) (fun j hj=>by cases hj;decide) (by simp;omega) (by simp;omega)) rfl rfl ?_
   refine oO ?_
   refine iW ?_
   exact An [(1000,60)] hlt ⟨⟨E,E,E,E,E,E,E,E,Y⟩,⟨.inl (congrArg (Ob.row 3 Am) hs),E,Y⟩,E,E⟩
  refine oF ?_
  refine c0 q2 F193 ?_
  cases h2:Cy now
  ·rw[h1,h2]at hct
   have hcx:c x=true:=by rw[hct];rfl
   rw[if_pos hcx]at hs
   (refine oT ?_;refine bT ?_)
   refine⟨E,by omega,by omega,?_⟩
   rw[hej]
   conv=>whnf
   refine Ae (Ad Γ.toTy 60 rfl rfl rfl rfl rfl (.row rfl) (.lit (e:=Am) (l:=[x]) rfl rfl) (fun j hj=>by cases hj;decide) (by simp;omega) (by simp;omega)) rfl rfl ?_
   refine oO ?_
   refine iW ?_
   exact An [(1000,60)] hlt ⟨⟨E,E,E,E,E,E,E,E,Y⟩,⟨.inl (congrArg (Ob.row 3 Am) hs),E,Y⟩,E,E⟩
  have hsj:=hsj h1
  have hnow:0≤now∧now≤1099511627776:=by simpa [Cy] using h2
  rw[h1,h2]at hct
  refine oF ?_
  refine⟨E,by omega,by omega,?_⟩
  rw[hej]
  conv=>whnf
  refine iW ?_
  refine⟨fun h3=>?_,fun h3=>?_⟩
  ·have hcx:c x=true:=by rw[hct,h3];rfl
   rw[if_pos hcx]at hs
   refine oO ?_
   refine⟨E,by omega,by omega,?_⟩
   rw[hej]
   conv=>whnf
   refine Ae (Ad Γ.toTy 60 rfl rfl rfl rfl rfl (.row rfl) (.lit (e:=Am) (l:=[x]) rfl rfl) (fun j hj=>by cases hj;decide) (by simp;omega) (by simp;omega)) rfl rfl ?_
   refine oO ?_
   refine iW ?_
   exact An [(1000,60)] hlt ⟨⟨E,E,E,E,E,E,E,E,Y⟩,⟨.inl (congrArg (Ob.row 3 Am) hs),E,Y⟩,E,E⟩
  ·have hcx:¬ c x=true:=by rw[hct,h3];decide
   rw[if_neg hcx]at hs
   refine oO ?_
   refine iW ?_
   exact An [] hlt ⟨⟨E,E,E,E,E,E,E,E,Y⟩,⟨.inl (congrArg (Ob.row 3 Am) hs),E,Y⟩,E,E⟩
 ·have:j=t.length:=qB h
  subst this
  rw[List.take_length]
  refine Ap 1000 E ?_
  refine oO ?_
  exact dN
def Io (t:List EntryM) (m:Nat) (new:EntryM) (old:Int):Nat→List EntryM
 | 0=>[]
 | j+1=>match t[j]? with
  | some x=>if x.mac=m then Io t m new old j++[new] else if (j:Int)≠old then Io t m new old j++[x] else Io t m new old j
  | none=>Io t m new old j
def Ahr (t:List EntryM):Nat→Int
 | 0=>-1
 | j+1=>(oldestU t (j+1):Nat)
theorem Akr {t:List EntryM} {m:Nat} {new:EntryM} {i:Nat} (hi:i<t.length) (h:∀ j (hj:j<t.length),t[j].mac=m↔j=i) (j:Nat) (hj:j≤t.length):Io t m new (-1) j=(t.set i new).take j:=by
 induction j with
 | zero=>rfl
 | succ j ih =>
  have hjl:j<t.length:=by omega
  rw[Io,List.getElem?_eq_getElem hjl,ih qn]
  have hsl:j<(t.set i new).length:=by rw[List.length_set];omega
  rw[List.take_add_one,List.getElem?_eq_getElem hsl]
  dsimp only
  by_cases hm1:t[j].mac=m
  ·have:=(h j hjl).1 hm1
   subst this
   rw[if_pos hm1,List.getElem_set_self];rfl
  ·have hne:i≠j:=fun e=>hm1 ((h j hjl).2 e.symm)
   rw[if_neg hm1,if_pos qn,List.getElem_set_ne hne];rfl
theorem Ao1 {t:List EntryM} {m:Nat} {new:EntryM} (h:∀ j (hj:j<t.length),t[j].mac≠m) (j:Nat) (hj:j≤t.length):Io t m new (-1) j=t.take j:=by
 induction j with
 | zero=>rfl
 | succ j ih =>
  have hjl:j<t.length:=by omega
  rw[Io,List.getElem?_eq_getElem hjl,ih qn,List.take_add_one,List.getElem?_eq_getElem hjl]
  dsimp only
  rw[if_neg (h j hjl),if_pos qn];rfl
theorem Ark {t:List EntryM} {m:Nat} {new:EntryM} (o:Nat) (h:∀ j (hj:j<t.length),t[j].mac≠m) (j:Nat) (hj:j≤t.length):Io t m new o j=(t.take j).eraseIdx o:=by
 induction j with
 | zero=>rw[Io,List.take_zero,List.eraseIdx_nil]
 | succ j ih =>
  have hjl:j<t.length:=by omega
  have hlen:(t.take j).length=j:=by rw[List.length_take];omega
  rw[Io,List.getElem?_eq_getElem hjl,ih qn,List.take_add_one,List.getElem?_eq_getElem hjl]
  dsimp only
  rw[if_neg (h j hjl),Option.toList_some]
  by_cases ho:o<j
  ·rw[if_pos qn,List.eraseIdx_append_of_lt_length qn]
  ·rw[List.eraseIdx_append_of_length_le qn,hlen,List.eraseIdx_of_length_le (l:=t.take j) qn]
   by_cases hoj:o=j
   ·subst hoj
    rw[if_neg qn,Nat.sub_self];simp
   ·rw[if_pos qn,List.eraseIdx_of_length_le (by simp;omega)]
theorem find_none {t:List EntryM} {m:Nat} (h:(findE t m).2=false):C1 t m=-1∧∀ j (hj:j<t.length),t[j].mac≠m:=by
 rcases Ia (fun e=>decide (EntryM.mac e=m)) t with ⟨h1,h2⟩ | ⟨i,hi,h1,h2,h3⟩
 ·exact⟨h1,fun j hj=>of_decide_eq_false (h2 t[j] (List.getElem_mem hj))⟩
 ·have h4:C1 t m=i:=h1
  rw[findE,h4,if_neg qn]at h
  cases h
theorem find_some {t:List EntryM} {m:Nat} (hr:tableB t=true) (h:(findE t m).2=true):∃ (i:Nat) (hi:i<t.length),C1 t m=i∧∀ j (hj:j<t.length),t[j].mac=m↔j=i:=by
 rcases Ia (fun e=>decide (EntryM.mac e=m)) t with ⟨h1,h2⟩ | ⟨i,hi,h1,h2,h3⟩
 ·have h4:C1 t m=-1:=h1
  rw[findE,h4,if_pos qy]at h
  cases h
 ·have him:t[i].mac=m:=of_decide_eq_true h2
  refine⟨i,hi,h1,fun j hj=>⟨fun hj2=>?_,fun e=>by subst e;exact him⟩⟩
  simp only[tableB,Bool.and_eq_true]at hr
  have he:=allB_iff.1 hr.2 j hj
  simp only[Jj,Bool.and_eq_true,decide_eq_true_eq]at he
  have:=he.2
  rw[hj2]at this
  have h4:C1 t m=i:=h1
  omega
theorem S3 (t:List EntryM) (m:Nat) (new:EntryM) (old:Int) {j:Nat} (h:j<t.length):Io t m new old (j+1)=if t[j].mac=m then Io t m new old j++[new] else if (j:Int)≠old then Io t m new old j++[t[j]] else Io t m new old j:=by
 rw[Io,List.getElem?_eq_getElem h]
theorem Lo (t:List EntryM) (m:Nat) (new:EntryM) (old:Int) (j:Nat):(Io t m new old j).length≤j:=by
 induction j with
 | zero=>exact Nat.le_refl _
 | succ j ih =>
  rw[Io]
  split
  ·split
   ·rw[List.length_append];simp;omega
   ·split
    ·rw[List.length_append];simp;omega
    ·omega
  ·omega
theorem Yd (t:List EntryM) (m:Nat) (wh now:Int) (hl:Al t) (hmac:∀ e∈t,e.mac<18446744073709551616) (hm64:m<18446744073709551616) :
  Sy.Spec Tryz.prog 253 [.sl 3 Am t,Aw m,Aa wh,Aa now] [] (.sl 3 Am (learnT t m wh now)) []:=cT F253 Tryz.ntmps253 fun F hF=>by
 have q1:=Qs t hl hmac
 have q2:=Tt m hm64
 have q3:=Og now
 have q4:=Aam t m hl
 unfold Al at hl
 have hres:=learnT.eq_1 t m wh now
 generalize learnT t m wh now=res at *
 conv=>whnf
 refine c0 q1 F192 ?_
 cases h1:tableB t
 ·rw[if_pos (.inl h1)]at hres
  subst hres
  (refine oT ?_;refine bT ?_;refine bT ?_)
  refine Ae (Ad Γ.toTy 30 E E E E E (.lit (e:=Am) (l:=[]) E E) .sl qz (by simp;omega) (by simp;omega)) E E ?_
  refine Ap 30 E ?_
  refine oO ?_
  exact dN
 refine oF ?_
 refine c0 q2 F262 ?_
 cases h2:Eu m
 ·rw[if_pos (.inr (.inl h2))]at hres
  subst hres
  (refine oT ?_;refine bT ?_)
  refine Ae (Ad Γ.toTy 30 E E E E E (.lit (e:=Am) (l:=[]) E E) .sl qz (by simp;omega) (by simp;omega)) E E ?_
  refine Ap 30 E ?_
  refine oO ?_
  exact dN
 refine oF ?_
 refine c0 q3 F193 ?_
 cases h3:Cy now
 ·rw[if_pos (.inr (.inr h3))]at hres
  subst hres
  refine oT ?_
  refine Ae (Ad Γ.toTy 30 E E E E E (.lit (e:=Am) (l:=[]) E E) .sl qz (by simp;omega) (by simp;omega)) E E ?_
  refine Ap 30 E ?_
  refine oO ?_
  exact dN
 rw[if_neg (by simp[h1,h2,h3])]at hres
 have ht8:t.length≤8:=by simp only[tableB,Bool.and_eq_true,decide_eq_true_eq]at h1;exact h1.1
 have hno:=@find_none t m
 have hso:=@find_some t m h1
 generalize findE t m=fe at *
 obtain ⟨fw,th⟩:=fe
 dsimp only at hno hso
 refine oF ?_
 refine c0 q4 F316 ?_
 by_cases hcase:t.length=8∧th=false
 ·obtain ⟨hc8,rfl⟩:=hcase
  obtain ⟨hi1,hi2⟩:=hno rfl
  obtain ⟨old,hold⟩:∃ old:Int,Ahr t t.length=old:=⟨_,rfl⟩
  have hold2:old=(oldestU t t.length:Nat):=by rw[← hold,hc8];rfl
  have hout:res=if (false:Bool)=true then Io t m ⟨m,wh,now⟩ old t.length else Io t m ⟨m,wh,now⟩ old t.length++[⟨m,wh,now⟩]:=by
   rw[if_neg qy,hres,hi1,if_neg qy,if_pos hc8,hold2,Ark _ hi2 _ (Nat.le_refl _),List.take_length]
  refine oO ?_
  refine Aq t.length (fun j=>[(0,.sl 3 Am t),(1,Aw m),(2,Aa wh),(3,Aa now),(10,Ab false),(11,Aa (Ahr t j)),(12,Aa j)]) (fun _=>[]) [] ⟨⟨E,E,E,E,E,E,E,E,E,E,E,E,E,E,Y⟩,Y,E,E⟩ ?_
  intro j hj
  refine oO ?_
  refine⟨fun h=>?_,fun h=>?_⟩
  ·have hlt:j<t.length:=qA h
   refine oO ?_
   refine⟨fun _=>?_,fun h=>absurd h (by simp;omega)⟩
   cases j with
   | zero =>
    have h10:Ahr t 1=0:=by rw[Ahr,oldestU];split<;>rfl
    rw[show Ahr t 0=-1 from rfl]
    (refine rg ?_;(conv=>whnf);refine aT ?_;refine rg ?_;(conv=>whnf);refine aT ?_;refine oD ?_)
    refine⟨qq,?_⟩
    ((conv=>whnf);refine aT ?_;refine rg ?_;conv=>whnf)
    refine iW ?_
    exact An (i:=0) [] hlt ⟨⟨E,E,E,E,E,E,E,E,E,E,congrArg Aa h10,E,E,E,Y⟩,Y,E,E⟩
   | succ j =>
    have hol:=Un t (j+1) qn qn
    have hs:Ahr t (j+1+1)=((oldestU t (j+1+1):Nat):Int):=rfl
    rw[oldestU,List.getElem?_eq_getElem hlt,List.getElem?_eq_getElem hol]at hs
    have hs2:Ahr t (j+1+1)=if t[j+1].seen<t[oldestU t (j+1)].seen then ((j+1:Nat):Int) else ((oldestU t (j+1):Nat):Int):=by
     rw[hs]
     show ((if t[j+1].seen<t[oldestU t (j+1)].seen then j+1 else oldestU t (j+1):Nat):Int)=_
     split<;>rfl
    rw[show Ahr t (j+1)=((oldestU t (j+1):Nat):Int) from rfl]
    obtain ⟨o,ho⟩:∃ o,oldestU t (j+1)=o:=⟨_,rfl⟩
    simp only[ho]at hs2 hol ⊢
    (refine rg ?_;(conv=>whnf);refine aT ?_;refine rg ?_;(conv=>whnf);refine aF ?_;refine oD ?_)
    refine⟨E,by omega,by omega,?_⟩
    rw[show t[((j+1:Nat):Int).toNat]'qn=t[j+1] from rfl]
    conv=>whnf
    refine⟨E,by omega,by omega,?_⟩
    rw[show t[((o:Nat):Int).toNat]'qn=t[o] from rfl]
    conv=>whnf
    refine kW ?_
    refine⟨fun h3=>?_,fun h3=>?_⟩
    ·rw[if_pos (of_decide_eq_true h3)]at hs2
     refine oO ?_
     refine iW ?_
     exact An [] hlt ⟨⟨E,E,E,E,E,E,E,E,E,E,congrArg Aa hs2,E,E,E,Y⟩,Y,E,E⟩
    ·rw[if_neg (of_decide_eq_false h3)]at hs2
     refine oO ?_
     refine iW ?_
     exact An [] hlt ⟨⟨E,E,E,E,E,E,E,E,E,E,congrArg Aa hs2,E,E,E,Y⟩,Y,E,E⟩
  ·have:j=t.length:=qB h
   subst this
   rw[hold]
   (refine oF ?_;refine bF ?_)
   refine Bo 13 1000 3 Am E E ?_
   refine Aq t.length (fun j=>[(0,.sl 3 Am t),(1,Aw m),(2,Aa wh),(3,Aa now),(10,Ab false),(11,Aa old),(13,.osl 1000),(14,Aa j)]) (fun j=>[(1000,.row 3 Am (Io t m ⟨m,wh,now⟩ old j))]) [] ⟨⟨E,E,E,E,E,E,E,E,E,E,E,E,E,E,E,E,Y⟩,⟨.inl E,E,Y⟩,E,E⟩ ?_
   intro j hj
   have hol:=Lo t m ⟨m,wh,now⟩ old j
   have hsucc:=fun h:j<t.length=>S3 t m ⟨m,wh,now⟩ old h
   obtain ⟨u,hu⟩:∃ u,Io t m ⟨m,wh,now⟩ old j=u:=⟨_,rfl⟩
   rw[hu]at hol hsucc ⊢
   refine oO ?_
   refine⟨fun h=>?_,fun h=>?_⟩
   ·have hlt:j<t.length:=qA h
    have hs:=hsucc hlt
    have hej:t[((j:Nat):Int).toNat]'qn=t[j]:=rfl
    obtain ⟨x,hx⟩:∃ x,t[j]=x:=⟨_,rfl⟩
    rw[hx]at hs hej
    refine oO ?_
    refine⟨E,by omega,by omega,?_⟩
    rw[hej]
    conv=>whnf
    refine⟨fun h3=>?_,fun h3=>?_⟩
    ·rw[if_pos (show x.mac=m by simp at h3;omega)]at hs
     refine oO ?_
     refine Ae (Ad Γ.toTy 60 rfl rfl rfl rfl rfl (.row rfl) (.lit (e:=Am) (l:=[⟨m,wh,now⟩]) rfl rfl) (fun j hj=>by cases hj;decide) (by simp;omega) (by simp;omega)) rfl rfl ?_
     refine oO ?_
     refine iW ?_
     exact An [(1000,60)] hlt ⟨⟨E,E,E,E,E,E,E,E,E,E,E,E,E,E,E,E,Y⟩,⟨.inl (congrArg (Ob.row 3 Am) hs),E,Y⟩,E,E⟩
    ·rw[if_neg (show ¬ x.mac=m by simp at h3;omega)]at hs
     refine oO ?_
     refine⟨fun h4=>?_,fun h4=>?_⟩
     ·rw[if_pos (show (j:Int)≠old by simpa using h4)]at hs
      refine oO ?_
      refine⟨E,by omega,by omega,?_⟩
      rw[hej]
      conv=>whnf
      refine Ae (Ad Γ.toTy 60 rfl rfl rfl rfl rfl (.row rfl) (.lit (e:=Am) (l:=[x]) rfl rfl) (fun j hj=>by cases hj;decide) (by simp;omega) (by simp;omega)) rfl rfl ?_
      refine oO ?_
      refine iW ?_
      exact An [(1000,60)] hlt ⟨⟨E,E,E,E,E,E,E,E,E,E,E,E,E,E,E,E,Y⟩,⟨.inl (congrArg (Ob.row 3 Am) hs),E,Y⟩,E,E⟩
     ·rw[if_neg (show ¬ (j:Int)≠old by simpa using h4)]at hs
      refine oO ?_
      refine iW ?_
      exact An [] hlt ⟨⟨E,E,E,E,E,E,E,E,E,E,E,E,E,E,E,E,Y⟩,⟨.inl (congrArg (Ob.row 3 Am) hs),E,Y⟩,E,E⟩
   ·have:j=t.length:=qB h
    subst this
    rw[hu]at hout
    rw[if_neg qy]at hout
    refine oT ?_
    refine Ae (Ad Γ.toTy 61 rfl rfl rfl rfl rfl (.row rfl) (.lit (e:=Am) (l:=[⟨m,wh,now⟩]) rfl rfl) (fun j hj=>by cases hj;decide) (by simp;omega) (by simp;omega)) rfl rfl ?_
    refine Ap 61 E ?_
    refine oO ?_
    exact Ao E (.cons .tmp .nil) (congrArg (SV.sl 3 Am) hout) E
 ·have hout:res=if th=true then Io t m ⟨m,wh,now⟩ (-1) t.length else Io t m ⟨m,wh,now⟩ (-1) t.length++[⟨m,wh,now⟩]:=by
   cases th
   ·obtain ⟨hi1,hi2⟩:=hno rfl
    rw[if_neg qy,hres,hi1,if_neg qy,if_neg (fun h=>hcase ⟨h,rfl⟩),Ao1 hi2 _ (Nat.le_refl _),List.take_length]
   ·obtain ⟨i,hi,hi1,hi2⟩:=hso rfl
    rw[if_pos rfl,hres,hi1,if_pos qn,Akr hi hi2 _ (Nat.le_refl _),Int.toNat_natCast,List.take_of_length_le qz]
  obtain ⟨old,hold⟩:∃ old:Int,-1=old:=⟨_,rfl⟩
  rw[hold]at hout
  refine oO ?_
  refine Aq 0 (fun j=>[(0,.sl 3 Am t),(1,Aw m),(2,Aa wh),(3,Aa now),(10,Ab th),(11,Aa old),(12,Aa j)]) (fun _=>[]) [] ⟨⟨E,E,E,E,E,E,E,E,E,E,congrArg Aa hold.symm,E,E,E,Y⟩,Y,E,E⟩ ?_
  intro j hj
  have hj0:j=0:=by omega
  subst hj0
  refine oO ?_
  refine⟨fun h=>?_,fun h=>?_⟩
  ·refine oO ?_
   refine⟨fun h8=>?_,fun h8=>?_⟩
   ·have hth:th=true:=by
     cases th with
     | true=>rfl
     | false=>exact absurd ⟨by simp at h8;omega,rfl⟩ hcase
    refine oO ?_
    refine⟨fun h=>absurd h (by simp[hth]),fun _=>?_⟩
    refine oO ?_
    refine Bo 13 1000 3 Am E E ?_
    refine Aq t.length (fun j=>[(0,.sl 3 Am t),(1,Aw m),(2,Aa wh),(3,Aa now),(10,Ab th),(11,Aa old),(13,.osl 1000),(14,Aa j)]) (fun j=>[(1000,.row 3 Am (Io t m ⟨m,wh,now⟩ old j))]) [] ⟨⟨E,E,E,E,E,E,E,E,E,E,E,E,E,E,E,E,Y⟩,⟨.inl E,E,Y⟩,E,E⟩ ?_
    intro j hj
    have hol:=Lo t m ⟨m,wh,now⟩ old j
    have hsucc:=fun h:j<t.length=>S3 t m ⟨m,wh,now⟩ old h
    obtain ⟨u,hu⟩:∃ u,Io t m ⟨m,wh,now⟩ old j=u:=⟨_,rfl⟩
    rw[hu]at hol hsucc ⊢
    refine oO ?_
    refine⟨fun h=>?_,fun h=>?_⟩
    ·have hlt:j<t.length:=qA h
     have hs:=hsucc hlt
     have hej:t[((j:Nat):Int).toNat]'qn=t[j]:=rfl
     obtain ⟨x,hx⟩:∃ x,t[j]=x:=⟨_,rfl⟩
     rw[hx]at hs hej
     refine oO ?_
     refine⟨E,by omega,by omega,?_⟩
     rw[hej]
     conv=>whnf
     refine⟨fun h3=>?_,fun h3=>?_⟩
     ·rw[if_pos (show x.mac=m by simp at h3;omega)]at hs
      refine oO ?_
      refine Ae (Ad Γ.toTy 60 rfl rfl rfl rfl rfl (.row rfl) (.lit (e:=Am) (l:=[⟨m,wh,now⟩]) rfl rfl) (fun j hj=>by cases hj;decide) (by simp;omega) (by simp;omega)) rfl rfl ?_
      refine oO ?_
      refine iW ?_
      exact An [(1000,60)] hlt ⟨⟨E,E,E,E,E,E,E,E,E,E,E,E,E,E,E,E,Y⟩,⟨.inl (congrArg (Ob.row 3 Am) hs),E,Y⟩,E,E⟩
     ·rw[if_neg (show ¬ x.mac=m by simp at h3;omega)]at hs
      refine oO ?_
      refine⟨fun h4=>?_,fun h4=>?_⟩
      ·rw[if_pos (show (j:Int)≠old by simpa using h4)]at hs
       refine oO ?_
       refine⟨E,by omega,by omega,?_⟩
       rw[hej]
       conv=>whnf
       refine Ae (Ad Γ.toTy 60 rfl rfl rfl rfl rfl (.row rfl) (.lit (e:=Am) (l:=[x]) rfl rfl) (fun j hj=>by cases hj;decide) (by simp;omega) (by simp;omega)) rfl rfl ?_
       refine oO ?_
       refine iW ?_
       exact An [(1000,60)] hlt ⟨⟨E,E,E,E,E,E,E,E,E,E,E,E,E,E,E,E,Y⟩,⟨.inl (congrArg (Ob.row 3 Am) hs),E,Y⟩,E,E⟩
      ·rw[if_neg (show ¬ (j:Int)≠old by simpa using h4)]at hs
       refine oO ?_
       refine iW ?_
       exact An [] hlt ⟨⟨E,E,E,E,E,E,E,E,E,E,E,E,E,E,E,E,Y⟩,⟨.inl (congrArg (Ob.row 3 Am) hs),E,Y⟩,E,E⟩
    ·have:j=t.length:=qB h
     subst this
     rw[hu]at hout
     cases th
     ·rw[if_neg qy]at hout
      refine oT ?_
      refine Ae (Ad Γ.toTy 61 rfl rfl rfl rfl rfl (.row rfl) (.lit (e:=Am) (l:=[⟨m,wh,now⟩]) rfl rfl) (fun j hj=>by cases hj;decide) (by simp;omega) (by simp;omega)) rfl rfl ?_
      refine Ap 61 E ?_
      refine oO ?_
      exact Ao E (.cons .tmp .nil) (congrArg (SV.sl 3 Am) hout) E
     ·rw[if_pos rfl]at hout
      refine oF ?_
      refine Ap 1000 E ?_
      exact Ao E (.cons .tmp .nil) (congrArg (SV.sl 3 Am) hout) E
   ·refine oF ?_
    refine Bo 13 1000 3 Am E E ?_
    refine Aq t.length (fun j=>[(0,.sl 3 Am t),(1,Aw m),(2,Aa wh),(3,Aa now),(10,Ab th),(11,Aa old),(13,.osl 1000),(14,Aa j)]) (fun j=>[(1000,.row 3 Am (Io t m ⟨m,wh,now⟩ old j))]) [] ⟨⟨E,E,E,E,E,E,E,E,E,E,E,E,E,E,E,E,Y⟩,⟨.inl E,E,Y⟩,E,E⟩ ?_
    intro j hj
    have hol:=Lo t m ⟨m,wh,now⟩ old j
    have hsucc:=fun h:j<t.length=>S3 t m ⟨m,wh,now⟩ old h
    obtain ⟨u,hu⟩:∃ u,Io t m ⟨m,wh,now⟩ old j=u:=⟨_,rfl⟩
    rw[hu]at hol hsucc ⊢
    refine oO ?_
    refine⟨fun h=>?_,fun h=>?_⟩
    ·have hlt:j<t.length:=qA h
     have hs:=hsucc hlt
     have hej:t[((j:Nat):Int).toNat]'qn=t[j]:=rfl
     obtain ⟨x,hx⟩:∃ x,t[j]=x:=⟨_,rfl⟩
     rw[hx]at hs hej
     refine oO ?_
     refine⟨E,by omega,by omega,?_⟩
     rw[hej]
     conv=>whnf
     refine⟨fun h3=>?_,fun h3=>?_⟩
     ·rw[if_pos (show x.mac=m by simp at h3;omega)]at hs
      refine oO ?_
      refine Ae (Ad Γ.toTy 60 rfl rfl rfl rfl rfl (.row rfl) (.lit (e:=Am) (l:=[⟨m,wh,now⟩]) rfl rfl) (fun j hj=>by cases hj;decide) (by simp;omega) (by simp;omega)) rfl rfl ?_
      refine oO ?_
      refine iW ?_
      exact An [(1000,60)] hlt ⟨⟨E,E,E,E,E,E,E,E,E,E,E,E,E,E,E,E,Y⟩,⟨.inl (congrArg (Ob.row 3 Am) hs),E,Y⟩,E,E⟩
     ·rw[if_neg (show ¬ x.mac=m by simp at h3;omega)]at hs
      refine oO ?_
      refine⟨fun h4=>?_,fun h4=>?_⟩
      ·rw[if_pos (show (j:Int)≠old by simpa using h4)]at hs
       refine oO ?_
       refine⟨E,by omega,by omega,?_⟩
       rw[hej]
       conv=>whnf
       refine Ae (Ad Γ.toTy 60 rfl rfl rfl rfl rfl (.row rfl) (.lit (e:=Am) (l:=[x]) rfl rfl) (fun j hj=>by cases hj;decide) (by simp;omega) (by simp;omega)) rfl rfl ?_
       refine oO ?_
       refine iW ?_
       exact An [(1000,60)] hlt ⟨⟨E,E,E,E,E,E,E,E,E,E,E,E,E,E,E,E,Y⟩,⟨.inl (congrArg (Ob.row 3 Am) hs),E,Y⟩,E,E⟩
      ·rw[if_neg (show ¬ (j:Int)≠old by simpa using h4)]at hs
       refine oO ?_
       refine iW ?_
       exact An [] hlt ⟨⟨E,E,E,E,E,E,E,E,E,E,E,E,E,E,E,E,Y⟩,⟨.inl (congrArg (Ob.row 3 Am) hs),E,Y⟩,E,E⟩
    ·have:j=t.length:=qB h
     subst this
     rw[hu]at hout
     cases th
     ·rw[if_neg qy]at hout
      refine oT ?_
      refine Ae (Ad Γ.toTy 61 rfl rfl rfl rfl rfl (.row rfl) (.lit (e:=Am) (l:=[⟨m,wh,now⟩]) rfl rfl) (fun j hj=>by cases hj;decide) (by simp;omega) (by simp;omega)) rfl rfl ?_
      refine Ap 61 E ?_
      refine oO ?_
      exact Ao E (.cons .tmp .nil) (congrArg (SV.sl 3 Am) hout) E
     ·rw[if_pos rfl]at hout
      refine oF ?_
      refine Ap 1000 E ?_
      exact Ao E (.cons .tmp .nil) (congrArg (SV.sl 3 Am) hout) E
  ·(refine oF ?_;refine bF ?_)
   refine Bo 13 1000 3 Am E E ?_
   refine Aq t.length (fun j=>[(0,.sl 3 Am t),(1,Aw m),(2,Aa wh),(3,Aa now),(10,Ab th),(11,Aa old),(13,.osl 1000),(14,Aa j)]) (fun j=>[(1000,.row 3 Am (Io t m ⟨m,wh,now⟩ old j))]) [] ⟨⟨E,E,E,E,E,E,E,E,E,E,E,E,E,E,E,E,Y⟩,⟨.inl E,E,Y⟩,E,E⟩ ?_
   intro j hj
   have hol:=Lo t m ⟨m,wh,now⟩ old j
   have hsucc:=fun h:j<t.length=>S3 t m ⟨m,wh,now⟩ old h
   obtain ⟨u,hu⟩:∃ u,Io t m ⟨m,wh,now⟩ old j=u:=⟨_,rfl⟩
   rw[hu]at hol hsucc ⊢
   refine oO ?_
   refine⟨fun h=>?_,fun h=>?_⟩
   ·have hlt:j<t.length:=qA h
    have hs:=hsucc hlt
    have hej:t[((j:Nat):Int).toNat]'qn=t[j]:=rfl
    obtain ⟨x,hx⟩:∃ x,t[j]=x:=⟨_,rfl⟩
    rw[hx]at hs hej
    refine oO ?_
    refine⟨E,by omega,by omega,?_⟩
    rw[hej]
    conv=>whnf
    refine⟨fun h3=>?_,fun h3=>?_⟩
    ·rw[if_pos (show x.mac=m by simp at h3;omega)]at hs
     refine oO ?_
     refine Ae (Ad Γ.toTy 60 rfl rfl rfl rfl rfl (.row rfl) (.lit (e:=Am) (l:=[⟨m,wh,now⟩]) rfl rfl) (fun j hj=>by cases hj;decide) (by simp;omega) (by simp;omega)) rfl rfl ?_
     refine oO ?_
     refine iW ?_
     exact An [(1000,60)] hlt ⟨⟨E,E,E,E,E,E,E,E,E,E,E,E,E,E,E,E,Y⟩,⟨.inl (congrArg (Ob.row 3 Am) hs),E,Y⟩,E,E⟩
    ·rw[if_neg (show ¬ x.mac=m by simp at h3;omega)]at hs
     refine oO ?_
     refine⟨fun h4=>?_,fun h4=>?_⟩
     ·rw[if_pos (show (j:Int)≠old by simpa using h4)]at hs
      refine oO ?_
      refine⟨E,by omega,by omega,?_⟩
      rw[hej]
      conv=>whnf
      refine Ae (Ad Γ.toTy 60 rfl rfl rfl rfl rfl (.row rfl) (.lit (e:=Am) (l:=[x]) rfl rfl) (fun j hj=>by cases hj;decide) (by simp;omega) (by simp;omega)) rfl rfl ?_
      refine oO ?_
      refine iW ?_
      exact An [(1000,60)] hlt ⟨⟨E,E,E,E,E,E,E,E,E,E,E,E,E,E,E,E,Y⟩,⟨.inl (congrArg (Ob.row 3 Am) hs),E,Y⟩,E,E⟩
     ·rw[if_neg (show ¬ (j:Int)≠old by simpa using h4)]at hs
      refine oO ?_
      refine iW ?_
      exact An [] hlt ⟨⟨E,E,E,E,E,E,E,E,E,E,E,E,E,E,E,E,Y⟩,⟨.inl (congrArg (Ob.row 3 Am) hs),E,Y⟩,E,E⟩
   ·have:j=t.length:=qB h
    subst this
    rw[hu]at hout
    cases th
    ·rw[if_neg qy]at hout
     refine oT ?_
     refine Ae (Ad Γ.toTy 61 rfl rfl rfl rfl rfl (.row rfl) (.lit (e:=Am) (l:=[⟨m,wh,now⟩]) rfl rfl) (fun j hj=>by cases hj;decide) (by simp;omega) (by simp;omega)) rfl rfl ?_
     refine Ap 61 E ?_
     refine oO ?_
     exact Ao E (.cons .tmp .nil) (congrArg (SV.sl 3 Am) hout) E
    ·rw[if_pos rfl]at hout
     refine oF ?_
     refine Ap 1000 E ?_
     exact Ao E (.cons .tmp .nil) (congrArg (SV.sl 3 Am) hout) E
theorem Aer (n:Net) (hn:n.Fin) (fw:List Bool) (t:List EntryM) (dom from_:Int) (m:Nat) (hl:Al t) (hw:I64 (findE t m).1) (hm64:m<18446744073709551616) :
  Sy.Spec Tryz.prog 256 [Aj n,.sl 1 Ab fw,.sl 3 Am t,Aa dom,Aa from_,Aw m] [] (.tup [.sl 1 Aa (decideT n fw t dom from_ m).1,.sl 1 Aa (decideT n fw t dom from_ m).2.1,Aa (decideT n fw t dom from_ m).2.2]) []:=cT F256 Tryz.ntmps256 fun F hF=>by
 have qf:=Yc n hn fw dom from_
 have qg:=Js m hm64
 cases hroom:roomB n fw dom from_
 ·have hres:decideT n fw t dom from_ m=([],[],2):=by rw[decideT,if_pos hroom]
  have hfl:floodT n fw dom from_=([],[],2):=by rw[floodT,if_pos hroom]
  rw[hres]
  rw[hfl]at qf
  conv=>whnf
  refine c0 qf F252 ?_
  (refine oT ?_;refine bT ?_)
  exact dN
 have hb2:Lg n fw dom=true:=by rw[Jr,Bool.and_eq_true]at hroom;exact hroom.1
 simp only[Lg,Bool.and_eq_true,decide_eq_true_eq]at hb2
 obtain ⟨⟨hd,hfw⟩,hbn⟩:=hb2
 have hfl:floodT n fw dom from_=(Cf n fw from_ (Az n dom),peersOut n dom from_,0):=by rw[floodT,if_neg (by rw[hroom];decide)]
 rw[hfl]at qf
 have hres:=decideT.eq_1 n fw t dom from_ m
 rw[if_neg (by rw[hroom];decide)]at hres
 cases hg:Ea m
 rotate_left
 ·rw[if_pos hg]at hres
  rw[hres]
  rw[hg]at qg
  conv=>whnf
  refine c0 qf F252 ?_
  refine oF ?_
  refine c0 qg F186 ?_
  refine oT ?_
  exact dN
 rw[if_neg (by rw[hg];decide)]at hres
 rw[hg]at qg
 have hdi:=Bs hd
 have hd0:0≤dom:=hdi.1
 have hkd:dom.toNat<n.domains.length:=by omega
 have e2:nth n.domains dom=n.domains[dom.toNat]:=Ag hkd
 have hpe:=hn.peers _ (List.getElem_mem hkd)
 have qs:=Aet n hn dom m
 obtain ⟨hs1,hs2⟩:=Oc hbn dom m
 have hsp:=Qk hbn dom m
 have qfd:=Aam t m hl
 have q1:∀ p:Int,0≤p→p<n.ports.length→_:=fun p h0 h1=>Aos n fw p from_ hbn hfw h0 h1
 have hmem:∀ p,inB (Az n dom) p=true→0≤p∧p<n.ports.length:=fun p hp=>B4 p (inB_mem.1 hp)
 have qm:=E5 n hn hbn dom
 have qi:=fun x=>Dn (A4 n dom) x (Co n hn dom)
 have hmt:A4 n dom=Az n dom:=by rw[A4,if_pos ⟨⟨hdi.1,hdi.2⟩,hbn⟩]
 rw[hmt]at qm qi
 rw[e2]at hres
 obtain ⟨d,hdd⟩:∃ d,n.domains[dom.toNat]'hkd=d:=⟨_,rfl⟩
 rw[hdd]at hres hpe
 have qp:=fun x=>Dn d.peers x hpe
 generalize decideT n fw t dom from_ m=res at *
 generalize findE t m=fe at *
 obtain ⟨w,ok⟩:=fe
 dsimp only at hres hw qfd
 have hw2:I64 (-1-w)∨0≤w:=by unfold I64 at *;omega
 conv=>whnf
 refine c0 qf F252 ?_
 refine oF ?_
 refine c0 qg F186 ?_
 refine oF ?_
 refine c0 qs F319 ?_
 refine oO ?_
 refine⟨fun h1=>?_,fun h1=>?_⟩
 ·have h2:0≤staticP n dom m:=by simpa using h1
  rw[if_pos (hs1.1 h2),← hs2 (hs1.1 h2)]at hres
  subst hres
  refine oO ?_
  refine c0 (q1 _ h2 (hsp h2)) F320 ?_
  refine oO ?_
  refine Ai 13 1 Aa E ?_
  exact dN
 have h2:¬ 0≤staticP n dom m:=by simp at h1;omega
 rw[if_neg (fun h=>h2 (hs1.2 h))]at hres
 refine oO ?_
 refine c0 qfd F316 ?_
 cases ok
 ·simp only[Bool.false_eq_true,false_and,if_false]at hres
  subst hres
  (refine oF ?_;refine bF ?_;refine bF ?_;refine bF ?_;refine bF ?_)
  exact dN
 simp only[true_and]at hres
 refine oT ?_
 refine c0 qm F37 ?_
 refine oO ?_
 refine c0 (qi w) F36 ?_
 cases hin:inB (Az n dom) w
 rotate_left
 ·have hwp:=hmem w hin
  rw[if_pos ⟨hwp.1,hin⟩]at hres
  subst hres
  refine oT ?_
  refine c0 (q1 w hwp.1 hwp.2) F320 ?_
  refine oO ?_
  refine Ai 13 1 Aa E ?_
  exact dN
 rw[if_neg (by rw[hin];simp)]at hres
 (refine oF ?_;refine bT ?_)
 refine⟨fun h3=>?_,fun h3=>?_⟩
 rotate_left
 ·have h4:¬ w<0:=by simpa using h3
  rw[if_neg (fun h=>h4 h.1)]at hres
  subst hres
  refine oF ?_
  exact dN
 have h4:w<0:=by simpa using h3
 have hneg:-(w+1)=-1-w:=by omega
 refine oO ?_
 refine⟨E,hd0,hkd,?_⟩
 rw[hdd]
 conv=>whnf
 refine⟨by unfold I64 at *;omega,?_⟩
 conv=>whnf
 have hwr:IntKind.i64.wrap (0-(w+1))=-1-w:=by rw[IntKind.wrap_i64];unfold I64 at *;omega
 rw[← hwr]at hres
 refine T9 (qp (IntKind.i64.wrap (0-(w+1)))) F36 E E E E E ?_
 cases hip:inB d.peers (IntKind.i64.wrap (0-(w+1)))
 ·rw[if_neg (by rw[hip];simp)]at hres
  subst hres
  refine oF ?_
  exact dN
 rw[if_pos ⟨h4,hip⟩]at hres
 refine oT ?_
 refine⟨fun h5=>?_,fun h5=>?_⟩
 ·rw[if_pos (by simpa using h5)]at hres
  subst hres
  refine oO ?_
  refine Ai 12 1 Aa E ?_
  refine Ai 13 1 Aa E ?_
  exact dN
 ·rw[if_neg (by simpa using h5)]at hres
  subst hres
  refine oO ?_
  refine⟨by unfold I64 at *;omega,?_⟩
  conv=>whnf
  refine Ai 12 1 Aa E ?_
  refine Ec 91 Aa [IntKind.i64.wrap (0-(w+1))] E E ?_
  refine Ap 91 E ?_
  exact dN
theorem Af1 (t:List EntryM) (q:QueuedM) (now:Int) (ht:TabOK t) (hq:QueuedOK q):Sy.Spec Tryz.prog 231 [.sl 3 Am t,Ay q,Aa now] [] (.sl 3 Am (learnQ t q now)) []:=cT F231 Tryz.ntmps231 fun F hF=>by
 have hres:=learnQ.eq_1 t q now
 generalize learnQ t q now=res at *
 have hl:=ht.short
 have hl2:=hl
 unfold Al at hl2
 have hs:=hq.frame.src
 have h1:=hq.peer
 conv=>whnf
 refine⟨fun h=>?_,fun h=>?_⟩
 ·rw[if_pos (by simpa using h)]at hres
  subst hres
  refine oO ?_
  refine Ae (Ah [(0,55)] E F243 (Se res hl2) E Y E ⟨.inr E,Y⟩) E E ?_
  refine Ap 55 E ?_
  refine oO ?_
  exact dN
 rw[if_neg (by simpa using h)]at hres
 clear h
 refine oO ?_
 refine⟨fun h=>?_,fun h=>?_⟩
 ·rw[if_pos (by simpa using h)]at hres
  subst hres
  refine oO ?_
  refine iW ?_
  refine c0 (Ac4 t q.frame.src (-1-q.peer) now hl ht.mac qn) F296 ?_
  refine oO ?_
  exact dN
 rw[if_neg (by simpa using h)]at hres
 subst hres
 refine oO ?_
 refine c0 (Ac4 t q.frame.src q.from_ now hl ht.mac qn) F296 ?_
 refine oO ?_
 exact dN
def Ki (k p d:Int):OutM:=⟨k,p,d,[],noF,0⟩
theorem Amy (k p d:Int) (b:List UInt8) (e:Int):Ef (Ki k p d) (b,e)=if e≠0 then ⟨5,p,d,[],noF,e⟩ else ⟨k,p,d,b,noF,0⟩:=rfl
theorem U7 (l:List OutM) (k p d:Int) (b:List UInt8) (e:Int) (hl:l.length<100000000000) :
  Sy.Spec Tryz.prog 234 [Bi (Ki k p d),.sl 1 Af b,Aa e,.ptr 0 0] [(0,.box [.osl 1]),(1,.row 9 Bi l)] (.tup []) [(0,.box [.osl 2]),(1,.non),(2,.row 9 Bi (l++[Ef (Ki k p d) (b,e)]))]:=cT F234 Tryz.ntmps234 fun F hF=>by
 have hres:=Amy k p d b e
 generalize Ef (Ki k p d) (b,e)=res at *
 conv=>whnf
 refine⟨fun h=>?_,fun h=>?_⟩
 ·rw[if_pos (by simpa using h)]at hres
  refine oO ?_
  refine U8 17 [Bi ⟨5,p,d,[],noF,e⟩] E (.cons (.agg (.cons (.refl _) (.cons (.refl _) (.cons (.refl _) (.cons .nil (.cons (.refl _) (.cons (.refl _) (.cons (.refl _) (.cons (.refl _) (.cons (.refl _) .nil)))))))))) .nil) E ?_
  refine Ae (Ad Γ.toTy 18 E E E E E (.row E) (.lit (e:=Bi) (l:=[res]) E (by rw[hres];rfl)) qy (by simp;omega) (by simp;omega)) E E ?_
  refine oO ?_
  exact Bg E .nil [(2,18)] [(0,.box [.osl 2]),(1,.non),(2,.row 9 Bi (l++[res]))] (fun _ h=>h) E E ⟨Y,⟨.inl E,E,.inl E,E,.inl E,E,Y⟩,E,E⟩
 ·rw[if_neg (by simpa using h)]at hres
  refine oO ?_
  refine Ae (Ad Γ.toTy 18 E E E E E (.row E) (.lit (e:=Bi) (l:=[res]) E (by rw[hres];rfl)) qy (by simp;omega) (by simp;omega)) E E ?_
  refine oO ?_
  exact Bg E .nil [(2,18)] [(0,.box [.osl 2]),(1,.non),(2,.row 9 Bi (l++[res]))] (fun _ h=>h) E E ⟨Y,⟨.inl E,E,.inl E,E,.inl E,E,Y⟩,E,E⟩
theorem Ej (k p d:Int) (b:List UInt8) (e:Int):Sy.Spec Tryz.prog 258 [Bi (Ki k p d),.sl 1 Af b,Aa e] [] (Bi (Ef (Ki k p d) (b,e))) []:=cT F258 Tryz.ntmps258 fun F hF=>by
 have hres:=Amy k p d b e
 generalize Ef (Ki k p d) (b,e)=res at *
 conv=>whnf
 refine⟨fun h=>?_,fun h=>?_⟩
 ·rw[if_pos (by simpa using h)]at hres
  subst hres
  refine oO ?_
  refine Ar 6 [Aa 5,Aa p,Aa d,.sl 1 Af [],Aw 0,Aw 0,Aa 0,.sl 1 Af [],Aa e] E (.cons (.refl _) (.cons (.refl _) (.cons (.refl _) (.cons .nil (.cons (.refl _) (.cons (.refl _) (.cons (.refl _) (.cons .nil (.cons (.refl _) .nil))))))))) ?_
  exact dN
 ·rw[if_neg (by simpa using h)]at hres
  subst hres
  refine oO ?_
  exact dN
theorem Anc {t:List EntryM} (ht:TabOK t) (m:Nat):I64 (findE t m).1:=by
 unfold findE
 split
 ·unfold I64;dsimp only;omega
 ·rename_i h
  have hlt:C1 t m<t.length:=Hd _ _
  have hk:(C1 t m).toNat<t.length:=by omega
  dsimp only
  rw[List.getElem?_eq_getElem hk]
  exact ht.wh _ (List.getElem_mem hk)
theorem Kg {n:Net} {fw:List Bool} {fr:Int} {l:List Int} {p:Int} (h:p∈Cf n fw fr l):p∈l:=(List.mem_filter.1 h).1
theorem Wm {n:Net} (hb:Ac n=true) (fw:List Bool) (t:List EntryM) (dom fr:Int) (m:Nat):∀ p∈(decideT n fw t dom fr m).1,0≤p∧p<n.ports.length:=by
 intro p hp
 unfold decideT at hp
 split at hp
 ·cases hp
 split at hp
 ·exact B4 p (Kg hp)
 split at hp
 ·rename_i h1
  obtain ⟨hs1,hs2⟩:=Oc hb dom m
  have h2:=hs1.2 h1
  have h3:=Qk hb dom m h2
  have h4:=List.mem_singleton.1 (Kg hp)
  rw[h4,← hs2 h1]
  exact⟨h2,h3⟩
 split at hp
 ·rename_i h1
  rw[List.mem_singleton.1 (Kg hp)]
  exact B4 _ (inB_mem.1 h1.2.2)
 split at hp
 ·cases hp
 ·exact B4 p (Kg hp)
theorem Ae1 (n:Net) (fw:List Bool) (fr:Int) (l:List Int):(Cf n fw fr l).length≤l.length:=List.length_filter_le _ _
theorem Ae2 {n:Net} (hn:n.Fin) (dom fr:Int) (hd:Ak dom n.domains.length=true):(peersOut n dom fr).length<2147483648:=by
 unfold peersOut
 split
 ·decide
 ·have h:=E7 hd
  rw[Ag h.2]
  exact hn.peers _ (List.getElem_mem h.2)
theorem U3 {n:Net} (hn:n.Fin) (fw:List Bool) (t:List EntryM) (dom fr:Int) (m:Nat):(decideT n fw t dom fr m).1.length<2147483648∧(decideT n fw t dom fr m).2.1.length<2147483648:=by
 have h1:=Ahv n dom
 have h2:=hn.ports
 unfold Al at h2
 have h3:=fun l=>Ae1 n fw fr l
 unfold decideT
 split
 ·decide
 rename_i h
 have hd:Ak dom n.domains.length=true:=by
  cases hx:Ak dom n.domains.length
  ·exact absurd (by rw[roomB,hx];rfl) h
  ·rfl
 have h4:=Ae2 hn dom fr hd
 split
 ·have:=h3 (Az n dom);exact⟨by dsimp only;omega,h4⟩
 split
 ·have:=h3 [(nth n.statics (Dr n dom m)).port];simp only[List.length_cons,List.length_nil]at this;exact⟨by dsimp only;omega,by show (0:Nat)<2147483648;decide⟩
 split
 ·have:=h3 [(findE t m).1];simp only[List.length_cons,List.length_nil]at this;exact⟨by dsimp only;omega,by show (0:Nat)<2147483648;decide⟩
 split
 ·refine⟨by show (0:Nat)<2147483648;decide,?_⟩
  dsimp only
  split<;>simp
 ·have:=h3 (Az n dom);exact⟨by dsimp only;omega,h4⟩
theorem Ai5 (n:Net) (hn:n.Fin) (hm0:n.Num) (fw:List Bool) (t:List EntryM) (dom:Int) (q:QueuedM) (now:Int) (ht:TabOK t) (hq:QueuedOK q) :
  Sy.Spec Tryz.prog 174 [Aj n,.sl 1 Ab fw,.sl 3 Am t,Aa dom,Ay q,Aa now] [] (.tup [.sl 3 Am (bridgeT n fw t dom q now).1,.sl 9 Bi (bridgeT n fw t dom q now).2.1,Aa (bridgeT n fw t dom q now).2.2]) []:=cT F174 Tryz.ntmps174 fun F hF=>by
 have hres:=bridgeT.eq_1 n fw t dom q now
 generalize bridgeT n fw t dom q now=res at *
 have qf:=floodS n hn fw dom q.from_
 have qr:=W6 t ht.short ht.mac
 conv=>whnf
 refine A0 6 8 (Aj n) E E E ?_
 refine A0 10 7 (Ay q) E E E ?_
 refine oO ?_
 cases hroom:roomB n fw dom q.from_
 ·rw[if_pos (.inl hroom)]at hres
  subst hres
  rw[floodT,if_pos hroom]at qf
  refine c0 qf F229 ?_
  (refine oT ?_;refine bT ?_)
  refine Ar 13 [.sl 9 Bi []] E (.cons .nil .nil) ?_
  refine Ai 12 3 Am E ?_
  exact dN
 rw[floodT,if_neg (by rw[hroom];decide)]at qf
 refine c0 qf F229 ?_
 refine oF ?_
 refine c0 qr F230 ?_
 cases htb:tableB t
 ·rw[if_pos (.inr htb)]at hres
  subst hres
  refine oT ?_
  refine Ar 13 [.sl 9 Bi []] E (.cons .nil .nil) ?_
  refine Ai 12 3 Am E ?_
  exact dN
 rw[if_neg (by simp[hroom,htb])]at hres
 have ql:=Af1 t q now ht hq
 have hu:=Mp ht hq now
 generalize learnQ t q now=u at *
 have qro:=Af8 n hn hm0 dom q.frame.dst
 generalize routerT n dom q.frame.dst=ro at *
 obtain ⟨irb,ok⟩:=ro
 dsimp only at hres qro
 have hbn:Ac n=true:=by
  simp only[roomB,Bool.and_eq_true]at hroom
  exact hroom.1.2
 refine oF ?_
 refine c0 ql F231 ?_
 refine oO ?_
 refine c0 qro F232 ?_
 cases ok
 rotate_left
 ·rw[if_pos rfl]at hres
  have qh:=An9 n hn hm0 irb q.frame hq.frame
  generalize hopT n irb q.frame=hp at *
  obtain ⟨to,g,e⟩:=hp
  dsimp only at hres qh
  refine oT ?_
  refine c0 qh F233 ?_
  refine oO ?_
  refine⟨fun h=>?_,fun h=>?_⟩
  ·rw[if_pos (by simpa using h)]at hres
   subst hres
   refine oO ?_
   refine Ar 13 [.sl 9 Bi []] E (.cons .nil .nil) ?_
   exact dN
  ·rw[if_neg (by simpa using h)]at hres
   subst hres
   refine oO ?_
   refine kW ?_
   refine U8 84 [Bi ⟨4,0,to,[],g,0⟩] E (.cons (.agg (.cons (.refl _) (.cons (.refl _) (.cons (.refl _) (.cons .nil (.cons (.refl _) (.cons (.refl _) (.cons (.refl _) (.cons (.refl _) (.cons (.refl _) .nil)))))))))) .nil) E ?_
   refine Ec 84 Bi [⟨4,0,to,[],g,0⟩] E E ?_
   refine Ap 84 E ?_
   exact dN
 rw[if_neg qy]at hres
 have hs:=hq.frame.src
 have hd2:=hq.frame.dst
 have hfw:=Anc hu q.frame.dst
 have qd:=Auq n hn fw u dom q.from_ q.frame.dst hu.short (by unfold I64 at *;omega) qn
 have hports:=Wm hbn fw u dom q.from_ q.frame.dst
 have hfew:=U3 hn fw u dom q.from_ q.frame.dst
 generalize decideT n fw u dom q.from_ q.frame.dst=dc at *
 obtain ⟨ports,peers,e0⟩:=dc
 dsimp only at hres qd hports hfew
 obtain ⟨hf1,hf2⟩:=hfew
 refine oF ?_
 refine c0 qd F235 ?_
 refine oO ?_
 refine Ss 13 0 1000 9 Bi E E E E ?_
 refine Aq ports.length (fun j=>[(3,Aa dom),(6,.ref 8 (Aj n) 0),(10,.ref 7 (Ay q) 0),(12,.sl 3 Am u),(13,.ptr 13 0),(23,.clo (.func 234) [] [.ptr 13 0]),(25,.sl 1 Aa peers),(100,.sl 1 Aa ports),(101,Aa ports.length),(102,Aa j)])
  (fun j=>[(13,.box [.osl 1000]),(1000,.row 9 Bi ((ports.take j).map (Hc n dom q.frame)))]) [(13,13),(1000,1000)] ⟨⟨rfl,rfl,rfl,rfl,rfl,rfl,rfl,rfl,rfl,rfl,rfl,rfl,rfl,rfl,rfl,rfl,rfl,rfl,rfl,rfl,trivial⟩,⟨.inl rfl,rfl,.inl rfl,rfl,trivial⟩,rfl,rfl⟩ ?_
 intro j hj
 refine oO ?_
 refine⟨fun h=>?_,fun h=>?_⟩
 ·have hlt:j<ports.length:=qA h
  have hj0:((j:Nat):Int).toNat<ports.length:=by simpa using hlt
  obtain ⟨p,hp⟩:∃ p,ports[j]=p:=⟨_,rfl⟩
  have e1:ports[((j:Nat):Int).toNat]'hj0=p:=hp
  have hs:(ports.take (j+1)).map (Hc n dom q.frame)=(ports.take j).map (Hc n dom q.frame)++[Hc n dom q.frame p]:=by
   rw[List.take_succ_eq_append_getElem hlt,List.map_append,hp];rfl
  have hal:((ports.take j).map (Hc n dom q.frame)).length=j:=by rw[List.length_map,List.length_take];omega
  have hpi:=hports p (by rw[← hp];exact List.getElem_mem hlt)
  have hpk:p.toNat<n.ports.length:=by omega
  have ql:=Ar3 n hn p dom q.frame hq.frame
  have hop:Hc n dom q.frame p=Ef (Ki (if (nth n.ports p).link<0 then 1 else 2) p 0) ((leaveT n p dom q.frame).1,(leaveT n p dom q.frame).2):=rfl
  rw[hop,Ag hpk]at hs
  clear hop
  obtain ⟨acc,hacc⟩:∃ acc,(ports.take j).map (Hc n dom q.frame)=acc:=⟨_,rfl⟩
  rw[hacc]at hs hal ⊢
  obtain ⟨x,hx⟩:∃ x,n.ports[p.toNat]'hpk=x:=⟨_,rfl⟩
  rw[hx]at hs
  clear h
  refine oO ?_
  refine⟨E,by omega,hj0,?_⟩
  rw[e1]
  conv=>whnf
  refine⟨E,hpi.1,hpk,?_⟩
  rw[hx]
  conv=>whnf
  refine⟨fun h=>?_,fun h=>?_⟩
  ·rw[if_neg (qA h)]at hs
   refine oO ?_
   refine c0 ql F236 ?_
   refine oO ?_
   refine Ae (Ih [(0,13),(1,1000),(2,1001)] [] (Df E E F234) (U7 acc 2 p 0 (leaveT n p dom q.frame).1 (leaveT n p dom q.frame).2 qn) (.cons (.agg (.cons (.refl _) (.cons (.refl _) (.cons (.refl _) (.cons .nil (.cons (.refl _) (.cons (.refl _) (.cons (.refl _) (.cons .nil (.cons (.refl _) .nil)))))))))) (.cons (.refl _) (.cons (.refl _) (.cons (.refl _) .nil)))) ⟨E,E,Y⟩ E ⟨.inl E,.inl E,.inr E,Y⟩ E) E E ?_
   refine oO ?_
   refine iW ?_
   exact An [(13,13),(1000,1001)] hlt ⟨⟨E,E,E,E,E,E,E,E,E,E,E,E,E,E,E,E,E,E,E,E,Y⟩,⟨.inl E,E,.inl (congrArg (Ob.row 9 Bi) hs),E,Y⟩,E,E⟩
  ·rw[if_pos (qB h)]at hs
   refine oO ?_
   refine c0 ql F236 ?_
   refine oO ?_
   refine Ae (Ih [(0,13),(1,1000),(2,1001)] [] (Df E E F234) (U7 acc 1 p 0 (leaveT n p dom q.frame).1 (leaveT n p dom q.frame).2 qn) (.cons (.agg (.cons (.refl _) (.cons (.refl _) (.cons (.refl _) (.cons .nil (.cons (.refl _) (.cons (.refl _) (.cons (.refl _) (.cons .nil (.cons (.refl _) .nil)))))))))) (.cons (.refl _) (.cons (.refl _) (.cons (.refl _) .nil)))) ⟨E,E,Y⟩ E ⟨.inl E,.inl E,.inr E,Y⟩ E) E E ?_
   refine oO ?_
   refine iW ?_
   exact An [(13,13),(1000,1001)] hlt ⟨⟨E,E,E,E,E,E,E,E,E,E,E,E,E,E,E,E,E,E,E,E,Y⟩,⟨.inl E,E,.inl (congrArg (Ob.row 9 Bi) hs),E,Y⟩,E,E⟩
 have hjj:j=ports.length:=qB h
 subst hjj
 clear h
 rw[List.take_length]
 obtain ⟨acc0,hacc0⟩:∃ acc0,ports.map (Hc n dom q.frame)=acc0:=⟨_,rfl⟩
 have hal0:acc0.length=ports.length:=by rw[← hacc0,List.length_map]
 rw[hacc0]at hres ⊢
 refine oO ?_
 refine Aq peers.length (fun j=>[(3,Aa dom),(6,.ref 8 (Aj n) 0),(10,.ref 7 (Ay q) 0),(12,.sl 3 Am u),(13,.ptr 13 0),(23,.clo (.func 234) [] [.ptr 13 0]),(130,.sl 1 Aa peers),(131,Aa peers.length),(132,Aa j)])
  (fun j=>[(13,.box [.osl 1000]),(1000,.row 9 Bi (acc0++(peers.take j).map (Im n dom q.frame)))]) [(13,13),(1000,1000)] ⟨⟨rfl,rfl,rfl,rfl,rfl,rfl,rfl,rfl,rfl,rfl,rfl,rfl,rfl,rfl,rfl,rfl,rfl,rfl,trivial⟩,⟨.inl rfl,rfl,.inl (congrArg (Ob.row 9 Bi) qz),rfl,trivial⟩,rfl,rfl⟩ ?_
 intro j hj
 refine oO ?_
 refine⟨fun h=>?_,fun h=>?_⟩
 ·have hlt:j<peers.length:=qA h
  have hj0:((j:Nat):Int).toNat<peers.length:=by simpa using hlt
  obtain ⟨p,hp⟩:∃ p,peers[j]=p:=⟨_,rfl⟩
  have e1:peers[((j:Nat):Int).toNat]'hj0=p:=hp
  have hs:acc0++(peers.take (j+1)).map (Im n dom q.frame)=(acc0++(peers.take j).map (Im n dom q.frame))++[Im n dom q.frame p]:=by
   rw[List.take_succ_eq_append_getElem hlt,List.map_append,hp,List.append_assoc];rfl
  have hal:(acc0++(peers.take j).map (Im n dom q.frame)).length≤ports.length+j:=by rw[List.length_append,List.length_map,List.length_take];omega
  have ql:=Ak7 n hn hm0 dom p q.frame hq.frame
  have hop:Im n dom q.frame p=Ef (Ki 3 0 p) ((meshT n dom p q.frame).1,(meshT n dom p q.frame).2):=rfl
  rw[hop]at hs
  clear hop
  obtain ⟨acc,hacc⟩:∃ acc,acc0++(peers.take j).map (Im n dom q.frame)=acc:=⟨_,rfl⟩
  rw[hacc]at hs hal ⊢
  clear h
  refine oO ?_
  refine⟨E,by omega,hj0,?_⟩
  rw[e1]
  conv=>whnf
  refine c0 ql F237 ?_
  refine oO ?_
  refine Ae (Ih [(0,13),(1,1000),(2,1001)] [] (Df E E F234) (U7 acc 3 0 p (meshT n dom p q.frame).1 (meshT n dom p q.frame).2 qn) (.cons (.agg (.cons (.refl _) (.cons (.refl _) (.cons (.refl _) (.cons .nil (.cons (.refl _) (.cons (.refl _) (.cons (.refl _) (.cons .nil (.cons (.refl _) .nil)))))))))) (.cons (.refl _) (.cons (.refl _) (.cons (.refl _) .nil)))) ⟨E,E,Y⟩ E ⟨.inl E,.inl E,.inr E,Y⟩ E) E E ?_
  refine oO ?_
  refine iW ?_
  exact An [(13,13),(1000,1001)] hlt ⟨⟨E,E,E,E,E,E,E,E,E,E,E,E,E,E,E,E,E,E,Y⟩,⟨.inl E,E,.inl (congrArg (Ob.row 9 Bi) hs),E,Y⟩,E,E⟩
 have hjj:j=peers.length:=qB h
 subst hjj
 clear h
 rw[List.take_length]
 subst hres
 refine oO ?_
 refine kW ?_
 refine Ap 1000 E ?_
 exact dN
theorem Iu {l:List QueuedM} (h:Es l):l.length<1000000∧Su l:=⟨by have:=h.1;omega,fun q hq=>by have:=(h.2 q hq).frame.body;omega⟩
theorem Lu {α:Type} {l:List α} {i:Nat} (h:i<l.length) (d:α):(l[i]?).getD d=l[i]:=by
 rw[List.getElem?_eq_getElem h];rfl
theorem placeB_iff {d:Int} {k:Nat}:Ak d k=true↔0≤d∧d.toNat<k:=by
 simp only[Ak,Bool.and_eq_true,decide_eq_true_eq];omega
theorem An0 (n:Net) (m:MacM) (d:Bool) (dom:Int) (hl:Es (queueL m dom)) :
  Sy.Spec Tryz.prog 54 [.ptr 0 0,Aa dom] (Dk n m d) (.sl 7 Ay (if Ak dom m.queues.length then queueL m dom else [])) (Dk n m d):=cT F54 Tryz.ntmps54 fun F hF=>by
 have h1:=Aml n m d dom
 have hpl:=placeB_iff (d:=dom) (k:=m.queues.length)
 generalize Ak dom m.queues.length=b at *
 have hb:=Iu hl
 have h2:=Aav _ (-1) hb.1 hb.2
 have h3:takeT (queueL m dom) (-1)=(noQ,queueL m dom,false):=by rw[takeT];exact if_pos (.inl qy)
 rw[h3]at h2
 clear h3 hb hl
 have hres:=queueL.eq_1 m dom
 generalize queueL m dom=res at *
 conv=>whnf
 refine Ae (Ah [] E F119 h1 E ⟨E,E,E,E,Y⟩ E ⟨.inl E,.inl E,.inl E,.inl E,Y⟩) E E ?_
 refine oO ?_
 cases b
 ·(refine⟨fun _=>?_,fun h=>False.elim (absurd h qy)⟩;refine rg ?_;conv=>whnf)
  refine Ai 4 7 Ay E ?_
  exact done E (.cons .tmp .nil) [] (Dk n m d) (fun _ h=>h) E E ⟨Y,⟨.inl E,E,.inl E,E,.inl E,E,.inl E,E,Y⟩,E,E⟩
 have hd:=hpl.1 rfl
 have hlt:dom.toNat<m.queues.length:=hd.2
 rw[Lu hlt]at hres
 subst hres
 (refine⟨fun h=>False.elim (absurd h qy),fun _=>?_⟩;refine rg ?_;conv=>whnf)
 refine⟨hd.1,by omega,?_⟩
 conv=>whnf
 refine⟨E,hlt,?_⟩
 conv=>whnf
 refine c0 h2 F120 ?_
 refine oO ?_
 exact done E (.cons .tmp .nil) [] (Dk n m d) (fun _ h=>h) E E ⟨Y,⟨.inl E,E,.inl E,E,.inl E,E,.inl E,E,Y⟩,E,E⟩
def H4 (m:MacM):Prop:=∀ i,0≤m.drops i∧m.drops i≤1000000000000
theorem Vg (n:Net) (m:MacM) (d:Bool) (dom:Int) (q:QueuedM) (e:Int) (he:0≤e∧e<64) (hd:e=0→0≤dom∧dom.toNat<m.queues.length) (hb:H4 m) (hl:Es (queueL m dom)) (hq:QueuedOK q) :
  Sy.Spec Tryz.prog 173 [.ptr 0 0,Aa dom,Ay q,Aa e] (Dk n m d) (.tup []) (Dk n (comeM m dom q e) d):=cT F173 Tryz.ntmps173 fun F hF=>by
 have hqb:=Iu hl
 have hp:=Ahi _ q hqb.1 hqb.2 (by have:=hq.frame.body;omega)
 have h1:=Aiw n m d e he.1 he.2 (hb _)
 have h3:=Aiw n m d 3 qy qy (hb _)
 have hres:=comeM.eq_1 m dom q e
 generalize comeM m dom q e=res at *
 conv=>whnf
 refine⟨fun h=>?_,fun h=>?_⟩
 ·rw[if_pos (by simpa using h)]at hres
  subst hres
  refine oO ?_
  refine Ae (Ah [] E F176 h1 E ⟨E,E,E,E,Y⟩ E ⟨.inl E,.inl E,.inl E,.inl E,Y⟩) E E ?_
  refine oO ?_
  exact done E .nil [] (Dk n (Bf m e) d) (fun _ h=>h) E E ⟨Y,⟨.inl E,E,.inl E,E,.inl E,E,.inl E,E,Y⟩,E,E⟩
 have h0:e=0:=by simpa using h
 have hd:=hd h0
 rw[if_neg (by rw[h0];decide)]at hres
 clear h hqb h1 hl he
 have hq0:=queueL.eq_1 m dom
 rw[Lu hd.2]at hq0
 generalize queueL m dom=l at *
 generalize pushT l q=r at *
 obtain ⟨l2,ok⟩:=r
 subst hq0
 refine oO ?_
 refine⟨hd.1,hd.2,?_⟩
 conv=>whnf
 refine⟨E,hd.2,?_⟩
 conv=>whnf
 refine cD hp F228 ?_
 refine oD ?_
 refine kW ?_
 cases ok
 ·rw[if_neg qz]at hres
  subst hres
  (refine⟨fun _=>?_,fun h=>False.elim (by simp at h)⟩;refine rg ?_;conv=>whnf)
  refine Ae (Ah [] E F176 h3 E ⟨E,E,E,E,Y⟩ E ⟨.inl E,.inl E,.inl E,.inl E,Y⟩) E E ?_
  refine oO ?_
  exact done E .nil [] (Dk n (Bf m 3) d) (fun _ h=>h) E E ⟨Y,⟨.inl E,E,.inl E,E,.inl E,E,.inl E,E,Y⟩,E,E⟩
 ·rw[if_pos rfl]at hres
  subst hres
  (refine⟨fun h=>False.elim (by simp at h),fun _=>?_⟩;refine rg ?_;conv=>whnf)
  refine⟨hd.1,hd.2,?_⟩
  conv=>whnf
  refine⟨E,hd.2,l2,E,E,?_⟩
  conv=>whnf
  exact Bg E .nil [] (Dk n (Ags m dom l2) d) (fun _ h=>h) E E ⟨Y,⟨.inl E,E,.inl E,E,.inl E,E,.inl E,E,Y⟩,E,E⟩
theorem Agp (n:Net) (m:MacM) (d:Bool) (dom at_:Int) (hl:Es (queueL m dom)) :
  Sy.Spec Tryz.prog 116 [.ptr 0 0,Aa dom,Aa at_] (Dk n m d) (.tup [Ay (takeM m dom at_).2.1,Ab (takeM m dom at_).2.2]) (Dk n (takeM m dom at_).1 d):=cT F116 Tryz.ntmps116 fun F hF=>by
 have hqb:=Iu hl
 have hp:=Aav _ at_ hqb.1 hqb.2
 have h1:=Aml n m d dom
 have hpl:=placeB_iff (d:=dom) (k:=m.queues.length)
 have hres:=takeM.eq_1 m dom at_
 generalize takeM m dom at_=res at *
 generalize Ak dom m.queues.length=b at *
 have hq0:=queueL.eq_1 m dom
 clear hl hqb
 generalize queueL m dom=l at *
 generalize takeT l at_=r at *
 obtain ⟨q,l2,ok⟩:=r
 conv=>whnf
 refine Ae (Ah [] E F119 h1 E ⟨E,E,E,E,Y⟩ E ⟨.inl E,.inl E,.inl E,.inl E,Y⟩) E E ?_
 refine oO ?_
 cases b
 ·rw[if_pos rfl]at hres
  subst hres
  (refine⟨fun _=>?_,fun h=>False.elim (absurd h qy)⟩;refine rg ?_;conv=>whnf)
  refine Ar 6 [Aa 0,Aa 0,Aa 0,Aw 0,Aw 0,Aa 0,.sl 1 Af []] E (.cons (.refl _) (.cons (.refl _) (.cons (.refl _) (.cons (.refl _) (.cons (.refl _) (.cons (.refl _) (.cons .nil .nil))))))) ?_
  exact done E (.cons (.cell E E E E) (.cons .tmp .nil)) [] (Dk n m d) (fun _ h=>h) E E ⟨Y,⟨.inl E,E,.inl E,E,.inl E,E,.inl E,E,Y⟩,E,E⟩
 have hd:=hpl.1 rfl
 rw[Lu hd.2]at hq0
 subst hq0
 rw[if_neg qz]at hres
 subst hres
 (refine⟨fun h=>False.elim (absurd h qy),fun _=>?_⟩;refine rg ?_;conv=>whnf)
 refine⟨hd.1,hd.2,?_⟩
 conv=>whnf
 refine⟨E,hd.2,?_⟩
 conv=>whnf
 refine c0 hp F120 ?_
 refine oO ?_
 refine⟨hd.1,hd.2,?_⟩
 conv=>whnf
 refine⟨E,hd.2,l2,E,E,?_⟩
 conv=>whnf
 exact done E (.cons (.cell E E E E) (.cons .tmp .nil)) [] (Dk n (Ags m dom l2) d) (fun _ h=>h) E E ⟨Y,⟨.inl E,E,.inl E,E,.inl E,E,.inl E,E,Y⟩,E,E⟩
theorem Ajt (n:Net) (hn:n.Fin) (m:MacM) (d:Bool) (J D:Int) (hm0:MacOK n m J D) (hJ:J<1000000000000) (hD:D≤1000000000000) (port:Int) (b:List UInt8) (hb:b.length<100000) :
  Sy.Spec Tryz.prog 114 [.ptr 0 0,Aa port,.sl 1 Af b] (Dk n m d) (.tup []) (Dk n (injectT n m port b) d):=cT F114 Tryz.ntmps114 fun F hF=>by
 have hres:=injectT.eq_1 n m port b
 generalize injectT n m port b=res at *
 have hpl:=placeB_iff (d:=port) (k:=n.ports.length)
 have hinj:=hm0.inj
 have hok:MacOK n ⟨m.up,m.tables,m.queues,m.now,m.injected+1,m.drops⟩ (J+1) D:=⟨hm0.up,hm0.tabs,hm0.ques,hm0.tab,hm0.que,hm0.now,⟨by dsimp only;omega,by dsimp only;omega⟩,hm0.drp⟩
 have hdr:H4 ⟨m.up,m.tables,m.queues,m.now,m.injected+1,m.drops⟩:=fun i=>⟨(hm0.drp i).1,by have:=(hm0.drp i).2;dsimp only at *;omega⟩
 have he:=Ux n port b
 have hdom:=Uy (n:=n) (port:=port) (b:=b)
 have q1:=Aiq n hn port b hb
 have hfr:=Ta n port b
 generalize enterT n port b=r at *
 have q2:=fun (hp:0≤port∧port.toNat<n.ports.length)=>Vg n ⟨m.up,m.tables,m.queues,m.now,m.injected+1,m.drops⟩ d r.1 ⟨port,0,m.injected+1,r.2.1⟩ r.2.2 ⟨he.1,by have:=he.2;omega⟩ (fun h=>by
  have:=hdom h
  exact⟨this.1,by show r.1.toNat<m.queues.length;rw[hm0.ques];exact this.2⟩) hdr (Cn hok _) (Dv hfr _ ⟨by omega,by have:=hn.ports;unfold Al at this;omega⟩ qy)
 conv=>whnf
 refine⟨fun h=>?_,fun h=>?_⟩
 ·have h:=of_decide_eq_true h
  rw[if_pos (.inl (by cases hx:Ak port n.ports.length;rfl;exact absurd (hpl.1 hx) qn))]at hres
  subst hres
  (refine oT ?_;refine bT ?_)
  (skip)
  exact done E .nil [] (Dk n res d) (fun _ h=>h) E E ⟨Y,⟨.inl E,E,.inl E,E,.inl E,E,.inl E,E,Y⟩,E,E⟩
 have h0:=of_decide_eq_false h
 clear h
 refine oO ?_
 refine⟨fun h=>?_,fun h=>?_⟩
 ·have h:=of_decide_eq_true h
  rw[if_pos (.inl (by cases hx:Ak port n.ports.length;rfl;exact absurd (hpl.1 hx) qn))]at hres
  subst hres
  refine oT ?_
  (skip)
  exact done E .nil [] (Dk n res d) (fun _ h=>h) E E ⟨Y,⟨.inl E,E,.inl E,E,.inl E,E,.inl E,E,Y⟩,E,E⟩
 have h1:=of_decide_eq_false h
 clear h
 have hp:0≤port∧port.toNat<n.ports.length:=by omega
 rw[hpl.2 hp,Ag hp.2]at hres
 obtain ⟨p,hpp⟩:∃ p,n.ports[port.toNat]'hp.2=p:=⟨_,rfl⟩
 rw[hpp]at hres
 refine oO ?_
 refine⟨E,hp.1,hp.2,?_⟩
 rw[hpp]
 conv=>whnf
 refine⟨fun h=>?_,fun h=>?_⟩
 ·have h:=of_decide_eq_true h
  rw[if_pos (.inr h)]at hres
  subst hres
  refine oO ?_
  exact done E .nil [] (Dk n res d) (fun _ h=>h) E E ⟨Y,⟨.inl E,E,.inl E,E,.inl E,E,.inl E,E,Y⟩,E,E⟩
 have h2:=of_decide_eq_false h
 clear h
 rw[if_neg (by simp;omega)]at hres
 subst hres
 refine oO ?_
 refine iW ?_
 refine c0 q1 F172 ?_
 refine oO ?_
 refine Bb (Ah [] E F173 (q2 hp) E ⟨E,E,E,E,Y⟩ E ⟨.inl E,.inl E,.inl E,.inl E,Y⟩) qq E ?_
 refine oD ?_
 refine kW ?_
 refine Bg E .nil [] (Dk n (comeM _ _ _ _) d) (fun _ h=>h) E E ⟨Y,⟨.inl E,E,.inl E,E,.inl E,E,.inl E,E,Y⟩,E,E⟩
theorem Z7 (n:Net) (hn:n.Fin) (m:MacM) (d:Bool) (J D:Int) (hm0:MacOK n m J D) (hD:D≤1000000000000) (o:OutM) (ho:OutOK n o) (origin:Int) :
  Sy.Spec Tryz.prog 177 [.ptr 0 0,Bi o,Aa origin] (Dk n m d) (.sl 3 B3 (goesM n m o origin).2) (Dk n (goesM n m o origin).1 d):=cT F177 Tryz.ntmps177 fun F hF=>by
 have hres:=goesM.eq_1 n m o origin
 generalize goesM n m o origin=res at *
 have hdr:H4 m:=fun i=>⟨(hm0.drp i).1,by have:=(hm0.drp i).2;omega⟩
 have hbl:o.bytes.length<100000:=by have:=ho.bytes;omega
 have hin:∀ {x:Int},DomIn n x→0≤x∧x.toNat<m.queues.length:=fun h=>by rw[hm0.ques];exact h
 conv=>whnf
 refine⟨fun h=>?_,fun h=>?_⟩
 ·have h1:o.kind=1:=by simpa using h
  rw[if_pos h1]at hres
  subst hres
  refine oO ?_
  refine Ec 34 B3 [⟨o.port,origin,o.bytes⟩] E E ?_
  refine Ap 34 E ?_
  exact done E (.cons .tmp .nil) [] (Dk n m d) (fun _ h=>h) E E ⟨Y,⟨.inl E,E,.inl E,E,.inl E,E,.inl E,E,Y⟩,E,E⟩
 have h1:¬ o.kind=1:=by simpa using h
 rw[if_neg h1]at hres
 clear h
 refine oO ?_
 refine⟨fun h=>?_,fun h=>?_⟩
 ·have h2:o.kind=2:=by simpa using h
  rw[if_pos h2]at hres
  have q1:=Ak8 n hn o.port o.bytes hbl
  have he:=Adi n o.port o.bytes
  have hd:=fun h=>hin (Adj (n:=n) (port:=o.port) (b:=o.bytes) h)
  have hf:=Aa5 n o.port o.bytes
  have ht:=Aa4 hn o.port o.bytes
  generalize linkT n o.port o.bytes=r at *
  have q2:=Vg n m d r.2.1 ⟨r.1,0,origin,r.2.2.1⟩ r.2.2.2 he hd hdr (Cn hm0 _) (Dv hf _ qn qy)
  subst hres
  refine oO ?_
  refine cD q1 F241 ?_
  refine oD ?_
  refine kW ?_
  refine kW ?_
  refine Ae (Ah [] E F173 q2 E ⟨E,E,E,E,Y⟩ E ⟨.inl E,.inl E,.inl E,.inl E,Y⟩) E E ?_
  refine oO ?_
  refine Ai 6 3 B3 E ?_
  exact done E (.cons .tmp .nil) [] (Dk n (comeM _ _ _ _) d) (fun _ h=>h) E E ⟨Y,⟨.inl E,E,.inl E,E,.inl E,E,.inl E,E,Y⟩,E,E⟩
 have h2:¬ o.kind=2:=by simpa using h
 rw[if_neg h2]at hres
 clear h
 refine oO ?_
 refine⟨fun h=>?_,fun h=>?_⟩
 ·have h2:o.kind=3:=by simpa using h
  rw[if_pos h2]at hres
  have q1:=Ak9 n hn o.bytes hbl
  have he:=Ad4 n o.bytes
  have hd:=fun h=>hin (X3 (n:=n) (b:=o.bytes) h).2
  have hf:=Ab2 n o.bytes
  have ht:=U6 hn o.bytes
  generalize comeT n o.bytes=r at *
  have q2:=Vg n m d r.2.1 ⟨-1,r.1,origin,r.2.2.1⟩ r.2.2.2 he hd hdr (Cn hm0 _) (Dv hf _ qy ht)
  subst hres
  refine oO ?_
  refine cD q1 F242 ?_
  refine oD ?_
  refine kW ?_
  refine kW ?_
  refine Ae (Ah [] E F173 q2 E ⟨E,E,E,E,Y⟩ E ⟨.inl E,.inl E,.inl E,.inl E,Y⟩) E E ?_
  refine oO ?_
  refine Ai 6 3 B3 E ?_
  exact done E (.cons .tmp .nil) [] (Dk n (comeM _ _ _ _) d) (fun _ h=>h) E E ⟨Y,⟨.inl E,E,.inl E,E,.inl E,E,.inl E,E,Y⟩,E,E⟩
 have h3:¬ o.kind=3:=by simpa using h
 rw[if_neg h3]at hres
 clear h
 refine oO ?_
 refine⟨fun h=>?_,fun h=>?_⟩
 ·have h4:o.kind=4:=by simpa using h
  rw[if_pos h4]at hres
  have hf:=ho.frame h4
  have q2:=Vg n m d o.domain ⟨-2,0,origin,o.frame⟩ 0 qy (fun _=>hin hf.2) hdr (Cn hm0 _) (Dv hf.1 _ qy qy)
  subst hres
  refine oO ?_
  refine Ae (Ah [] E F173 q2 E ⟨E,E,E,E,Y⟩ E ⟨.inl E,.inl E,.inl E,.inl E,Y⟩) E E ?_
  refine oO ?_
  refine Ai 6 3 B3 E ?_
  exact done E (.cons .tmp .nil) [] (Dk n (comeM _ _ _ _) d) (fun _ h=>h) E E ⟨Y,⟨.inl E,E,.inl E,E,.inl E,E,.inl E,E,Y⟩,E,E⟩
 have h4:¬ o.kind=4:=by simpa using h
 rw[if_neg h4]at hres
 have h5:o.kind=5:=by have:=ho.kind;omega
 have he:=ho.err h5
 have q2:=Aiw n m d o.error he.1 he.2 (hdr _)
 subst hres
 clear h
 refine oO ?_
 refine Ae (Ah [] E F176 q2 E ⟨E,E,E,E,Y⟩ E ⟨.inl E,.inl E,.inl E,.inl E,Y⟩) E E ?_
 refine oO ?_
 refine Ai 6 3 B3 E ?_
 exact done E (.cons .tmp .nil) [] (Dk n (Bf m o.error) d) (fun _ h=>h) E E ⟨Y,⟨.inl E,E,.inl E,E,.inl E,E,.inl E,E,Y⟩,E,E⟩
def Ahq (up:List Bool) (dn lk:Int) (fw:List Bool):List SV:=[.sl 1 Ab up,.val (.int .u32 dn),.val (.int .i32 lk),.val (.int .u32 0),.sl 1 Ab fw]
def Tl (n:Net) (up:List Bool) (dn lk:Int) (fw:List Bool):Obs:=[(1,.box (Ahq up dn lk fw)),(2,.box [.ptr 1 0]),(3,.box (Ao7 n))]
theorem Ao6 (n:Net) (hn:n.Fin) (up fw:List Bool) (dn lk:Int) :
  Sy.Spec Tryz.prog 239 [.ptr 3 0,.ptr 2 0] (Tl n up dn lk fw) (.tup []) (Tl n up dn lk (I3 n up)):=cT F239 Tryz.ntmps239 fun F hF=>by
 have hf:∃ e,Sy.Spec Tryz.prog 112 [Aj n,.sl 1 Ab up] [] (.tup [.sl 1 Ab (I3 n up),Aa e]) []:=by
  unfold I3
  split
  ·rename_i h;exact⟨0,Adx n up hn h⟩
  ·rename_i h;exact⟨2,Abs n up hn (by simpa using h)⟩
 obtain ⟨e,hf⟩:=hf
 generalize I3 n up=r at *
 conv=>whnf
 refine cD hf F112 ?_
 refine oD ?_
 refine kW ?_
 exact Bg E .nil [] (Tl n up dn lk r) (fun _ h=>h) E E ⟨Y,⟨.inl E,E,.inl E,E,.inl E,E,Y⟩,E,E⟩
theorem Ar1 (a:Addr) (x:Int) (w:World) (hc:w.cell? a=some (.int .u32 x)):(callFunc 353 #[.pointer (some a)]).run Tryz.prog w=.ok (.value (.int .u32 x)) w :=
 run_call_load Tryz.func353 qq qq qq .u32 qq hc
theorem Adf (n:Net) (up fw:List Bool) (dn lk:Int):Sy.Spec Tryz.prog 305 [.ptr 1 1] (Tl n up dn lk fw) (Ab (dn != 0)) (Tl n up dn lk fw):=cT F305 Tryz.ntmps305 fun F hF=>by
 conv=>whnf
 refine Ae (Acw Ar1 E E E E) E E ?_
 refine oO ?_
 exact done E (.cons .tmp .nil) [] (Tl n up dn lk fw) (fun _ h=>h) E E ⟨Y,⟨.inl E,E,.inl E,E,.inl E,E,Y⟩,E,E⟩
theorem Vs (w:World):(callFunc 388 #[]).run Tryz.prog w=.ok (.value (.tuple #[])) w:=run_call_mark0 Tryz.func388 qq qq qq .disable qq w
theorem Yh (w:World):(callFunc 390 #[]).run Tryz.prog w=.ok (.value (.tuple #[])) w:=run_call_mark0 Tryz.func390 qq qq qq .enable qq w
theorem Ae0 (a:Addr) (w:World):(callFunc 391 #[.pointer (some a)]).run Tryz.prog w=.ok (.value (.tuple #[])) w:=run_call_marked Tryz.func391 qq qq qq .acquire qq a w
theorem Aez (a:Addr) (w:World):(callFunc 393 #[.pointer (some a)]).run Tryz.prog w=.ok (.value (.tuple #[])) w:=run_call_marked Tryz.func393 qq qq qq .releaseMerge qq a w
theorem Z3 (a:Addr) (x:Value) (u:FrameMode) (w:World) (hc:w.cell? a=some x) (hz:w.frozen? a=false) :
  CallsD Tryz.prog 356 #[.pointer (some a),.bool true] u w fun e u' w'=>u'=u∧(e=.returned (.tuple #[])∧w'=w.drew.setCell a (.int .u32 1)):=by
 have hc':w.drew.cell? a=some x:=by go_simp
 have hz':w.drew.frozen? a=false:=by go_simp
 have hst:=run_call_store (P:=Tryz.prog) Tryz.func378 qq qq qq qq (k:=.u32) (y:=1) hc' hz'
 go_enter_d Tryz.func356,Tryz.ntmps356
 go_wp2
 go_region_calls
 all_goals (go_end0;exact⟨rfl,rfl⟩)
theorem Y6 (a:Addr) (u:FrameMode) (w:World) (hc:w.cell? a=some (.int .i32 1)) (hz:w.frozen? a=false) :
  CallsD Tryz.prog 355 #[.pointer (some a)] u w fun e u' w'=>u'=u∧(e=.returned (.tuple #[])∧w'=w.setCell a (.int .i32 0)):=by
 have hd:=Vs
 have he:=Yh
 have hr:=Aez
 have hadd:=run_call_add (P:=Tryz.prog) Tryz.func394 qq qq qq .i32 qq (y:=-1) (s:=0) hc hz (by simp[go_sem];rfl)
 have hcv:=run_convert_to_unsafe (P:=Tryz.prog) (src:=503) (dst:=507) Tryz.underlying503 Tryz.underlying507 qq hc
 go_enter_d Tryz.func355,Tryz.ntmps355
 go_wp2
 go_end0
 go_wp2
 go_end0
 exact⟨E,E⟩
theorem Apc (a:Addr) (w:World) (hc:w.cell? a=some (.int .i32 0)) (hz:w.frozen? a=false) :
  Calls Tryz.prog 354 #[.pointer (some a)] w fun e w'=>e=.returned (.tuple #[])∧w'=w.setCell a (.int .i32 1):=by
 have hd:=Vs
 have he:=Yh
 have ha:=Ae0
 have hcas:=run_call_cas_hit (P:=Tryz.prog) Tryz.func389 qq qq qq .i32 qq (y:=1) hc hz
 have hc':(w.setCell a (.int .i32 1)).cell? a=some (.int .i32 1):=World.cell?_setCell_same w a _ hc
 have hcv:=run_convert_to_unsafe (P:=Tryz.prog) (src:=503) (dst:=507) Tryz.underlying503 Tryz.underlying507 qq hc'
 go_enter Tryz.func354,Tryz.ntmps354
 go_wp2
 first | go_end0 | (simp only[Exit.inBlock,Exit.then];refine bodyPost_ret (results_none rfl _ _ _) rfl ?_) | refine bodyPost_ret (results_none rfl _ _ _) rfl ?_
 go_wp2
 go_end0
 exact⟨E,E⟩
end Go.Sy.YteinjapglfkamaaGreat
namespace Go.Sy.YteinjapglfkamaaGreat
open Go.Proofs
set_option maxRecDepth 100000
set_option maxHeartbeats 4000000
theorem Ctx.behind {K:Nat→Prop} {κ κ2:Ka} {w w1 w2:World} (s:Step K κ w κ w1) (c:Ctx ⟨w1,κ⟩ κ2 w2):Ctx ⟨w,κ⟩ κ2 w2 where
 size:=Nat.le_trans s.size c.size
 os:=c.os.trans s.os
 tape:=c.tape.trans s.tape
 output:=c.output.trans s.output
 M:=c.M
 old:=fun b hb h=>by
  refine(c.old b (Nat.lt_of_lt_of_le hb s.size) h).trans ?_
  by_cases hm:κ.M b
  ·exact s.mkeep b hm
  ·exact s.blk b hb (fun ho=>by
    rcases ho with ⟨k,hk⟩ | ho
    ·exact h k hk
    ·exact hm ho)
 own:=fun k b hk=>by
  rcases c.own k b hk with h | h
  ·exact .inl (Nat.le_trans s.size h)
  ·exact .inr h
 nam:=c.nam
theorem Apr {κ:Ka} {w:World} (hi:Inv κ w):Step (fun _=>False) κ w κ w.drew∧Inv κ w.drew:=by
 have g:=Grew.drew w
 exact⟨⟨g.size,g.os,g.tape,g.output,E,fun b _=>rfl,fun b _ _=>rfl,fun _ _ _ _=>rfl,fun _ _=>rfl,fun _ h=>h.elim,fun _ h=>.inl h⟩,⟨hi.inj,hi.bnd,hi.apart,hi.mbnd⟩⟩
theorem Ao5 (n:Net) (hn:n.Fin) (up fw:List Bool) :
  Sy.Spec Tryz.prog 306 [.ptr 1 1,.clo (.func 239) [] [.ptr 3 0,.ptr 2 0]] (Tl n up 0 0 fw) (.tup []) (Tl n up 1 0 (I3 n up)):=by
 intro κ w vs hi hnew hvs hok
 have o1:=hok (1,.box (Ahq up 0 0 fw)) (by simp[Tl])
 have o2:=hok (2,.box [.ptr 1 0]) (by simp[Tl])
 have o3:=hok (3,.box (Ao7 n)) (by simp[Tl])
 obtain ⟨b,e1,c1,c2,st1,inv1,ob1⟩:=J1 (off:=2) (x:=.val (.int .i32 1)) (v:=.int .i32 1) hi o1 rfl (fun _ _=>by simp only[Rd]) rfl
 obtain ⟨b2,_,_,_,e2,_⟩:=id o2
 obtain ⟨b3,_,_,_,e3,_⟩:=id o3
 simp only[RdL,Rd,e1,e2,e3]at hvs
 obtain ⟨v0,r0,rfl,rfl,v1,r1,rfl,⟨fs,cs,rfl,hfs,hcs⟩,rfl⟩:=hvs
 subst hfs
 obtain ⟨p3,q3,rfl,rfl,p2,q2,rfl,rfl,rfl⟩:=hcs
 have hcl:=Ao6 n hn up fw 0 1 κ (w.setCell ⟨b,2,none⟩ (.int .i32 1)) [.pointer (some ⟨b3,0,none⟩),.pointer (some ⟨b2,0,none⟩)] inv1 hnew (by simp only[RdL,Rd,e2,e3];exact⟨_,_,rfl,rfl,_,_,rfl,rfl,rfl⟩) (fun p hp=>by
  simp only[Tl,List.mem_cons,List.not_mem_nil,or_false]at hp
  rcases hp with rfl | rfl | rfl
  ·exact ob1
  ·exact ObOK.step st1 (show ¬ (2:Nat)=1 by decide) _ o2
  ·exact ObOK.step st1 (show ¬ (3:Nat)=1 by decide) _ o3)
 obtain ⟨u1,hu1,hr1⟩:=c1 1 (.val (.int .u32 0)) rfl
 obtain ⟨u2,hu2,hr2⟩:=c1 2 (.val (.int .i32 0)) rfl
 rw[hr1.val]at hu1
 rw[hr2.val]at hu2
 have f1:=c2 1 (show 1<5 by decide)
 have f2:=c2 2 (show 2<5 by decide)
 have hl:=Ar1 ⟨b,1,none⟩ 0 (w.setCell ⟨b,2,none⟩ (.int .i32 1)) ((World.cell?_setCell_other _ ⟨b,2,none⟩ ⟨b,1,none⟩ _ qz).trans hu1)
 have hnot:∀ (x:Bool) (w:World),(Op.unary .not (.bool x)).run Tryz.prog w=.ok (.bool (!x)) w:=fun _ _=>rfl
 go_enter_defers Tryz.func306,Tryz.ntmps306
 go_wp2_with (first | (go_at_call 354;refine(Apc ⟨b,2,none⟩ _ (by assumption) (by assumption)).mono ?_;rintro e w' ⟨rfl,rfl⟩) | (go_at_call 239;refine hcl.mono ?_;rintro e w' ⟨v,κ2,rfl,hc2,hi2,hv2,ok2⟩) | (go_at_call 305;go_in))
 have p1:=ok2 (1,.box (Ahq up 0 1 (I3 n up))) (by simp[Tl])
 have k1:κ2 1=.blk b:=by
  obtain ⟨bb,_,_,_,q1,_⟩:=id p1
  rcases hc2.nam 1 (by rw[e1];intro h;cases h) with h | h
  ·rw[h];exact e1
  ·rw[h]at q1;cases q1
 obtain ⟨ba,a1,a2,a3,_,_,_⟩:=J1 (off:=1) (x:=.val (.int .u32 1)) (v:=.int .u32 1) hi2 p1 rfl (fun _ _=>by simp only[Rd]) rfl
 rw[k1]at a1
 cases a1
 obtain ⟨std,invd⟩:=Apr hi2
 have p2:=ObOK.step std (k:=1) (fun h=>h) _ p1
 obtain ⟨ba,a1,_,_,st3,inv3,ob3⟩:=J1 (off:=1) (x:=.val (.int .u32 1)) (v:=.int .u32 1) invd p2 rfl (fun _ _=>by simp only[Rd]) rfl
 rw[k1]at a1
 cases a1
 have ob3:ObOK κ2 (w'.drew.setCell ⟨b,1,none⟩ (.int .u32 1)) 1 (.box (Ahq up 1 1 (I3 n up))):=ob3
 obtain ⟨ba,a1,a4,a5,st4,inv4,ob4⟩:=J1 (off:=2) (x:=.val (.int .i32 0)) (v:=.int .i32 0) inv3 ob3 rfl (fun _ _=>by simp only[Rd]) rfl
 rw[k1]at a1
 cases a1
 have ob4:ObOK κ2 ((w'.drew.setCell ⟨b,1,none⟩ (.int .u32 1)).setCell ⟨b,2,none⟩ (.int .i32 0)) 1 (.box (Ahq up 1 0 (I3 n up))):=ob4
 obtain ⟨v1,hv1,hr1⟩:=a2 1 (.val (.int .u32 0)) rfl
 rw[hr1.val]at hv1
 obtain ⟨v2,hv2,hr2⟩:=a4 2 (.val (.int .i32 1)) rfl
 rw[hr2.val]at hv2
 refine leaves_cons (f:=356) (args:=#[.pointer (some ⟨b,1,none⟩),.bool true]) qz (by simp[go_sem]) ?_
 refine(Z3 ⟨b,1,none⟩ (.int .u32 0) .returning _ hv1 (a3 1 (show 1<5 by decide))).mono ?_
 rintro e u' w'' ⟨rfl,rfl,rfl⟩
 refine leaves_cons (f:=355) (args:=#[.pointer (some ⟨b,2,none⟩)]) (by simp[settle]) (by simp[go_sem]) ?_
 refine(Y6 ⟨b,2,none⟩ _ _ hv2 (a5 2 (show 2<5 by decide))).mono ?_
 rintro e u' w'' ⟨rfl,rfl,rfl⟩
 have hst:Step (·=1) κ2 w' κ2 ((w'.drew.setCell ⟨b,1,none⟩ (.int .u32 1)).setCell ⟨b,2,none⟩ (.int .i32 0)):=(std.weaken (fun _ h=>h.elim)).trans (st3.trans st4)
 refine⟨.tuple #[],by simp[results,Tryz.results306],.tuple #[],κ2,E,Ctx.behind st1 (hc2.step inv4 hst),inv4,⟨[],E,E⟩,fun p hp=>?_⟩
 simp only[Tl,List.mem_cons,List.not_mem_nil,or_false]at hp
 rcases hp with rfl | rfl | rfl
 ·exact ob4
 ·exact ObOK.step hst (show ¬ (2:Nat)=1 by decide) _ (ok2 (2,.box [.ptr 1 0]) (by simp[Tl]))
 ·exact ObOK.step hst (show ¬ (3:Nat)=1 by decide) _ (ok2 (3,.box (Ao7 n)) (by simp[Tl]))
end Go.Sy.YteinjapglfkamaaGreat
namespace Go.Sy.YteinjapglfkamaaGreat
open Go.Proofs
attribute [local irreducible] Go.Sy.G Go.Sy.DR
set_option maxRecDepth 100000
set_option maxHeartbeats 4000000
def Wq (n:Net) (up:List Bool) (d:Bool):Obs:=[(1,.box (Jv n up d)),(2,.box [.ptr 1 0]),(3,.box (Ao7 n))]
theorem At9 (n:Net) (hn:n.Fin) (up:List Bool) :
  Sy.Spec Tryz.prog 238 [.ptr 1 1,.clo (.func 239) [] [.ptr 3 0,.ptr 2 0]] (Wq n up false) (.tup []) (Wq n up true):=cT F238 Tryz.ntmps238 fun F hF=>by
 have q1:Sy.Spec Tryz.prog 305 [.ptr 1 1] (Wq n up false) (Ab false) (Wq n up false):=Adf n up [] 0 0
 have q2:Sy.Spec Tryz.prog 306 [.ptr 1 1,.clo (.func 239) [] [.ptr 3 0,.ptr 2 0]] (Wq n up false) (.tup []) (Wq n up true):=Ao5 n hn up []
 conv=>whnf
 refine Ae (Ah [] E F305 q1 E ⟨E,E,E,Y⟩ E ⟨.inl E,.inl E,.inl E,Y⟩) E E ?_
 refine oT ?_
 refine Ae (Ah [] E F306 q2 E ⟨E,E,E,Y⟩ E ⟨.inl E,.inl E,.inl E,Y⟩) E E ?_
 refine oO ?_
 exact Bg E .nil [] (Wq n up true) (fun _ h=>h) E E ⟨Y,⟨.inl E,E,.inl E,E,.inl E,E,Y⟩,E,E⟩
theorem At8 (n:Net) (up:List Bool) :
  Sy.Spec Tryz.prog 238 [.ptr 1 1,.clo (.func 239) [] [.ptr 3 0,.ptr 2 0]] (Wq n up true) (.tup []) (Wq n up true):=cT F238 Tryz.ntmps238 fun F hF=>by
 have q1:Sy.Spec Tryz.prog 305 [.ptr 1 1] (Wq n up true) (Ab true) (Wq n up true):=Adf n up (I3 n up) 1 0
 conv=>whnf
 refine Ae (Ah [] E F305 q1 E ⟨E,E,E,Y⟩ E ⟨.inl E,.inl E,.inl E,Y⟩) E E ?_
 refine oF ?_
 exact Bg E .nil [] (Wq n up true) (fun _ h=>h) E E ⟨Y,⟨.inl E,E,.inl E,E,.inl E,E,Y⟩,E,E⟩
theorem At7 (n:Net) (hn:n.Fin) (up:List Bool) (d:Bool) :
  Sy.Spec Tryz.prog 238 [.ptr 1 1,.clo (.func 239) [] [.ptr 3 0,.ptr 2 0]] (Wq n up d) (.tup []) (Wq n up true):=by
 cases d
 ·exact At9 n hn up
 ·exact At8 n up
theorem An1 (n:Net) (hn:n.Fin) (up:List Bool) (d:Bool) :
  Sy.Spec Tryz.prog 175 [.ptr 1 0,Aj n] [(1,.box (Jv n up d))] (.sl 1 Ab (I3 n up)) [(1,.box (Jv n up true))]:=cT F175 Tryz.ntmps175 fun F hF=>by
 conv=>whnf
 refine Ae (Ah [] E F238 (At7 n hn up d) E ⟨E,E,E,Y⟩ E ⟨.inl E,.inl E,.inl E,Y⟩) E E ?_
 refine oO ?_
 exact done E (.cons .tmp .nil) [] [(1,.box (Jv n up true))] (fun _ h=>h) E E ⟨Y,⟨.inl E,E,Y⟩,E,E⟩
end Go.Sy.YteinjapglfkamaaGreat
namespace Go.Sy.YteinjapglfkamaaGreat
open Go.Proofs
theorem Sg {n:Net} {fw:List Bool} {t:List EntryM} {dom:Int} {q:QueuedM} {now:Int} (ht:TabOK t) (hq:QueuedOK q):TabOK (bridgeT n fw t dom q now).1:=by
 unfold bridgeT
 split
 ·exact Xj
 split
 ·split
  ·exact Mp ht hq now
  ·exact Mp ht hq now
 ·exact Mp ht hq now
theorem Sh {n:Net} (_hn:n.Fin) (hm0:n.Num) {fw:List Bool} {t:List EntryM} {dom:Int} {q:QueuedM} {now:Int} (hq:QueuedOK q):∀ o∈(bridgeT n fw t dom q now).2.1,OutOK n o:=by
 intro o ho
 unfold bridgeT at ho
 split at ho
 ·cases ho
 rename_i h0
 have hb:Ac n=true:=by
  cases hx:Ac n
  ·exact absurd (.inl (by unfold roomB;rw[hx];simp)) h0
  ·rfl
 split at ho
 ·split at ho
  ·cases ho
  ·rename_i h1
   have h1:=Decidable.not_not.1 h1
   have hin:∀ (d:Int),(lookT n (routerT n dom q.frame.dst).1 d).2=true→0≤(lookT n (routerT n dom q.frame.dst).1 d).1∧(lookT n (routerT n dom q.frame.dst).1 d).1.toNat<n.irbs.length:=fun d h=>Qz h
   rw[List.mem_singleton.1 ho]
   exact⟨by dsimp only;omega,by simp,fun _=>⟨Auh n hm0 _ _ hin,Asa hin h1⟩,fun h=>by dsimp only at h;omega⟩
 ·rcases List.mem_append.1 ho with h | h
  ·obtain ⟨p,_,rfl⟩:=List.mem_map.1 h
   unfold Hc
   exact Ah0 (by dsimp only;split<;>omega) (Acn _ _ _ _ hq.frame) (Ak6 _ _ _ _)
  ·obtain ⟨p,_,rfl⟩:=List.mem_map.1 h
   unfold Im
   exact Ah0 (by dsimp only;omega) (by have:=Ae7 n dom p q.frame;omega) (Apa _ _ _ _)
theorem Si {n:Net} (hn:n.Fin) (fw:List Bool) (t:List EntryM) (dom:Int) (q:QueuedM) (now:Int):(bridgeT n fw t dom q now).2.1.length<4294967296:=by
 unfold bridgeT
 split
 ·show (0:Nat)<4294967296;decide
 split
 ·split
  ·show (0:Nat)<4294967296;decide
  ·show (1:Nat)<4294967296;decide
 ·have:=U3 hn fw (learnQ t q now) dom q.from_ q.frame.dst
  simp only[List.length_append,List.length_map]
  omega
theorem Wf (n:Net) (origin:Int):∀ (a b:List OutM) (m:MacM),A9 n m origin (a++b)=((A9 n (A9 n m origin a).1 origin b).1,(A9 n m origin a).2++(A9 n (A9 n m origin a).1 origin b).2)
 | [],b,m=>by simp[A9]
 | o::a,b,m=>by
  rw[List.cons_append,A9,A9,Wf n origin a b]
  simp
theorem Jg (n:Net) (m:MacM) (origin:Int) (l:List OutM) (j:Nat) (hj:j<l.length) :
  A9 n m origin (l.take (j+1))=((goesM n (A9 n m origin (l.take j)).1 l[j] origin).1,(A9 n m origin (l.take j)).2++(goesM n (A9 n m origin (l.take j)).1 l[j] origin).2):=by
 rw[List.take_succ_eq_append_getElem hj,Wf]
 simp[A9]
theorem Jf (n:Net) (m:MacM) (o:OutM) (origin:Int):(goesM n m o origin).2.length≤1:=by
 unfold goesM
 split
 ·simp
 split
 ·simp
 split
 ·simp
 split<;>simp
theorem Jh (n:Net) (origin:Int):∀ (l:List OutM) (m:MacM),(A9 n m origin l).2.length≤l.length
 | [],m=>by simp[A9]
 | o::l,m=>by
  rw[A9]
  have h1:=Jh n origin l (goesM n m o origin).1
  have h2:=Jf n m o origin
  simp only[List.length_append,List.length_cons]
  omega
end Go.Sy.YteinjapglfkamaaGreat
namespace Go.Sy.YteinjapglfkamaaGreat
open Go.Proofs
attribute [local irreducible] Go.Sy.G Go.Sy.DR
set_option maxRecDepth 100000
set_option maxHeartbeats 4000000
theorem Aaz {n:Net} {m:MacM} {J D:Int} (h:MacOK n m J D) (hD:0≤D) (dom:Int) {r:List EntryM × List OutM × Int} (hr:TabOK r.1):MacOK n (K3 m dom r) J (D+1):=by
 unfold K3
 split
 ·exact Sd h hD 2
 split
 ·exact Sd (Amn h dom hr) hD _
 ·exact(Amn h dom hr).mono (Int.le_refl _) qn
def queL (q:QueuedM):List SV:=[Aa q.from_,Aa q.peer,Aa q.origin,Aw q.frame.dst,Aw q.frame.src,Aa q.frame.typ,.sl 1 Af q.frame.body]
def Ari (n:Net) (m:MacM) (q:QueuedM) (l:List SeenM):Obs:=[(0,.box (Qn n 1 m.now m.injected m.drops)),(1,.box (Jv n m.up true)),(2,.row 1 Id m.tables),(3,.row 1 I8 m.queues),(7,.box (queL q)),(1000,.row 3 B3 l)]
theorem Aqz (n:Net) (hn:n.Fin) (hm1:n.Num) (m:MacM) (d:Bool) (J D:Int) (hm0:MacOK n m J D) (hD0:0≤D) (hD:D≤900000000000) (dom at_:Int) :
  Sy.Spec Tryz.prog 115 [.ptr 0 0,Aa dom,Aa at_] (Dk n m d) (.sl 3 B3 (pickT n m dom at_).2) (Dk n (pickT n m dom at_).1 (if (takeM m dom at_).2.2 then true else d)):=cT F115 Tryz.ntmps115 fun F hF=>by
 have hres:=pickT.eq_1 n m dom at_
 generalize pickT n m dom at_=res at *
 have q1:=Agp n m d dom at_ (Cn hm0 dom)
 have hok:=Vd hm0 dom at_
 have hpl:(takeM m dom at_).2.2=true→0≤dom∧dom.toNat<m.queues.length:=fun h=>by
  unfold takeM at h
  split at h
  ·cases h
  ·rename_i h2
   exact placeB_iff.1 (by cases hx:Ak dom m.queues.length;exact absurd hx h2;rfl)
 have htl:(takeM m dom at_).1.tables=m.tables:=by unfold takeM;split<;>rfl
 generalize takeM m dom at_=r at *
 obtain ⟨m1,q,ok⟩:=r
 have htq:m.queues.length=m.tables.length:=by rw[hm0.ques,hm0.tabs]
 conv=>whnf
 refine Ae (Ah [] E F116 q1 E ⟨E,E,E,E,Y⟩ E ⟨.inl E,.inl E,.inl E,.inl E,Y⟩) E E ?_
 refine oO ?_
 cases ok
 ·rw[if_pos rfl]at hres
  subst hres
  (refine⟨fun _=>?_,fun h=>False.elim (by simp at h)⟩;refine rg ?_;conv=>whnf)
  refine Ai 6 3 B3 E ?_
  exact done E (.cons .tmp .nil) [] (Dk n m1 d) (fun _ h=>h) E E ⟨Y,⟨.inl E,E,.inl E,E,.inl E,E,.inl E,E,Y⟩,E,E⟩
 rw[if_neg qz]at hres
 have hd:=hpl rfl
 have hd2:0≤dom∧dom.toNat<m1.tables.length:=by rw[htl,← htq];exact hd
 dsimp only at hres hok
 have q2:=An1 n hn m1.up d
 have q3:=Ai5 n hn hm1 (I3 n m1.up) (tableL m1 dom) dom q m1.now (Md hok.1 dom) hok.2
 have hb1:=Sg (n:=n) (fw:=I3 n m1.up) (dom:=dom) (now:=m1.now) (Md hok.1 dom) hok.2
 have hb2:=Sh (fw:=I3 n m1.up) (t:=tableL m1 dom) (dom:=dom) (now:=m1.now) hn hm1 hok.2
 have hb3:=Si hn (I3 n m1.up) (tableL m1 dom) dom q m1.now
 have hb4:=Y0 n (I3 n m1.up) (tableL m1 dom) dom q m1.now
 rw[Adc]at hres
 have hz:=Aaz hok.1 hD0 dom hb1
 generalize bridgeT n (I3 n m1.up) (tableL m1 dom) dom q m1.now=b at *
 obtain ⟨t,out,e⟩:=b
 have hb2:∀ o∈out,OutOK n o:=hb2
 have hb3:out.length<4294967296:=hb3
 have hb4:By e:=hb4
 have ht0:=tableL.eq_1 m1 dom
 rw[Lu hd2.2]at ht0
 generalize tableL m1 dom=t0 at *
 subst ht0
 (refine⟨fun h=>False.elim (by simp at h),fun _=>?_⟩;refine rg ?_;conv=>whnf)
 refine Bb (Ah [] E F175 q2 E ⟨E,Y⟩ E ⟨.inl E,Y⟩) qq E ?_
 refine oD ?_
 refine⟨hd2.1,hd2.2,?_⟩
 conv=>whnf
 refine⟨E,hd2.2,?_⟩
 conv=>whnf
 refine cD q3 F174 ?_
 refine oD ?_
 refine kW ?_
 refine⟨fun h=>?_,fun h=>?_⟩
 ·have h2:¬ e=2:=by simpa using h
  clear h
  refine oO ?_
  refine⟨hd2.1,hd2.2,?_⟩
  conv=>whnf
  refine⟨E,hd2.2,t,E,E,?_⟩
  conv=>whnf
  refine⟨fun h=>?_,fun h=>?_⟩
  ·have h3:¬ e=0:=by simpa using h
   clear h
   have hpd:K3 m1 dom (t,out,e)=Bf (Bz m1 dom t) e:=by
    unfold K3
    rw[if_neg h2,if_pos h3]
   rw[hpd]at hres hz
   subst hres
   have q4:=Aiw n (Bz m1 dom t) true e hb4.1 hb4.2 ⟨(hok.1.drp _).1,by have:=(hok.1.drp e.toNat).2;show m1.drops e.toNat≤1000000000000;omega⟩
   refine oO ?_
   refine Ae (Ah [] E F176 q4 E ⟨E,E,E,E,Y⟩ E ⟨.inl E,.inl E,.inl E,.inl E,Y⟩) E E ?_
   refine oO ?_
   have hdr:H4 (Bf (Bz m1 dom t) e):=fun i=>⟨(hz.drp i).1,by have:=(hz.drp i).2;omega⟩
   refine Bo 12 1000 3 B3 E E ?_
   refine Aq out.length (fun j=>[(0,.ptr 0 0),(7,.ptr 7 0),(12,.osl 1000),(69,.sl 9 Bi out),(70,Aa out.length),(71,Aa j)]) (fun j=>Ari n (A9 n (Bf (Bz m1 dom t) e) q.origin (out.take j)).1 q (A9 n (Bf (Bz m1 dom t) e) q.origin (out.take j)).2) [] ⟨⟨E,E,E,E,E,E,E,E,E,E,E,E,Y⟩,⟨.inl E,E,.inl E,E,.inl E,E,.inl E,E,.inl E,E,.inl E,E,Y⟩,E,E⟩ ?_
   intro j hj
   refine oO ?_
   refine⟨fun h=>?_,fun h=>?_⟩
   ·have hlt:j<out.length:=qA h
    have hj0:((j:Nat):Int).toNat<out.length:=by simpa using hlt
    obtain ⟨o,hoo⟩:∃ o,out[j]=o:=⟨_,rfl⟩
    have e1:out[((j:Nat):Int).toNat]'hj0=o:=hoo
    have hs:=Jg n (Bf (Bz m1 dom t) e) q.origin out j hlt
    rw[hoo]at hs
    have hjo:=Jy hn q.origin (out.take j) hz qn (fun x hx=>hb2 x (List.mem_of_mem_take hx))
    have hlen:(out.take j).length=j:=by rw[List.length_take];omega
    rw[hlen]at hjo
    have hsl:=Jh n q.origin (out.take j) (Bf (Bz m1 dom t) e)
    rw[hlen]at hsl
    have q5:=Z7 n hn (A9 n (Bf (Bz m1 dom t) e) q.origin (out.take j)).1 true J _ hjo qn o (hb2 o (by rw[← hoo];exact List.getElem_mem hlt)) q.origin
    have hfw:=Jf n (A9 n (Bf (Bz m1 dom t) e) q.origin (out.take j)).1 o q.origin
    clear h
    refine oO ?_
    refine⟨E,by omega,hj0,?_⟩
    rw[e1]
    conv=>whnf
    refine Ae (Ah [] E F177 q5 E ⟨E,E,E,E,Y⟩ E ⟨.inl E,.inl E,.inl E,.inl E,Y⟩) E E ?_
    refine oO ?_
    refine Ae (Ad Γ.toTy 81 E E E E E (.row E) .sl qz qn qn) E E ?_
    refine oO ?_
    refine iW ?_
    have g1:(A9 n (Bf (Bz m1 dom t) e) q.origin (out.take (j+1))).1=(goesM n (A9 n (Bf (Bz m1 dom t) e) q.origin (out.take j)).1 o q.origin).1:=by rw[hs]
    have g2:(A9 n (Bf (Bz m1 dom t) e) q.origin (out.take (j+1))).2=(A9 n (Bf (Bz m1 dom t) e) q.origin (out.take j)).2++(goesM n (A9 n (Bf (Bz m1 dom t) e) q.origin (out.take j)).1 o q.origin).2:=by rw[hs]
    refine An [(1000,81)] hlt ⟨⟨E,E,E,E,E,E,E,E,E,E,E,E,Y⟩,?_,E,E⟩
    dsimp only
    rw[g1,g2]
    exact⟨.inl E,E,.inl E,E,.inl E,E,.inl E,E,.inl E,E,.inl E,E,Y⟩
   ·have hjj:j=out.length:=qB h
    subst hjj
    rw[List.take_length]
    clear h
    refine oO ?_
    refine Ap 1000 E ?_
    exact done E (.cons .tmp .nil) [] (Dk n (A9 n (Bf (Bz m1 dom t) e) q.origin out).1 true) (fun _ h=>h) E E ⟨Y,⟨.inl E,E,.inl E,E,.inl E,E,.inl E,E,Y⟩,E,E⟩
  ·have h3:e=0:=by simpa using h
   clear h
   have hpd:K3 m1 dom (t,out,e)=Bz m1 dom t:=by
    unfold K3
    rw[if_neg h2,if_neg (fun h=>h h3)]
   rw[hpd]at hres hz
   subst hres
   refine oO ?_
   have hdr:H4 (Bz m1 dom t):=fun i=>⟨(hz.drp i).1,by have:=(hz.drp i).2;omega⟩
   refine Bo 12 1000 3 B3 E E ?_
   refine Aq out.length (fun j=>[(0,.ptr 0 0),(7,.ptr 7 0),(12,.osl 1000),(69,.sl 9 Bi out),(70,Aa out.length),(71,Aa j)]) (fun j=>Ari n (A9 n (Bz m1 dom t) q.origin (out.take j)).1 q (A9 n (Bz m1 dom t) q.origin (out.take j)).2) [] ⟨⟨E,E,E,E,E,E,E,E,E,E,E,E,Y⟩,⟨.inl E,E,.inl E,E,.inl E,E,.inl E,E,.inl E,E,.inl E,E,Y⟩,E,E⟩ ?_
   intro j hj
   refine oO ?_
   refine⟨fun h=>?_,fun h=>?_⟩
   ·have hlt:j<out.length:=qA h
    have hj0:((j:Nat):Int).toNat<out.length:=by simpa using hlt
    obtain ⟨o,hoo⟩:∃ o,out[j]=o:=⟨_,rfl⟩
    have e1:out[((j:Nat):Int).toNat]'hj0=o:=hoo
    have hs:=Jg n (Bz m1 dom t) q.origin out j hlt
    rw[hoo]at hs
    have hjo:=Jy hn q.origin (out.take j) hz qn (fun x hx=>hb2 x (List.mem_of_mem_take hx))
    have hlen:(out.take j).length=j:=by rw[List.length_take];omega
    rw[hlen]at hjo
    have hsl:=Jh n q.origin (out.take j) (Bz m1 dom t)
    rw[hlen]at hsl
    have q5:=Z7 n hn (A9 n (Bz m1 dom t) q.origin (out.take j)).1 true J _ hjo qn o (hb2 o (by rw[← hoo];exact List.getElem_mem hlt)) q.origin
    have hfw:=Jf n (A9 n (Bz m1 dom t) q.origin (out.take j)).1 o q.origin
    clear h
    refine oO ?_
    refine⟨E,by omega,hj0,?_⟩
    rw[e1]
    conv=>whnf
    refine Ae (Ah [] E F177 q5 E ⟨E,E,E,E,Y⟩ E ⟨.inl E,.inl E,.inl E,.inl E,Y⟩) E E ?_
    refine oO ?_
    refine Ae (Ad Γ.toTy 81 E E E E E (.row E) .sl qz qn qn) E E ?_
    refine oO ?_
    refine iW ?_
    have g1:(A9 n (Bz m1 dom t) q.origin (out.take (j+1))).1=(goesM n (A9 n (Bz m1 dom t) q.origin (out.take j)).1 o q.origin).1:=by rw[hs]
    have g2:(A9 n (Bz m1 dom t) q.origin (out.take (j+1))).2=(A9 n (Bz m1 dom t) q.origin (out.take j)).2++(goesM n (A9 n (Bz m1 dom t) q.origin (out.take j)).1 o q.origin).2:=by rw[hs]
    refine An [(1000,81)] hlt ⟨⟨E,E,E,E,E,E,E,E,E,E,E,E,Y⟩,?_,E,E⟩
    dsimp only
    rw[g1,g2]
    exact⟨.inl E,E,.inl E,E,.inl E,E,.inl E,E,.inl E,E,.inl E,E,Y⟩
   ·have hjj:j=out.length:=qB h
    subst hjj
    rw[List.take_length]
    clear h
    refine oO ?_
    refine Ap 1000 E ?_
    exact done E (.cons .tmp .nil) [] (Dk n (A9 n (Bz m1 dom t) q.origin out).1 true) (fun _ h=>h) E E ⟨Y,⟨.inl E,E,.inl E,E,.inl E,E,.inl E,E,Y⟩,E,E⟩
 ·have h2:e=2:=by simpa using h
  clear h
  subst h2
  have hpd:K3 m1 dom (t,out,2)=Bf m1 2:=by
   unfold K3
   rw[if_pos rfl]
  rw[hpd]at hres hz
  subst hres
  have q4:=Aiw n m1 true 2 qy qy ⟨(hok.1.drp _).1,by have:=(hok.1.drp (Int.toNat 2)).2;omega⟩
  refine oT ?_
  refine Ae (Ah [] E F176 q4 E ⟨E,E,E,E,Y⟩ E ⟨.inl E,.inl E,.inl E,.inl E,Y⟩) E E ?_
  refine oO ?_
  have hdr:H4 (Bf m1 2):=fun i=>⟨(hz.drp i).1,by have:=(hz.drp i).2;omega⟩
  refine Bo 12 1000 3 B3 E E ?_
  refine Aq out.length (fun j=>[(0,.ptr 0 0),(7,.ptr 7 0),(12,.osl 1000),(69,.sl 9 Bi out),(70,Aa out.length),(71,Aa j)]) (fun j=>Ari n (A9 n (Bf m1 2) q.origin (out.take j)).1 q (A9 n (Bf m1 2) q.origin (out.take j)).2) [] ⟨⟨E,E,E,E,E,E,E,E,E,E,E,E,Y⟩,⟨.inl E,E,.inl E,E,.inl E,E,.inl E,E,.inl E,E,.inl E,E,Y⟩,E,E⟩ ?_
  intro j hj
  refine oO ?_
  refine⟨fun h=>?_,fun h=>?_⟩
  ·have hlt:j<out.length:=qA h
   have hj0:((j:Nat):Int).toNat<out.length:=by simpa using hlt
   obtain ⟨o,hoo⟩:∃ o,out[j]=o:=⟨_,rfl⟩
   have e1:out[((j:Nat):Int).toNat]'hj0=o:=hoo
   have hs:=Jg n (Bf m1 2) q.origin out j hlt
   rw[hoo]at hs
   have hjo:=Jy hn q.origin (out.take j) hz qn (fun x hx=>hb2 x (List.mem_of_mem_take hx))
   have hlen:(out.take j).length=j:=by rw[List.length_take];omega
   rw[hlen]at hjo
   have hsl:=Jh n q.origin (out.take j) (Bf m1 2)
   rw[hlen]at hsl
   have q5:=Z7 n hn (A9 n (Bf m1 2) q.origin (out.take j)).1 true J _ hjo qn o (hb2 o (by rw[← hoo];exact List.getElem_mem hlt)) q.origin
   have hfw:=Jf n (A9 n (Bf m1 2) q.origin (out.take j)).1 o q.origin
   clear h
   refine oO ?_
   refine⟨E,by omega,hj0,?_⟩
   rw[e1]
   conv=>whnf
   refine Ae (Ah [] E F177 q5 E ⟨E,E,E,E,Y⟩ E ⟨.inl E,.inl E,.inl E,.inl E,Y⟩) E E ?_
   refine oO ?_
   refine Ae (Ad Γ.toTy 81 E E E E E (.row E) .sl qz qn qn) E E ?_
   refine oO ?_
   refine iW ?_
   have g1:(A9 n (Bf m1 2) q.origin (out.take (j+1))).1=(goesM n (A9 n (Bf m1 2) q.origin (out.take j)).1 o q.origin).1:=by rw[hs]
   have g2:(A9 n (Bf m1 2) q.origin (out.take (j+1))).2=(A9 n (Bf m1 2) q.origin (out.take j)).2++(goesM n (A9 n (Bf m1 2) q.origin (out.take j)).1 o q.origin).2:=by rw[hs]
   refine An [(1000,81)] hlt ⟨⟨E,E,E,E,E,E,E,E,E,E,E,E,Y⟩,?_,E,E⟩
   dsimp only
   rw[g1,g2]
   exact⟨.inl E,E,.inl E,E,.inl E,E,.inl E,E,.inl E,E,.inl E,E,Y⟩
  ·have hjj:j=out.length:=qB h
   subst hjj
   rw[List.take_length]
   clear h
   refine oO ?_
   refine Ap 1000 E ?_
   exact done E (.cons .tmp .nil) [] (Dk n (A9 n (Bf m1 2) q.origin out).1 true) (fun _ h=>h) E E ⟨Y,⟨.inl E,E,.inl E,E,.inl E,E,.inl E,E,Y⟩,E,E⟩
theorem W3 (l:List (List EntryM)) (now:Int) (j:Nat) (hj:j<l.length) :
  ((l.take j).map (fun t=>ageT t now)++l.drop j).set j (ageT l[j] now)=(l.take (j+1)).map (fun t=>ageT t now)++l.drop (j+1):=by
 apply List.ext_getElem
 ·simp only[List.length_set,List.length_append,List.length_map,List.length_take,List.length_drop];omega
 intro i h1 h2
 simp only[List.length_set,List.length_append,List.length_map,List.length_take,List.length_drop]at h1
 rw[List.getElem_set]
 by_cases hi:j=i
 ·subst hi
  rw[if_pos rfl,List.getElem_append_left (by simp;omega)]
  simp
 ·rw[if_neg hi]
  by_cases hlt:i<j
  ·rw[List.getElem_append_left (by simp;omega),List.getElem_append_left (by simp;omega)]
   simp
  ·rw[List.getElem_append_right (by simp;omega),List.getElem_append_right (by simp;omega)]
   simp only[List.getElem_drop,List.length_map,List.length_take]
   congr 1
   omega
theorem Apk {P:Program} {o:Oper} {s:SS} {x y:Operand} {at_:Array TypeId} {k k':IntKind} {m n r:Int} (hr:(if n<m then n else m)=r) (h:o.op=.call ⟨.builtin .min,#[x,y],at_⟩)
  (hx:ev s x=.val (.int k m)) (hy:ev s y=.val (.int k' n)):Good P o s ⟨.val (.int k r),[],[]⟩:=by
 have:=Ash (P:=P) h hx hy
 rwa [hr]at this
def Mb (l:List (List EntryM)) (now:Int) (j:Nat):List (List EntryM):=(l.take j).map (fun t=>ageT t now)++l.drop j
theorem Acb (l:List (List EntryM)) (now:Int) (j:Nat) (hj:j<l.length) (h2:j<(Mb l now j).length):(Mb l now j)[j]=l[j]:=by
 have h:(Mb l now j)[j]? = l[j]?:=by
  unfold Mb
  have hm:min j l.length=j:=by omega
  rw[List.getElem?_append_right (by simp;omega),List.getElem?_drop,List.length_map,List.length_take,hm,Nat.sub_self,Nat.add_zero]
 rw[List.getElem?_eq_getElem hj,List.getElem?_eq_getElem h2]at h
 exact Option.some.inj h
theorem Sp (l:List (List EntryM)) (now:Int) (j:Nat):(Mb l now j).length=l.length:=by
 unfold Mb
 simp only[List.length_append,List.length_map,List.length_take,List.length_drop]
 omega
def tickO (n:Net) (m:MacM) (d:Bool) (now:Int) (j:Nat):Obs:=[(0,.box (Qn n 1 now m.injected m.drops)),(1,.box (Jv n m.up d)),(2,.row 1 Id (Mb m.tables now j)),(3,.row 1 I8 m.queues)]
theorem Aqy (n:Net) (m:MacM) (d:Bool) (J D:Int) (hm0:MacOK n m J D) (hs:Al n.domains) :
  Sy.Spec Tryz.prog 117 [.ptr 0 0] (Dk n m d) (.tup []) (Dk n (O4 m) d):=cT F117 Tryz.ntmps117 fun F hF=>by
 unfold Al at hs
 have hnow:=hm0.now
 have htl:m.tables.length<2147483648:=by rw[hm0.tabs];exact hs
 have hto:=hm0.tab
 obtain ⟨nw,hnw⟩:∃ nw,(if 1099511627776<m.now+1 then 1099511627776 else m.now+1)=nw:=⟨_,rfl⟩
 have hti:O4 m=⟨m.up,Mb m.tables nw m.tables.length,m.queues,nw,m.injected,m.drops⟩:=by
  have:min (m.now+1) 1099511627776=nw:=by rw[← hnw];split<;>omega
  unfold O4 Mb
  rw[this,List.take_length,List.drop_length,List.append_nil]
 rw[hti]
 conv=>whnf
 refine iW ?_
 refine Ae (Apk hnw E E E) E E ?_
 refine oO ?_
 refine Aq m.tables.length (fun j=>[(0,.ptr 0 0),(16,.osl 2),(17,Aa m.tables.length),(18,Aa j)]) (fun j=>tickO n m d nw j) [] ⟨⟨E,E,E,E,E,E,E,E,Y⟩,⟨.inl E,E,.inl E,E,.inl E,E,.inl E,E,Y⟩,E,E⟩ ?_
 intro j hj
 refine oO ?_
 refine⟨fun h=>?_,fun h=>?_⟩
 ·have hlt:j<m.tables.length:=qA h
  have hal:=Sp m.tables nw j
  have hj0:((j:Nat):Int).toNat<(Mb m.tables nw j).length:=by rw[hal];simpa using hlt
  obtain ⟨t,hoo⟩:∃ t,m.tables[j]=t:=⟨_,rfl⟩
  have e1:(Mb m.tables nw j)[((j:Nat):Int).toNat]'hj0=t:=(Acb m.tables nw j hlt (by rw[hal];exact hlt)).trans hoo
  have hs:=W3 m.tables nw j hlt
  rw[hoo]at hs
  have ht:=hto t (by rw[← hoo];exact List.getElem_mem hlt)
  clear h
  refine oO ?_
  refine⟨by omega,hj0,?_⟩
  conv=>whnf
  refine⟨E,hj0,?_⟩
  rw[e1]
  conv=>whnf
  refine cD (Atp t nw ht.short ht.mac) F178 ?_
  refine oD ?_
  refine⟨by omega,hj0,?_⟩
  conv=>whnf
  refine⟨E,hj0,ageT t nw,E,E,?_⟩
  conv=>whnf
  refine kW ?_
  refine iW ?_
  exact An [] hlt ⟨⟨E,E,E,E,E,E,E,E,Y⟩,⟨.inl E,E,.inl E,E,.inl (congrArg (Ob.row 1 Id) hs.symm),E,.inl E,E,Y⟩,E,E⟩
 ·have hjj:j=m.tables.length:=qB h
  subst hjj
  clear h
  refine oO ?_
  exact Bg E .nil [] (Dk n ⟨m.up,Mb m.tables nw m.tables.length,m.queues,nw,m.injected,m.drops⟩ d) (fun _ h=>h) E E ⟨Y,⟨.inl E,E,.inl E,E,.inl E,E,.inl E,E,Y⟩,E,E⟩
end Go.Sy.YteinjapglfkamaaGreat
