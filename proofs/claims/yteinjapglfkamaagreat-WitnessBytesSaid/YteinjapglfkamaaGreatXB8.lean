/-
  K41 K42 K8 K9 K10 K11 K15 K16 K17 K18 K19 K20 K21 K22 K23 K12 K13 K14 K24 K43 K44 Z5 Z6 Z7 Z8 Z9 Z10 Z11 Z12 Z13 Z14 Z15 Z16 H1: parts of a proof, joined by program.
-/
import Derived.Test.YteinjapglfkamaaGreatXB7
import Derived.Test.YteinjapglfkamaaGreatXB5
import Derived.Test.YteinjapglfkamaaGreatXB6
import Derived.Test.YteinjapglfkamaaGreatXB4
import Derived.Test.YteinjapglfkamaaGreatXB3
import Derived.Tactics
import Derived.Tactics2
import Derived.Defers
import Derived.Laws.Pointers
import Derived.Laws.LoneSync
import Derived.RegionTactic
import Derived.RegionCalls
import Derived.ChangeAlike
import Derived.Laws.NewBlocks
namespace Go.Sy.YteinjapglfkamaaGreat
open Go.Proofs
attribute [local irreducible] Go.Sy.G Go.Sy.DR
set_option maxRecDepth 100000
set_option maxHeartbeats 4000000
theorem Afp (f:FrameM) (hb:f.body.length<100000):Sy.Spec Tryz.prog 247 [B6 f] [] (B6 f) []:=Ab Γ hm 100 F247 Tryz.ntmps247 rfl fun F hF=>by
 conv=>whnf
 refine Ah (Bl Γ.toTy (d:=7) (n:=f.body.length) Ai 0 E E E E E E E E qn qn E E E) E E ?_
 refine rg ?_;conv=>whnf
 refine Ah (Tq Γ.toTy (l:=List.replicate f.body.length 0) (m:=f.body) E E E E E .sl) E E ?_
 refine rg ?_;conv=>whnf
 refine At 7 E ?_
 refine rg ?_;conv=>whnf
 refine Ac E (.cons (.cell E E E E) .nil) ?_ E
 show SV.agg [_,_,_,.sl 1 Ai f.body]=SV.agg [_,_,_,.sl 1 Ai (f.body.take (List.replicate f.body.length (0:UInt8)).length++(List.replicate f.body.length (0:UInt8)).drop f.body.length)]
 have e:f.body.take (List.replicate f.body.length (0:UInt8)).length++(List.replicate f.body.length (0:UInt8)).drop f.body.length=f.body:=by
  rw[List.length_replicate,List.take_length,List.drop_eq_nil_of_le qy,List.append_nil]
 rw[e]
 rfl
theorem Aan (q:QueuedM) (hb:q.frame.body.length<100000):Sy.Spec Tryz.prog 180 [Bk q] [] (Bk q) []:=Ab Γ hm 100 F180 Tryz.ntmps180 rfl fun F hF=>by
 have qc:=Afp q.frame hb
 conv=>whnf
 refine Ag qc F247 E E E E E ?_
 refine rg ?_;conv=>whnf
 exact Ac E (.cons (.cell E E E E) .nil) E E
def Mh (l:List QueuedM):Prop:=∀ q∈l,q.frame.body.length<100000
theorem An9 (l:List QueuedM) (hl:l.length<1000000) (hb:Mh l):Sy.Spec Tryz.prog 179 [.sl 7 Bk l] [] (.osl 0) [(0,.row 7 Bk l)]:=Ab Γ hm 100 F179 Tryz.ntmps179 rfl fun F hF=>by
 conv=>whnf
 refine Cf 3 1000 7 Bk E E ?_
 refine A3 l.length (fun j=>[(3,.osl 1000),(6,.sl 7 Bk l),(7,Aa l.length),(8,Aa j)]) (fun j=>[(1000,.row 7 Bk (l.take j))]) [] ⟨⟨E,E,E,E,E,E,E,E,Y⟩,⟨.inl E,E,Y⟩,E,E⟩ ?_
 intro j hj
 refine rg ?_;conv=>whnf
 refine⟨fun h=>?_,fun h=>?_⟩
 ·have hlt:j<l.length:=by have:=of_decide_eq_true h;omega
  have hj0:((j:Nat):Int).toNat<l.length:=by simpa using hlt
  obtain ⟨q,hq⟩:∃ q,l[j]=q:=⟨_,rfl⟩
  have e1:l[((j:Nat):Int).toNat]'hj0=q:=hq
  have hs:l.take (j+1)=l.take j++[q]:=by rw[List.take_succ_eq_append_getElem hlt,hq]
  have hqb:=hb q (by rw[← hq];exact List.getElem_mem hlt)
  have hll:(l.take j).length=j:=by rw[List.length_take];omega
  clear h
  refine rg ?_;conv=>whnf
  refine⟨E,by omega,hj0,?_⟩
  rw[e1]
  conv=>whnf
  refine Ag (Aan q hqb) F180 E E E E E ?_
  refine rg ?_;conv=>whnf
  refine Ah (Al Γ.toTy 16 E E E E E (.row E) (.lit (e:=Bk) (l:=[q]) E E) qy (by rw[hll];simp;omega) (by rw[hll];simp;omega)) E E ?_
  refine rg ?_;conv=>whnf
  refine⟨by unfold I64;omega,?_⟩
  conv=>whnf
  exact Av [(1000,16)] hlt ⟨⟨E,E,E,E,E,E,E,E,Y⟩,⟨.inl (congrArg (Ob.row 7 Bk) hs),E,Y⟩,E,E⟩
 ·have hjj:j=l.length:=by have:=of_decide_eq_false h;omega
  subst hjj
  rw[List.take_length]
  refine rg ?_;conv=>whnf
  exact done E (.cons .tmp .nil) [(0,1000)] [(0,.row 7 Bk l)] (fun _ h=>h) E E ⟨Y,⟨.inl E,E,Y⟩,E,E⟩
theorem Abx (l:List QueuedM) (q:QueuedM) (hl:l.length<1000000) (hb:Mh l) (hqb:q.frame.body.length<100000) :
  Sy.Spec Tryz.prog 228 [.sl 7 Bk l,Bk q] [] (.tup [.sl 7 Bk (pushT l q).1,Ad (pushT l q).2]) []:=Ab Γ hm 100 F228 Tryz.ntmps228 rfl fun F hF=>by
 have hres:=pushT.eq_1 l q
 generalize pushT l q=res at *
 conv=>whnf
 refine Ah (Aj [(0,55)] E F179 (An9 l hl hb) E Y E ⟨.inr E,Y⟩) E E ?_
 refine rg ?_;conv=>whnf
 refine⟨fun h=>?_,fun h=>?_⟩
 ·rw[if_pos (by have:=of_decide_eq_true h;omega)]at hres
  subst hres
  refine rg ?_;conv=>whnf
  refine At 55 E ?_
  exact Ac E (.cons .tmp (.cons .tmp .nil)) E E
 ·rw[if_neg (by have:=of_decide_eq_false h;omega)]at hres
  subst hres
  refine rg ?_;conv=>whnf
  refine Ag (Aan q hqb) F180 E E E E E ?_
  refine rg ?_;conv=>whnf
  refine Ah (Al Γ.toTy 17 E E E E E (.row E) (.lit (e:=Bk) (l:=[q]) E E) qx (by simp;omega) (by simp;omega)) E E ?_
  refine At 17 E ?_
  refine rg ?_;conv=>whnf
  exact Ac E (.cons .tmp (.cons .tmp .nil)) E E
theorem V6 (l:List QueuedM) (at_:Int) (hl:l.length<1000000) (hb:Mh l) :
  Sy.Spec Tryz.prog 120 [.sl 7 Bk l,Aa at_] [] (.tup [Bk (takeT l at_).1,.sl 7 Bk (takeT l at_).2.1,Ad (takeT l at_).2.2]) []:=Ab Γ hm 100 F120 Tryz.ntmps120 rfl fun F hF=>by
 have hres:=takeT.eq_1 l at_
 generalize takeT l at_=res at *
 conv=>whnf
 refine⟨fun h=>?_,fun h=>?_⟩
 ·rw[if_pos (.inl (of_decide_eq_true h))]at hres
  subst hres
  (refine rg ?_;(conv=>whnf);refine aT ?_;refine rg ?_;conv=>whnf)
  refine Ah (Aj [(0,55)] E F179 (An9 l hl hb) E Y E ⟨.inr E,Y⟩) E E ?_
  refine At 55 E ?_
  refine rg ?_;conv=>whnf
  refine Bc 4 [Aa 0,Aa 0,Aa 0,A9 0,A9 0,Aa 0,.sl 1 Ai []] E (.cons (.refl _) (.cons (.refl _) (.cons (.refl _) (.cons (.refl _) (.cons (.refl _) (.cons (.refl _) (.cons .nil .nil))))))) ?_
  exact Ac E (.cons (.cell E E E E) (.cons .tmp (.cons .tmp .nil))) E E
 have h0:0≤at_:=by have:=of_decide_eq_false h;omega
 clear h
 refine rg ?_;conv=>whnf
 refine⟨fun h=>?_,fun h=>?_⟩
 ·rw[if_pos (.inr (of_decide_eq_true h))]at hres
  subst hres
  refine rg ?_;conv=>whnf
  refine Ah (Aj [(0,55)] E F179 (An9 l hl hb) E Y E ⟨.inr E,Y⟩) E E ?_
  refine At 55 E ?_
  refine rg ?_;conv=>whnf
  refine Bc 4 [Aa 0,Aa 0,Aa 0,A9 0,A9 0,Aa 0,.sl 1 Ai []] E (.cons (.refl _) (.cons (.refl _) (.cons (.refl _) (.cons (.refl _) (.cons (.refl _) (.cons (.refl _) (.cons .nil .nil))))))) ?_
  exact Ac E (.cons (.cell E E E E) (.cons .tmp (.cons .tmp .nil))) E E
 have h1:at_<l.length:=by have:=of_decide_eq_false h;omega
 clear h
 have hk:at_.toNat<l.length:=by omega
 have hne:l≠[]:=fun e=>by rw[e]at hk;simp at hk
 have hkk:((at_.toNat:Nat):Int)=at_:=by omega
 rw[if_neg qn,List.getElem?_eq_getElem hk,Option.getD_some]at hres
 obtain ⟨q,hq⟩:∃ q,l[at_.toNat]'hk=q:=⟨_,rfl⟩
 rw[hq]at hres
 have hqb:=hb q (by rw[← hq];exact List.getElem_mem hk)
 refine G_dat 0 90 E hne ?_
 intro B off cap hcap
 refine run Γ hm 3 ?_
 conv=>whnf
 refine Bo (Ug 90 (.inl E) E E) qq E ?_
 refine rd qq ?_;conv=>whnf
 refine⟨E,h0,hk,?_⟩
 rw[hq]
 conv=>whnf
 refine Au (Aan q hqb) F180 E E E qq E ?_
 refine rd qq ?_;conv=>whnf
 refine Bo (X1 (hi:=at_.toNat) Γ.toTy E E E E (congrArg (fun z=>SV.val (.int .i64 z)) hkk.symm) (congrArg (fun z=>SV.val (.int .i64 z)) hkk.symm) qn) qq E ?_
 refine Bo (Ug 90 (.inl E) E E) qq E ?_
 refine rd qq ?_;conv=>whnf
 refine⟨by unfold I64;omega,?_⟩
 conv=>whnf
 refine Bo (Ci (lo:=at_.toNat+1) (hi:=l.length) Γ.toTy E E E E (.inr ⟨_,_,E,congrArg (fun z=>SV.val (.int .i64 z)) qn⟩) (.inl ⟨E,E⟩) qn (Nat.le_refl _)) qq E ?_
 have hll:((l.take l.length).drop (at_.toNat+1)).length=l.length-(at_.toNat+1):=by rw[List.length_drop,List.length_take];omega
 refine Bo (X7 Γ.toTy 90 E E E E E E (Nat.le_of_lt hk) E (by rw[hll];omega) (by rw[hll];omega)) qq E ?_
 have he:l.take at_.toNat++(l.take l.length).drop (at_.toNat+1)=l.eraseIdx at_.toNat:=by rw[List.take_length,List.eraseIdx_eq_take_drop_succ]
 have hel:(l.take at_.toNat++(l.take l.length).drop (at_.toNat+1)).length<1000000:=by rw[he,List.length_eraseIdx];split<;>omega
 have heb:Mh (l.take at_.toNat++(l.take l.length).drop (at_.toNat+1)):=by rw[he];exact fun x hx=>hb x (List.mem_of_mem_eraseIdx hx)
 refine rd qq ?_;conv=>whnf
 refine Bo (Aj [(0,55)] E F179 (An9 _ hel heb) E Y E ⟨.inr E,Y⟩) qq E ?_
 refine rd qq ?_;conv=>whnf
 refine⟨qq,?_⟩
 conv=>whnf
 refine At 55 E ?_
 refine Ac E (.cons (.cell E E E E) (.cons .tmp (.cons .tmp .nil))) ?_ E
 subst hres
 show SV.tup [_,.sl 7 Bk (l.eraseIdx at_.toNat),_]=SV.tup [_,.sl 7 Bk (l.take at_.toNat++(l.take l.length).drop (at_.toNat+1)),_]
 rw[he]
 rfl
def D8 {α:Type} (q:α→Bool) (l:List α):Nat→Nat
 | 0=>0
 | j+1=>match l[j]? with
  | some x=>if q x=true then D8 q l j+1 else D8 q l j
  | none=>D8 q l j
def dfC {α:Type} (q:α→Bool) (l:List α):Nat→List α
 | 0=>l
 | j+1=>match l[j]? with
  | some x=>if q x=true then (dfC q l j).set (D8 q l j) x else dfC q l j
  | none=>dfC q l j
theorem Vb {α:Type} (q:α→Bool) (l:List α) (j:Nat):D8 q l j≤j:=by
 induction j with
 | zero=>exact Nat.le_refl _
 | succ j ih =>
  simp only[D8]
  split
  ·split<;>omega
  ·omega
theorem Qb {α:Type} (q:α→Bool) (l:List α) (j:Nat):(dfC q l j).length=l.length:=by
 induction j with
 | zero=>rfl
 | succ j ih =>
  simp only[dfC]
  split
  ·split
   ·rw[List.length_set];exact ih
   ·exact ih
  ·exact ih
theorem Ag0 {α:Type} (q:α→Bool) (l:List α) (j k:Nat) (h:j≤k):(dfC q l j)[k]? = l[k]?:=by
 induction j with
 | zero=>rfl
 | succ j ih =>
  simp only[dfC]
  split
  ·split
   ·rw[List.getElem?_set_ne (by have:=Vb q l j;omega)];exact ih qn
   ·exact ih qn
  ·exact ih qn
theorem Add {α:Type} (q:α→Bool) (l:List α) (j:Nat) (h:j≤l.length):(dfC q l j).take (D8 q l j)=(l.take j).filter q:=by
 induction j with
 | zero=>rfl
 | succ j ih =>
  have hj:j<l.length:=by omega
  have ih:=ih qn
  have hc:=Vb q l j
  simp only[dfC,D8,List.getElem?_eq_getElem hj]
  rw[List.take_add_one,List.getElem?_eq_getElem hj,List.filter_append]
  by_cases hq:q l[j]=true
  ·rw[if_pos hq,if_pos hq]
   have hlt:D8 q l j<((dfC q l j).set (D8 q l j) l[j]).length:=by rw[List.length_set,Qb];omega
   rw[List.take_add_one,List.getElem?_eq_getElem hlt,List.getElem_set_self]
   rw[List.take_set_of_le (Nat.le_refl _),ih]
   simp[hq]
  ·rw[if_neg hq,if_neg hq,ih]
   simp[hq]
theorem Y5 {α:Type} (q:α→Bool) (l:List α) (i:Nat) (hi:i≤l.length) (h:∀ k (hk:k<l.length),k<i→q l[k]=true):dfC q l i=l∧D8 q l i=i:=by
 induction i with
 | zero=>exact⟨rfl,rfl⟩
 | succ i ih =>
  obtain ⟨h1,h2⟩:=ih qn (fun k hk hki=>h k hk qn)
  have hil:i<l.length:=by omega
  simp only[dfC,D8,List.getElem?_eq_getElem hil]
  rw[if_pos (h i hil qn),if_pos (h i hil qn),h1,h2]
  exact⟨List.set_getElem_self hil,E⟩
theorem Kw {α:Type} (p:α→Bool) (l:List α):(Cb p l=-1∧∀ x∈l,p x=false)∨∃ (i:Nat) (hi:i<l.length),Cb p l=i∧p l[i]=true∧∀ k (hk:k<l.length),k<i→p l[k]=false:=by
 unfold Cb
 cases h:l.findIdx? p with
 | none=>exact .inl ⟨rfl,by simpa using h⟩
 | some i =>
  rw[List.findIdx?_eq_some_iff_getElem]at h
  obtain ⟨hi,h1,h2⟩:=h
  exact .inr ⟨i,hi,E,h1,fun k hk hki=>by simpa using h2 k hki⟩
theorem Ma (l:List EntryM) (hl:l.length<2147483648):Sy.Spec Tryz.prog 243 [.sl 3 Az l] [] (.osl 0) [(0,.row 3 Az l)]:=Ab Γ hm 100 F243 Tryz.ntmps243 rfl fun F hF=>by
 conv=>whnf
 refine Dz E (.inl E) E E E .sl E E ?_
 intro b hb
 cases b
 ·(refine rg ?_;(conv=>whnf);refine aF ?_;refine rg ?_;conv=>whnf)
  refine Ah (Al Γ.toTy 7 E E E E E (.lit (e:=Az) (l:=[]) E E) .sl qy (by simp;omega) (by simp;omega)) E E ?_
  refine rg ?_;conv=>whnf
  exact done E (.cons .tmp .nil) [(0,7)] [(0,.row 3 Az l)] (fun _ h=>h) E E ⟨Y,⟨.inl E,E,Y⟩,E,E⟩
 ·have h0:l=[]:=List.eq_nil_of_length_eq_zero (hb rfl)
  subst h0
  (refine rg ?_;(conv=>whnf);refine aT ?_;refine rg ?_;conv=>whnf)
  refine Cf 2 1000 3 Az E E ?_
  exact done E (.cons .tmp .nil) [(0,1000)] [(0,.row 3 Az [])] (fun _ h=>h) E E ⟨Y,⟨.inl E,E,Y⟩,E,E⟩
theorem J4 (l:List EntryM) (p:EntryM→Bool) (f:FuncId) (first cap:List SV) (hc:(SV.clo (.func f) first cap).inn []=true) (hf:∀ x∈l,E9 Tryz.prog f (first++[Az x]++cap) (Ad (p x))) (hl:An l) :
  Sy.Spec Tryz.prog 310 [.sl 3 Az l,.clo (.func f) first cap] [] (Aa (Cb p l)) []:=Ab Γ hm 100 F310 Tryz.ntmps310 rfl fun F hF=>by
 unfold An at hl
 have hin:∀ x:EntryM,B8 [] (first++[Az x]++cap)=true:=fun x=>Cn hc rfl
 conv=>whnf
 refine A2 l.length (fun j=>C7 (fun _ x=>!(p x)) l j) (fun j=>[(0,.sl 3 Az l),(1,.clo (.func f) first cap),(7,Aa l.length),(8,Aa j)]) (fun _=>[]) [] (Ax _ _) ⟨⟨E,E,Bb _,hc,E,E,E,E,Y⟩,Y,E,E⟩ ?_
 intro j hj hI
 refine rg ?_;conv=>whnf
 refine⟨fun h=>?_,fun h=>?_⟩
 ·have h:=of_decide_eq_true h
  have hj2:j<l.length:=by omega
  refine rg ?_;conv=>whnf
  refine⟨E,by omega,by omega,?_⟩
  conv=>whnf
  refine Ds (hf l[j] (List.getElem_mem hj2)) E E E (by simp only[hin];rfl) E E ?_
  refine rg ?_;conv=>whnf
  refine⟨fun h2=>?_,fun h2=>?_⟩
  ·refine rg ?_;conv=>whnf
   refine Ac E (.cons .tmp .nil) (congrArg Aa ?_) E
   exact C9 hj2 (fun i hi hij=>by simpa using hI i hi hij) h2
  ·refine rg ?_;conv=>whnf
   refine⟨by unfold I64;omega,?_⟩
   conv=>whnf
   exact A0 [] hI hj2 (As hI hj2 (by simp[h2])) ⟨⟨E,E,Bb _,hc,E,E,E,E,Y⟩,Y,E,E⟩
 ·have h:=of_decide_eq_false h
  refine rg ?_;conv=>whnf
  refine Ac E (.cons .tmp .nil) (congrArg Aa ?_) E
  exact Dv (fun i hi=>by simpa using hI i hi qn)
theorem Sv (l:List EntryM) (p:EntryM→Bool) (f:FuncId) (first cap:List SV) (hc:(SV.clo (.func f) first cap).inn []=true) (hc0:(SV.clo (.func f) first cap).inn [0]=true) (hf:∀ x∈l,E9 Tryz.prog f (first++[Az x]++cap) (Ad (p x))) (hl:An l) :
  Sy.Spec Tryz.prog 245 [.osl 0,.clo (.func f) first cap] [(0,.row 3 Az l)] (.osl 1) [(0,.non),(1,.row 3 Az (l.filter fun x=>!(p x)))]:=Ab Γ hm 100 F245 Tryz.ntmps245 rfl fun F hF=>by
 have qi:=J4 l p f first cap hc hf hl
 unfold An at hl
 have hin:∀ x:EntryM,B8 [] (first++[Az x]++cap)=true:=fun x=>Cn hc rfl
 conv=>whnf
 refine Adk [0] qi F310 E (.cons (.row E E) (.cons (.refl _) .nil)) (by simp only[B8,hc,Bool.and_true];rfl) E E ?_
 rcases Kw p l with ⟨h1,h2⟩ | ⟨i,hi,h1,h2,h3⟩
 ·rw[h1]
  have e1:(l.filter fun x=>!(p x))=l:=List.filter_eq_self.2 (fun x hx=>by simp[h2 x hx])
  rw[e1]
  (refine rg ?_;(conv=>whnf);refine aT ?_;refine rg ?_;conv=>whnf)
  refine Af7 0 1000 [0,4] E E qx (by simp;exact⟨E,E⟩) ?_
  exact done E (.cons .tmp .nil) [(0,0),(1,1000)] _ (fun _ h=>h) E E ⟨Y,⟨.inl E,E,.inl E,E,Y⟩,E,E⟩
 obtain ⟨f1,f2⟩:=Y5 (fun x=>!(p x)) l i qn (fun k hk hki=>by simp[h3 k hk hki])
 have g1:dfC (fun x=>!(p x)) l (i+1+0)=l:=by
  show dfC (fun x=>!(p x)) l (i+1)=l
  simp only[dfC,List.getElem?_eq_getElem hi]
  rw[if_neg (by simp[h2]),f1]
 have g2:D8 (fun x=>!(p x)) l (i+1+0)=i:=by
  show D8 (fun x=>!(p x)) l (i+1)=i
  simp only[D8,List.getElem?_eq_getElem hi]
  rw[if_neg (by simp[h2]),f2]
 rw[h1]
 (refine rg ?_;(conv=>whnf);refine aF ?_;refine rg ?_;conv=>whnf)
 refine⟨by unfold I64;omega,?_⟩
 conv=>whnf
 refine A3 (l.length-(i+1)) (fun j=>[(0,.osl 0),(1,.clo (.func f) first cap),(5,Aa (D8 (fun x=>!(p x)) l (i+1+j))),(6,Aa ((i+1+j:Nat)))]) (fun j=>[(0,.row 3 Az (dfC (fun x=>!(p x)) l (i+1+j)))]) []
  ⟨⟨rfl,rfl,Bb _,hc0,congrArg Aa (congrArg Int.ofNat g2),rfl,congrArg (fun z=>SV.val (.int .i64 z)) qn,rfl,trivial⟩,⟨.inl (congrArg (Ob.row 3 Az) g1),rfl,trivial⟩,rfl,rfl⟩ ?_
 intro j hj
 have hcl:=Vb (fun x=>!(p x)) l (i+1+j)
 have hdl:=Qb (fun x=>!(p x)) l (i+1+j)
 have hget:=Ag0 (fun x=>!(p x)) l (i+1+j) (i+1+j) (Nat.le_refl _)
 have s1:∀ h:i+1+j<l.length,D8 (fun x=>!(p x)) l (i+1+(j+1))=if (!(p l[i+1+j]))=true then D8 (fun x=>!(p x)) l (i+1+j)+1 else D8 (fun x=>!(p x)) l (i+1+j):=fun hlt=>by
  show D8 (fun x=>!(p x)) l (i+1+j+1)=_
  simp only[D8,List.getElem?_eq_getElem hlt]
 have s2:∀ h:i+1+j<l.length,dfC (fun x=>!(p x)) l (i+1+(j+1))=if (!(p l[i+1+j]))=true then (dfC (fun x=>!(p x)) l (i+1+j)).set (D8 (fun x=>!(p x)) l (i+1+j)) l[i+1+j] else dfC (fun x=>!(p x)) l (i+1+j):=fun hlt=>by
  show dfC (fun x=>!(p x)) l (i+1+j+1)=_
  simp only[dfC,List.getElem?_eq_getElem hlt]
 have htk:=fun h=>Add (fun x=>!(p x)) l (i+1+j) h
 obtain ⟨D,hD⟩:∃ D,dfC (fun x=>!(p x)) l (i+1+j)=D:=⟨_,rfl⟩
 obtain ⟨K,hK⟩:∃ K,D8 (fun x=>!(p x)) l (i+1+j)=K:=⟨_,rfl⟩
 rw[hD]at hdl hget s2 htk ⊢
 rw[hK]at hcl s1 s2 htk ⊢
 refine rg ?_;conv=>whnf
 refine⟨fun h=>?_,fun h=>?_⟩
 ·have hlt:i+1+j<l.length:=by have:=of_decide_eq_true h;omega
  have hfx:=hf l[i+1+j] (List.getElem_mem hlt)
  have s1:=s1 hlt
  have s2:=s2 hlt
  rw[List.getElem?_eq_getElem hlt,List.getElem?_eq_getElem qn]at hget
  have hget:=Option.some.inj hget
  obtain ⟨x,hx⟩:∃ x,l[i+1+j]=x:=⟨_,rfl⟩
  rw[hx]at hfx s1 s2 hget
  refine rg ?_;conv=>whnf
  refine⟨by omega,by simp;omega,?_⟩
  conv=>whnf
  refine⟨E,by omega,?_⟩
  rw[show D[((i+1+j:Nat):Int).toNat]'qn=x from hget]
  conv=>whnf
  refine Ds hfx E E E (by simp only[hin];rfl) E E ?_
  cases hpx:p x
  ·rw[hpx]at s1 s2
   (refine rg ?_;(conv=>whnf);refine aT ?_;refine rg ?_;conv=>whnf)
   refine⟨by omega,by simp;omega,?_⟩
   conv=>whnf
   refine⟨E,by omega,x,E,E,?_⟩
   conv=>whnf
   refine⟨by unfold I64;omega,?_⟩
   conv=>whnf
   refine⟨by unfold I64;omega,?_⟩
   conv=>whnf
   exact Av [] qn ⟨⟨E,E,Bb _,hc0,congrArg Aa (congrArg Int.ofNat s1),E,congrArg (fun z=>SV.val (.int .i64 z)) qn,E,Y⟩,⟨.inl (congrArg (Ob.row 3 Az) s2),E,Y⟩,E,E⟩
  ·rw[hpx]at s1 s2
   (refine rg ?_;(conv=>whnf);refine aF ?_;refine rg ?_;conv=>whnf)
   refine⟨by unfold I64;omega,?_⟩
   conv=>whnf
   exact Av [] qn ⟨⟨E,E,Bb _,hc0,congrArg Aa (congrArg Int.ofNat s1),E,congrArg (fun z=>SV.val (.int .i64 z)) qn,E,Y⟩,⟨.inl (congrArg (Ob.row 3 Az) s2),E,Y⟩,E,E⟩
 ·have hend:i+1+j=l.length:=by have:=of_decide_eq_false h;omega
  have hne:D≠[]:=fun h=>by rw[h]at hdl;simp at hdl;omega
  have htk:=htk qn
  rw[show l.take (i+1+j)=l from List.take_of_length_le qn]at htk
  refine Ag7 0 [0] E hne (by simp;rfl) ?_
  intro b cap' hcap
  refine rg ?_;conv=>whnf
  refine Ah (Cr Γ.toTy E E E E (.inr ⟨_,_,E,E⟩) (.inl ⟨E,E⟩) qn qn) E E ?_
  refine rg ?_;conv=>whnf
  refine Ah (Ir Γ.toTy 0 (k:=K) E E E E qx E E E qn qn) E E ?_
  refine rg ?_;conv=>whnf
  refine Ah (Cr Γ.toTy E E E E (.inl ⟨E,E⟩) (.inr ⟨_,_,E,E⟩) qn qn) E E ?_
  refine rg ?_;conv=>whnf
  refine Ve 0 1000 [4] K E E (by rw[List.length_take];omega) (fun i hi=>?_) ?_
  ·rw[List.mem_singleton]at hi
   subst hi
   show SV.val (.slice (some (if cap'=0 then ⟨b,0,none⟩ else ⟨b,0 * 3,none⟩)) (K-0) (cap'-0))=_
   split<;>simp
  refine done E (.cons .tmp .nil) [(0,0),(1,1000)] _ (fun _ h=>h) E E ⟨Y,⟨.inl E,E,.inl ?_,E,Y⟩,E,E⟩
  rw[← htk]
  exact congrArg (Ob.row 3 Az) (by rw[List.take_take,Nat.min_self])
theorem X8 (l:List EntryM) (i:Nat) (hi:i<l.length) (hl:An l) :
  Sy.Spec Tryz.prog 344 [.osl 0,Aa i,Aa ((i+1:Nat):Int)] [(0,.row 3 Az l)] (.osl 1) [(0,.non),(1,.row 3 Az (l.take i++l.drop (i+1)))]:=Ab Γ hm 100 F344 Tryz.ntmps344 rfl fun F hF=>by
 unfold An at hl
 have hne:l≠[]:=fun h=>by rw[h]at hi;simp at hi
 conv=>whnf
 refine Ag7 0 [0,8] E hne (by simp;exact⟨E,E⟩) ?_
 intro b cap hcap
 refine rg ?_;conv=>whnf
 refine Ah (X0 Γ.toTy E E E E E E E qn qn hcap) E E ?_
 refine rg ?_;conv=>whnf
 refine⟨fun h=>absurd h (by simp;omega),fun _=>?_⟩
 refine rg ?_;conv=>whnf
 refine Bo (Cr Γ.toTy E E E E (.inl ⟨E,E⟩) (.inr ⟨_,_,E,E⟩) qn qn) qq E ?_
 refine rd qq ?_;conv=>whnf
 refine Bo (Cr (hi:=l.length) Γ.toTy E E E E (.inr ⟨_,_,E,E⟩) (.inl ⟨E,E⟩) qn qn) qq E ?_
 refine rd qq ?_;conv=>whnf
 have hif:(if cap=0 then (⟨b,0,none⟩:Addr) else ⟨b,0 * 3,none⟩)=⟨b,0,none⟩:=by split<;>simp
 refine Bo (Uz Γ.toTy 0 (n:=l.length) (i:=i) (j:=i+1) E E E (congrArg (fun z=>SV.val (.slice (some z) i cap)) hif) E E E E qn qn) qq E ?_
 refine rd qq ?_;conv=>whnf
 refine⟨qq,?_⟩
 conv=>whnf
 refine Ah (Cr (lo:=i+(l.length-(i+1))) (hi:=l.length) Γ.toTy E E E E (.inr ⟨_,_,E,E⟩) (.inr ⟨_,_,E,E⟩) qn qn) E E ?_
 refine rg ?_;conv=>whnf
 have hll:(l.take i++l.drop (i+1)).length=i+(l.length-(i+1)):=by rw[List.length_append,List.length_take,List.length_drop];omega
 refine Ah (Ir Γ.toTy 0 (k:=i+(l.length-(i+1))) E E E E qx E E E qn qn) E E ?_
 refine rg ?_;conv=>whnf
 refine Ve 0 1000 [6] (i+(l.length-(i+1))) E E (by rw[List.length_take];omega) (by simp;rfl) ?_
 refine done E (.cons .tmp .nil) [(0,0),(1,1000)] _ (fun _ h=>h) E E ⟨Y,⟨.inl E,E,.inl ?_,E,Y⟩,E,E⟩
 exact congrArg (Ob.row 3 Az) (by rw[List.take_take,Nat.min_self];exact(List.take_of_length_le qn).symm)
theorem T1 (m:Nat) (h:m<18446744073709551616):Sy.Spec Tryz.prog 294 [A9 m] [] (Ad (Hj m)) []:=Ab Γ hm 100 F294 Tryz.ntmps294 rfl fun F hF=>by
 have q:=Jz m h
 conv=>whnf
 refine⟨fun h1=>?_,fun h1=>?_⟩
 ·have h2:m≤281474976710655:=by simp at h1;omega
  refine rg ?_;conv=>whnf
  refine Ag q F226 E E E E E ?_
  refine rg ?_;conv=>whnf
  exact Ac E (.cons .tmp .nil) (congrArg Ad (by rw[Hj,decide_eq_true h2,Bool.true_and])) E
 ·have h2:¬ m≤281474976710655:=by simp at h1;omega
  refine rg ?_;conv=>whnf
  exact Ac E (.cons .tmp .nil) (congrArg Ad (by rw[Hj,decide_eq_false h2,Bool.false_and])) E
theorem Oy (i:Int):Sy.Spec Tryz.prog 244 [Aa i] [] (Ad (E0 i)) []:=Ab Γ hm 100 F244 Tryz.ntmps244 rfl fun F hF=>by
 conv=>whnf
 (repeat' (first | (refine⟨fun h=>?_,fun h=>?_⟩<;>(repeat (first | simp only[decide_eq_true_eq]at h | simp only[decide_eq_false_iff_not]at h))<;>((refine rg ?_);(conv=>whnf))) | (refine Ac rfl (.cons .tmp .nil) ?_ rfl)))
 all_goals (refine congrArg Ad ?_)
 all_goals grind [E0]
theorem Ahf (m:Nat) (e:EntryM):Sy.Spec Tryz.prog 342 [Az e,.ref 1 (A9 m) 0] [] (Ad (decide (e.mac=m))) []:=Ab Γ hm 100 F342 Tryz.ntmps342 rfl fun F hF=>by
 conv=>whnf
 refine Ac E (.cons .tmp .nil) ?_ E
 refine congrArg Ad ?_
 rw[Bool.eq_iff_iff];simp;omega
theorem Tg (t:List EntryM) (m:Nat) (hl:An t):Sy.Spec Tryz.prog 295 [.sl 3 Az t,A9 m] [] (Aa (D3 t m)) []:=Ab Γ hm 100 F295 Tryz.ntmps295 rfl fun F hF=>by
 have q:=J4 t (fun e=>decide (e.mac=m)) 342 [] [.ref 1 (A9 m) 0] rfl (fun x _=>⟨⟨_,_,F342⟩,Ahf m x⟩) hl
 conv=>whnf
 refine Be 3 1 (A9 m) E E E ?_
 refine rg ?_;conv=>whnf
 refine Ag q F310 E E E E E ?_
 refine rg ?_;conv=>whnf
 exact Ac E (.cons .tmp .nil) E E
theorem Aj6 (t:List EntryM) (m:Nat) (hl:An t):Sy.Spec Tryz.prog 349 [.sl 3 Az t,A9 m] [] (.tup [Aa (findE t m).1,Ad (findE t m).2]) []:=Ab Γ hm 100 F349 Tryz.ntmps349 rfl fun F hF=>by
 have q:=Tg t m hl
 have hlt:D3 t m<t.length:=D6 _ _
 have hres:=findE.eq_1 t m
 generalize findE t m=res at *
 generalize D3 t m=i at *
 conv=>whnf
 refine Ag q F295 E E E E E ?_
 refine rg ?_;conv=>whnf
 refine⟨fun h=>?_,fun h=>?_⟩
 ·rw[if_pos (by simpa using h)]at hres
  subst hres
  refine rg ?_;conv=>whnf
  exact Ac E (.cons .tmp (.cons .tmp .nil)) E E
 ·have h0:¬ i<0:=by simpa using h
  have hi:i.toNat<t.length:=by omega
  rw[if_neg h0,List.getElem?_eq_getElem hi]at hres
  subst hres
  refine rg ?_;conv=>whnf
  refine⟨E,by omega,by omega,?_⟩
  conv=>whnf
  exact Ac E (.cons .tmp (.cons .tmp .nil)) E E
theorem Tf (t:List EntryM) (hl:An t) (hmac:∀ e∈t,e.mac<18446744073709551616):Sy.Spec Tryz.prog 230 [.sl 3 Az t] [] (Ad (tableB t)) []:=Ab Γ hm 100 F230 Tryz.ntmps230 rfl fun F hF=>by
 unfold An at hl
 have hres:=tableB.eq_1 t
 generalize tableB t=res at *
 conv=>whnf
 refine⟨fun h=>?_,fun h=>?_⟩
 ·have h8:¬ t.length≤8:=by simp at h;omega
  rw[decide_eq_false h8,Bool.false_and]at hres
  subst hres
  refine rg ?_;conv=>whnf
  exact Ac E (.cons .tmp .nil) E E
 have h8:t.length≤8:=by simp at h;omega
 rw[decide_eq_true h8,Bool.true_and]at hres
 refine rg ?_;conv=>whnf
 refine A2 t.length (fun j=>C7 (Tv t) t j) (fun j=>[(0,.sl 3 Az t),(8,.sl 3 Az t),(9,Aa t.length),(10,Aa j)]) (fun _=>[]) [] (Ax _ _) ⟨⟨E,E,E,E,E,E,E,E,Y⟩,Y,E,E⟩ ?_
 intro j hj hI
 refine rg ?_;conv=>whnf
 refine⟨fun h=>?_,fun h=>?_⟩
 ·have hlt:j<t.length:=by have:=of_decide_eq_true h;omega
  have q1:=T1 t[j].mac (hmac _ (List.getElem_mem hlt))
  have q2:=Oy t[j].seen
  have q3:=Tg t t[j].mac hl
  have hent:Tv t j t[j]=(Hj t[j].mac && E0 t[j].seen && decide (D3 t t[j].mac=j)):=rfl
  have hbad:Tv t j t[j]=false→res=false:=fun hf=>by rw[hres];exact A5 hlt hf
  have hgood:Tv t j t[j]=true→C7 (Tv t) t (j+1):=fun ht=>As hI hlt ht
  refine rg ?_;conv=>whnf
  refine⟨E,by omega,by omega,?_⟩
  rw[show t[((j:Nat):Int).toNat]'qn=t[j] from rfl]
  generalize t[j]=x at *
  conv=>whnf
  refine Ag q1 F294 E E E E E ?_
  cases h1:Hj x.mac
  ·rw[hbad (by rw[hent,h1];rfl)]
   (refine rg ?_;(conv=>whnf);refine aT ?_;refine rg ?_;(conv=>whnf);refine aT ?_;refine rg ?_;(conv=>whnf);refine aT ?_;refine rg ?_;conv=>whnf)
   exact Ac E (.cons .tmp .nil) E E
  (refine rg ?_;(conv=>whnf);refine aF ?_;refine rg ?_;conv=>whnf)
  refine Ag q2 F244 E E E E E ?_
  cases h2:E0 x.seen
  ·rw[hbad (by rw[hent,h1,h2];rfl)]
   (refine rg ?_;(conv=>whnf);refine aT ?_;refine rg ?_;(conv=>whnf);refine aT ?_;refine rg ?_;conv=>whnf)
   exact Ac E (.cons .tmp .nil) E E
  (refine rg ?_;(conv=>whnf);refine aF ?_;refine rg ?_;conv=>whnf)
  refine Ag q3 F295 E E E E E ?_
  refine rg ?_;conv=>whnf
  refine⟨fun h3=>?_,fun h3=>?_⟩
  ·rw[hbad (by rw[hent,h1,h2,decide_eq_false (by simpa using h3)];rfl)]
   refine rg ?_;conv=>whnf
   exact Ac E (.cons .tmp .nil) E E
  ·have h4:=hgood (by rw[hent,h1,h2,decide_eq_true (by simpa using h3)];rfl)
   refine rg ?_;conv=>whnf
   refine⟨by unfold I64;omega,?_⟩
   conv=>whnf
   exact A0 [] hI qn h4 ⟨⟨E,E,E,E,E,E,E,E,Y⟩,Y,E,E⟩
 ·have hend:j=t.length:=by have:=of_decide_eq_false h;omega
  subst hend
  rw[hres.trans (B4 hI (Nat.le_refl _))]
  refine rg ?_;conv=>whnf
  exact Ac E (.cons .tmp .nil) E E
theorem Am4 (now:Int) (hn:E0 now=true) (e:EntryM):Sy.Spec Tryz.prog 246 [Az e,.ref 1 (Aa now) 0] [] (Ad (decide (e.seen<now-4))) []:=Ab Γ hm 100 F246 Tryz.ntmps246 rfl fun F hF=>by
 have hn2:0≤now∧now≤1099511627776:=by simpa [E0] using hn
 conv=>whnf
 refine⟨by unfold I64;omega,?_⟩
 conv=>whnf
 exact Ac E (.cons .tmp .nil) E E
theorem Am3 (t:List EntryM) (now:Int) (hl:An t) (hmac:∀ e∈t,e.mac<18446744073709551616):Sy.Spec Tryz.prog 178 [.sl 3 Az t,Aa now] [] (.sl 3 Az (ageT t now)) []:=Ab Γ hm 100 F178 Tryz.ntmps178 rfl fun F hF=>by
 have hl2:=hl
 unfold An at hl2
 have hres:=ageT.eq_1 t now
 generalize ageT t now=res at *
 have q1:=Tf t hl hmac
 have q2:=Oy now
 conv=>whnf
 refine Ah (Aj [(0,55)] E F243 (Ma t hl2) E Y E ⟨.inr E,Y⟩) E E ?_
 refine rg ?_;conv=>whnf
 refine Ag q1 F230 E E E E E ?_
 cases h1:tableB t
 ·rw[if_pos (.inl h1)]at hres
  subst hres
  (refine rg ?_;(conv=>whnf);refine aT ?_;refine rg ?_;(conv=>whnf);refine aT ?_;refine rg ?_;conv=>whnf)
  refine At 55 E ?_
  exact Ac E (.cons .tmp .nil) E E
 (refine rg ?_;(conv=>whnf);refine aF ?_;refine rg ?_;conv=>whnf)
 refine Ag q2 F244 E E E E E ?_
 cases h2:E0 now
 ·rw[if_pos (.inr h2)]at hres
  subst hres
  (refine rg ?_;(conv=>whnf);refine aT ?_;refine rg ?_;conv=>whnf)
  refine At 55 E ?_
  exact Ac E (.cons .tmp .nil) E E
 rw[if_neg (by simp[h1,h2])]at hres
 (refine rg ?_;(conv=>whnf);refine aF ?_;refine rg ?_;conv=>whnf)
 refine Be 3 1 (Aa now) E E E ?_
 refine rg ?_;conv=>whnf
 have q3:=Sv t (fun e=>decide (e.seen<now-4)) 246 [] [.ref 1 (Aa now) 0] rfl rfl (fun x _=>⟨⟨_,_,F246⟩,Am4 now h2 x⟩) hl
 refine Ah (Aj [(0,55),(1,56)] E F245 q3 E ⟨E,Y⟩ E ⟨.inl E,.inr E,Y⟩) E E ?_
 refine rg ?_;conv=>whnf
 refine At 56 E ?_
 refine Ac E (.cons .tmp .nil) ?_ E
 subst hres
 refine congrArg (SV.sl 3 Az) (List.filter_congr fun e _=>?_)
 rw[Bool.eq_iff_iff];simp
theorem Wc (t:List EntryM) (j:Nat) (h:0<t.length) (hj:j≤t.length):oldestU t j<t.length:=by
 induction j with
 | zero=>exact h
 | succ j ih =>
  rw[oldestU]
  split
  ·omega
  ·exact ih qn
theorem Ad7 (t:List EntryM) (hl:An t) (h0:0<t.length):Sy.Spec Tryz.prog 343 [.sl 3 Az t] [] (Aa (oldestU t t.length:Nat)) []:=Ab Γ hm 100 F343 Tryz.ntmps343 rfl fun F hF=>by
 unfold An at hl
 conv=>whnf
 refine A3 t.length (fun j=>[(0,.sl 3 Az t),(3,Aa (oldestU t j:Nat)),(6,.sl 3 Az t),(7,Aa t.length),(8,Aa j)]) (fun _=>[]) [] ⟨⟨E,E,E,E,E,E,E,E,E,E,Y⟩,Y,E,E⟩ ?_
 intro j hj
 refine rg ?_;conv=>whnf
 refine⟨fun h=>?_,fun h=>?_⟩
 ·have hlt:j<t.length:=by have:=of_decide_eq_true h;omega
  have hol:=Wc t j h0 qn
  have hs:=oldestU.eq_2 t j
  rw[List.getElem?_eq_getElem hlt,List.getElem?_eq_getElem hol]at hs
  obtain ⟨o,ho⟩:∃ o,oldestU t j=o:=⟨_,rfl⟩
  simp only[ho]at hs hol ⊢
  have hs2:oldestU t (j+1)=if t[j].seen<t[o].seen then j else o:=hs
  refine rg ?_;conv=>whnf
  refine⟨E,by omega,by omega,?_⟩
  rw[show t[((j:Nat):Int).toNat]'qn=t[j] from rfl]
  conv=>whnf
  refine⟨E,by omega,by omega,?_⟩
  rw[show t[((o:Nat):Int).toNat]'qn=t[o] from rfl]
  conv=>whnf
  refine⟨qq,?_⟩
  conv=>whnf
  refine⟨fun h2=>?_,fun h2=>?_⟩
  ·rw[if_pos (of_decide_eq_true h2)]at hs2
   refine rg ?_;conv=>whnf
   refine⟨by unfold I64;omega,?_⟩
   conv=>whnf
   exact Av [] qn ⟨⟨E,E,congrArg (fun z:Nat=>Aa z) hs2,E,E,E,E,E,E,E,Y⟩,Y,E,E⟩
  ·rw[if_neg (of_decide_eq_false h2)]at hs2
   refine rg ?_;conv=>whnf
   refine⟨by unfold I64;omega,?_⟩
   conv=>whnf
   exact Av [] qn ⟨⟨E,E,congrArg (fun z:Nat=>Aa z) hs2,E,E,E,E,E,E,E,Y⟩,Y,E,E⟩
 ·have:j=t.length:=by have:=of_decide_eq_false h;omega
  subst this
  refine rg ?_;conv=>whnf
  exact Ac E (.cons .tmp .nil) E E
theorem Yf (t:List EntryM) (m:Nat) (wh now:Int) (hl:An t) (hmac:∀ e∈t,e.mac<18446744073709551616) (hm64:m<18446744073709551616) :
  Sy.Spec Tryz.prog 296 [.sl 3 Az t,A9 m,Aa wh,Aa now] [] (.sl 3 Az (learnT t m wh now)) []:=Ab Γ hm 100 F296 Tryz.ntmps296 rfl fun F hF=>by
 have hl2:=hl
 unfold An at hl2
 have hres:=learnT.eq_1 t m wh now
 generalize learnT t m wh now=res at *
 have q1:=Tf t hl hmac
 have q2:=T1 m hm64
 have q3:=Oy now
 have q4:=Tg t m hl
 conv=>whnf
 refine Ah (Aj [(0,55)] E F243 (Ma t hl2) E Y E ⟨.inr E,Y⟩) E E ?_
 refine rg ?_;conv=>whnf
 refine Ag q1 F230 E E E E E ?_
 cases h1:tableB t
 ·rw[if_pos (.inl h1)]at hres
  subst hres
  (refine rg ?_;(conv=>whnf);refine aT ?_;refine rg ?_;(conv=>whnf);refine aT ?_;refine rg ?_;(conv=>whnf);refine aT ?_;refine rg ?_;conv=>whnf)
  refine At 55 E ?_
  exact Ac E (.cons .tmp .nil) E E
 (refine rg ?_;(conv=>whnf);refine aF ?_;refine rg ?_;conv=>whnf)
 refine Ag q2 F294 E E E E E ?_
 cases h2:Hj m
 ·rw[if_pos (.inr (.inl h2))]at hres
  subst hres
  (refine rg ?_;(conv=>whnf);refine aT ?_;refine rg ?_;(conv=>whnf);refine aT ?_;refine rg ?_;conv=>whnf)
  refine At 55 E ?_
  exact Ac E (.cons .tmp .nil) E E
 (refine rg ?_;(conv=>whnf);refine aF ?_;refine rg ?_;conv=>whnf)
 refine Ag q3 F244 E E E E E ?_
 cases h3:E0 now
 ·rw[if_pos (.inr (.inr h3))]at hres
  subst hres
  (refine rg ?_;(conv=>whnf);refine aT ?_;refine rg ?_;conv=>whnf)
  refine At 55 E ?_
  exact Ac E (.cons .tmp .nil) E E
 rw[if_neg (by simp[h1,h2,h3])]at hres
 have ht8:t.length≤8:=by simp only[tableB,Bool.and_eq_true,decide_eq_true_eq]at h1;exact h1.1
 have hfound:∀ hi:0≤D3 t m,∃ h:(D3 t m).toNat<t.length,t[(D3 t m).toNat].mac=m:=fun hi=>by
  rcases Kw (fun e=>decide (EntryM.mac e=m)) t with ⟨h,_⟩ | ⟨k,hk,h,h2,_⟩
  ·rw[D3,h]at hi
   exact absurd hi qx
  ·have e1:D3 t m=k:=h
   simp only[e1,Int.toNat_natCast]
   exact⟨hk,of_decide_eq_true h2⟩
 generalize D3 t m=i at *
 (refine rg ?_;(conv=>whnf);refine aF ?_;refine rg ?_;conv=>whnf)
 refine Ag q4 F295 E E E E E ?_
 refine rg ?_;conv=>whnf
 refine⟨fun h4=>?_,fun h4=>?_⟩
 ·have h5:0≤i:=by simpa using h4
  obtain ⟨hi,hmm⟩:=hfound h5
  rw[if_pos h5]at hres
  refine rg ?_;conv=>whnf
  have hne:t≠[]:=fun h=>by rw[h]at hi;simp at hi
  refine⟨h5,by omega,?_⟩
  conv=>whnf
  refine⟨hne,?_⟩
  conv=>whnf
  refine⟨E,hi,⟨t[i.toNat].mac,wh,t[i.toNat].seen⟩,E,E,?_⟩
  conv=>whnf
  refine⟨h5,by simp;omega,?_⟩
  conv=>whnf
  refine⟨by simp;exact hne,?_⟩
  conv=>whnf
  refine⟨E,by simp;omega,⟨t[i.toNat].mac,wh,now⟩,by rw[List.getElem_set_self];rfl,by rw[List.getElem_set_self];rfl,?_⟩
  conv=>whnf
  refine At 55 E ?_
  refine rg ?_;conv=>whnf
  refine Ac E (.cons .tmp .nil) (congrArg (SV.sl 3 Az) ?_) E
  rw[hres,List.set_set,hmm]
 ·have h5:¬ 0≤i:=by simp at h4 ⊢;omega
  rw[if_neg h5]at hres
  refine rg ?_;conv=>whnf
  refine⟨fun h6=>?_,fun h6=>?_⟩
  ·have h7:t.length=8:=by simp at h6;omega
   rw[if_pos h7]at hres
   have q5:=Ad7 t hl qn
   have hol:=Wc t t.length qn (Nat.le_refl _)
   refine rg ?_;conv=>whnf
   refine Adk [55] q5 F343 E (.cons (.row E E) .nil) E E E ?_
   generalize oldestU t t.length=o at *
   have q6:=X8 t o hol hl
   refine rg ?_;conv=>whnf
   refine⟨by unfold I64;omega,?_⟩
   conv=>whnf
   refine Ah (Aj [(0,55),(1,56)] E F344 q6 E ⟨E,Y⟩ E ⟨.inl E,.inr E,Y⟩) E E ?_
   refine rg ?_;conv=>whnf
   refine Ah (Al Γ.toTy 60 rfl rfl rfl rfl rfl (.row rfl) (.lit (e:=Az) (l:=[⟨m,wh,now⟩]) rfl rfl) (fun j hj=>by cases hj;decide) (by simp;omega) (by simp;omega)) rfl rfl ?_
   refine At 60 E ?_
   refine rg ?_;conv=>whnf
   refine Ac E (.cons .tmp .nil) (congrArg (SV.sl 3 Az) ?_) E
   rw[hres,List.eraseIdx_eq_take_drop_succ]
  ·have h7:¬ t.length=8:=by simp at h6;omega
   rw[if_neg h7]at hres
   refine rg ?_;conv=>whnf
   refine Ah (Al Γ.toTy 60 rfl rfl rfl rfl rfl (.row rfl) (.lit (e:=Az) (l:=[⟨m,wh,now⟩]) rfl rfl) (fun j hj=>by cases hj;decide) (by simp;omega) (by simp;omega)) rfl rfl ?_
   refine At 60 E ?_
   refine rg ?_;conv=>whnf
   exact Ac E (.cons .tmp .nil) (congrArg (SV.sl 3 Az) hres) E
theorem Aap (l:List Int) (hl:l.length<2147483648):Sy.Spec Tryz.prog 170 [.sl 1 Aa l] [] (.osl 0) [(0,.row 1 Aa l)]:=Ab Γ hm 100 F170 Tryz.ntmps170 rfl fun F hF=>by
 conv=>whnf
 refine Dz E (.inl E) E E E .sl E E ?_
 intro b hb
 cases b
 ·(refine rg ?_;(conv=>whnf);refine aF ?_;refine rg ?_;conv=>whnf)
  refine Ah (Al Γ.toTy 7 E E E E E (.lit (e:=Aa) (l:=[]) E E) .sl qy (by simp;omega) (by simp;omega)) E E ?_
  refine rg ?_;conv=>whnf
  exact done E (.cons .tmp .nil) [(0,7)] [(0,.row 1 Aa l)] (fun _ h=>h) E E ⟨Y,⟨.inl E,E,Y⟩,E,E⟩
 ·have h0:l=[]:=List.eq_nil_of_length_eq_zero (hb rfl)
  subst h0
  (refine rg ?_;(conv=>whnf);refine aT ?_;refine rg ?_;conv=>whnf)
  refine Cf 2 1000 1 Aa E E ?_
  exact done E (.cons .tmp .nil) [(0,1000)] [(0,.row 1 Aa [])] (fun _ h=>h) E E ⟨Y,⟨.inl E,E,Y⟩,E,E⟩
theorem U1 (l:List Int) (p:Int→Bool) (f:FuncId) (first cap:List SV) (hc:(SV.clo (.func f) first cap).inn []=true) (hc0:(SV.clo (.func f) first cap).inn [0]=true) (hf:∀ x∈l,E9 Tryz.prog f (first++[Aa x]++cap) (Ad (p x))) (hl:An l) :
  Sy.Spec Tryz.prog 341 [.osl 0,.clo (.func f) first cap] [(0,.row 1 Aa l)] (.osl 1) [(0,.non),(1,.row 1 Aa (l.filter fun x=>!(p x)))]:=Ab Γ hm 100 F341 Tryz.ntmps341 rfl fun F hF=>by
 have qi:=Iq l p f first cap hc hf hl
 unfold An at hl
 have hin:∀ x:Int,B8 [] (first++[Aa x]++cap)=true:=fun x=>Cn hc rfl
 conv=>whnf
 refine Adk [0] qi F362 E (.cons (.row E E) (.cons (.refl _) .nil)) (by simp only[B8,hc,Bool.and_true];rfl) E E ?_
 rcases Kw p l with ⟨h1,h2⟩ | ⟨i,hi,h1,h2,h3⟩
 ·rw[h1]
  have e1:(l.filter fun x=>!(p x))=l:=List.filter_eq_self.2 (fun x hx=>by simp[h2 x hx])
  rw[e1]
  (refine rg ?_;(conv=>whnf);refine aT ?_;refine rg ?_;conv=>whnf)
  refine Af7 0 1000 [0,4] E E qx (by simp;exact⟨E,E⟩) ?_
  exact done E (.cons .tmp .nil) [(0,0),(1,1000)] _ (fun _ h=>h) E E ⟨Y,⟨.inl E,E,.inl E,E,Y⟩,E,E⟩
 obtain ⟨f1,f2⟩:=Y5 (fun x=>!(p x)) l i qn (fun k hk hki=>by simp[h3 k hk hki])
 have g1:dfC (fun x=>!(p x)) l (i+1+0)=l:=by
  show dfC (fun x=>!(p x)) l (i+1)=l
  simp only[dfC,List.getElem?_eq_getElem hi]
  rw[if_neg (by simp[h2]),f1]
 have g2:D8 (fun x=>!(p x)) l (i+1+0)=i:=by
  show D8 (fun x=>!(p x)) l (i+1)=i
  simp only[D8,List.getElem?_eq_getElem hi]
  rw[if_neg (by simp[h2]),f2]
 rw[h1]
 (refine rg ?_;(conv=>whnf);refine aF ?_;refine rg ?_;conv=>whnf)
 refine⟨by unfold I64;omega,?_⟩
 conv=>whnf
 refine A3 (l.length-(i+1)) (fun j=>[(0,.osl 0),(1,.clo (.func f) first cap),(5,Aa (D8 (fun x=>!(p x)) l (i+1+j))),(6,Aa ((i+1+j:Nat)))]) (fun j=>[(0,.row 1 Aa (dfC (fun x=>!(p x)) l (i+1+j)))]) []
  ⟨⟨rfl,rfl,Bb _,hc0,congrArg Aa (congrArg Int.ofNat g2),rfl,congrArg (fun z=>SV.val (.int .i64 z)) qn,rfl,trivial⟩,⟨.inl (congrArg (Ob.row 1 Aa) g1),rfl,trivial⟩,rfl,rfl⟩ ?_
 intro j hj
 have hcl:=Vb (fun x=>!(p x)) l (i+1+j)
 have hdl:=Qb (fun x=>!(p x)) l (i+1+j)
 have hget:=Ag0 (fun x=>!(p x)) l (i+1+j) (i+1+j) (Nat.le_refl _)
 have s1:∀ h:i+1+j<l.length,D8 (fun x=>!(p x)) l (i+1+(j+1))=if (!(p l[i+1+j]))=true then D8 (fun x=>!(p x)) l (i+1+j)+1 else D8 (fun x=>!(p x)) l (i+1+j):=fun hlt=>by
  show D8 (fun x=>!(p x)) l (i+1+j+1)=_
  simp only[D8,List.getElem?_eq_getElem hlt]
 have s2:∀ h:i+1+j<l.length,dfC (fun x=>!(p x)) l (i+1+(j+1))=if (!(p l[i+1+j]))=true then (dfC (fun x=>!(p x)) l (i+1+j)).set (D8 (fun x=>!(p x)) l (i+1+j)) l[i+1+j] else dfC (fun x=>!(p x)) l (i+1+j):=fun hlt=>by
  show dfC (fun x=>!(p x)) l (i+1+j+1)=_
  simp only[dfC,List.getElem?_eq_getElem hlt]
 have htk:=fun h=>Add (fun x=>!(p x)) l (i+1+j) h
 obtain ⟨D,hD⟩:∃ D,dfC (fun x=>!(p x)) l (i+1+j)=D:=⟨_,rfl⟩
 obtain ⟨K,hK⟩:∃ K,D8 (fun x=>!(p x)) l (i+1+j)=K:=⟨_,rfl⟩
 rw[hD]at hdl hget s2 htk ⊢
 rw[hK]at hcl s1 s2 htk ⊢
 refine rg ?_;conv=>whnf
 refine⟨fun h=>?_,fun h=>?_⟩
 ·have hlt:i+1+j<l.length:=by have:=of_decide_eq_true h;omega
  have hfx:=hf l[i+1+j] (List.getElem_mem hlt)
  have s1:=s1 hlt
  have s2:=s2 hlt
  rw[List.getElem?_eq_getElem hlt,List.getElem?_eq_getElem qn]at hget
  have hget:=Option.some.inj hget
  obtain ⟨x,hx⟩:∃ x,l[i+1+j]=x:=⟨_,rfl⟩
  rw[hx]at hfx s1 s2 hget
  refine rg ?_;conv=>whnf
  refine⟨by omega,by simp;omega,?_⟩
  conv=>whnf
  refine⟨E,by omega,?_⟩
  rw[show D[((i+1+j:Nat):Int).toNat]'qn=x from hget]
  conv=>whnf
  refine Ds hfx E E E (by simp only[hin];rfl) E E ?_
  cases hpx:p x
  ·rw[hpx]at s1 s2
   (refine rg ?_;(conv=>whnf);refine aT ?_;refine rg ?_;conv=>whnf)
   refine⟨by omega,by simp;omega,?_⟩
   conv=>whnf
   refine⟨E,by omega,x,E,E,?_⟩
   conv=>whnf
   refine⟨by unfold I64;omega,?_⟩
   conv=>whnf
   refine⟨by unfold I64;omega,?_⟩
   conv=>whnf
   exact Av [] qn ⟨⟨E,E,Bb _,hc0,congrArg Aa (congrArg Int.ofNat s1),E,congrArg (fun z=>SV.val (.int .i64 z)) qn,E,Y⟩,⟨.inl (congrArg (Ob.row 1 Aa) s2),E,Y⟩,E,E⟩
  ·rw[hpx]at s1 s2
   (refine rg ?_;(conv=>whnf);refine aF ?_;refine rg ?_;conv=>whnf)
   refine⟨by unfold I64;omega,?_⟩
   conv=>whnf
   exact Av [] qn ⟨⟨E,E,Bb _,hc0,congrArg Aa (congrArg Int.ofNat s1),E,congrArg (fun z=>SV.val (.int .i64 z)) qn,E,Y⟩,⟨.inl (congrArg (Ob.row 1 Aa) s2),E,Y⟩,E,E⟩
 ·have hend:i+1+j=l.length:=by have:=of_decide_eq_false h;omega
  have hne:D≠[]:=fun h=>by rw[h]at hdl;simp at hdl;omega
  have htk:=htk qn
  rw[show l.take (i+1+j)=l from List.take_of_length_le qn]at htk
  refine Ag7 0 [0] E hne (by simp;rfl) ?_
  intro b cap' hcap
  refine rg ?_;conv=>whnf
  refine Ah (Cr Γ.toTy E E E E (.inr ⟨_,_,E,E⟩) (.inl ⟨E,E⟩) qn qn) E E ?_
  refine rg ?_;conv=>whnf
  refine Ah (Ir Γ.toTy 0 (k:=K) E E E E qx E E E qn qn) E E ?_
  refine rg ?_;conv=>whnf
  refine Ah (Cr Γ.toTy E E E E (.inl ⟨E,E⟩) (.inr ⟨_,_,E,E⟩) qn qn) E E ?_
  refine rg ?_;conv=>whnf
  refine Ve 0 1000 [4] K E E (by rw[List.length_take];omega) (fun i hi=>?_) ?_
  ·rw[List.mem_singleton]at hi
   subst hi
   show SV.val (.slice (some (if cap'=0 then ⟨b,0,none⟩ else ⟨b,0 * 1,none⟩)) (K-0) (cap'-0))=_
   split<;>simp
  refine done E (.cons .tmp .nil) [(0,0),(1,1000)] _ (fun _ h=>h) E E ⟨Y,⟨.inl E,E,.inl ?_,E,Y⟩,E,E⟩
  rw[← htk]
  exact congrArg (Ob.row 1 Aa) (by rw[List.take_take,Nat.min_self])
def Kk (n:Net) (fw:List Bool) (at_ from_:Int) (ml:List Int):SV :=
 .agg [.sl 5 Bj n.devices,.sl 7 A6 n.ports,.sl 3 Ce n.links,.sl 6 Ar n.domains,.sl 4 Bh n.statics,.sl 4 Bv n.floods,.sl 5 Cq n.vrfs,.sl 5 Cd n.irbs,.sl 1 Ad fw,Aa at_,Aa from_,.sl 1 Aa ml]
theorem Amx (n:Net) (fw:List Bool) (p:Int) (h0:0≤p) (hp:p<n.ports.length) (hl:(nth n.ports p).link<fw.length):Sy.Spec Tryz.prog 340 [Ap n,.sl 1 Ad fw,Aa p] [] (Ad (usableB n fw p)) []:=Ab Γ hm 100 F340 Tryz.ntmps340 rfl fun F hF=>by
 have hk:p.toNat<n.ports.length:=by omega
 have e1:nth n.ports p=n.ports[p.toNat]:=Am hk
 have hu:=usableB.eq_1 n fw p
 generalize usableB n fw p=res at *
 rw[e1]at hu hl
 obtain ⟨q,hq⟩:∃ q,n.ports[p.toNat]'hk=q:=⟨_,rfl⟩
 rw[hq]at hu hl
 conv=>whnf
 refine⟨E,h0,hk,?_⟩
 rw[hq]
 conv=>whnf
 refine⟨fun h=>?_,fun h=>?_⟩
 ·rw[h,Bool.true_or]at hu
  subst hu
  refine rg ?_;conv=>whnf
  exact Ac E (.cons .tmp .nil) E E
 ·rw[h,Bool.false_or]at hu
  have h1:¬ q.link<0:=of_decide_eq_false h
  have h2:q.link.toNat<fw.length:=by omega
  rw[List.getElem?_eq_getElem h2]at hu
  refine rg ?_;conv=>whnf
  refine⟨E,by omega,h2,?_⟩
  conv=>whnf
  exact Ac E (.cons .tmp .nil) (congrArg Ad hu) E
theorem portsC (n:Net) (fw:List Bool) (at_ from_:Int) (ml:List Int) (p:Int) (h0:0≤p) (hp:p<n.ports.length) (hl:(nth n.ports p).link<fw.length) :
  Sy.Spec Tryz.prog 339 [Aa p,.ref 1 (.ref 12 (Kk n fw at_ from_ ml) 0) 0] [] (Ad (decide (p=from_) || !(usableB n fw p))) []:=Ab Γ hm 100 F339 Tryz.ntmps339 rfl fun F hF=>by
 have q:=Amx n fw p h0 hp hl
 conv=>whnf
 refine⟨fun h=>?_,fun h=>?_⟩
 ·have h1:p=from_:=by simpa using h
  refine rd qq ?_;conv=>whnf
  refine⟨qq,?_⟩
  conv=>whnf
  exact Ac E (.cons .tmp .nil) (congrArg Ad (by rw[decide_eq_true h1,Bool.true_or])) E
 ·have h1:¬ p=from_:=by simpa using h
  refine rd qq ?_;conv=>whnf
  refine Au q F340 E E E qq E ?_
  refine rd qq ?_;conv=>whnf
  refine⟨qq,?_⟩
  conv=>whnf
  exact Ac E (.cons .tmp .nil) (congrArg Ad (by rw[decide_eq_false h1,Bool.false_or])) E
def Ag5 (n:Net) (fw:List Bool) (l:List Int):Prop:=∀ p∈l,0≤p∧p<n.ports.length∧(nth n.ports p).link<fw.length
theorem Aeq (n:Net) (fw:List Bool) (at_ from_:Int) (ml l:List Int) (hl:An l) (hp:Ag5 n fw l) :
  Sy.Spec Tryz.prog 292 [.ref 12 (Kk n fw at_ from_ ml) 0,.sl 1 Aa l] [] (.sl 1 Aa (Dp n fw from_ l)) []:=Ab Γ hm 100 F292 Tryz.ntmps292 rfl fun F hF=>by
 have q:=U1 l (fun p=>decide (p=from_) || !(usableB n fw p)) 339 [] [.ref 1 (.ref 12 (Kk n fw at_ from_ ml) 0) 0] rfl rfl (fun p h=>⟨⟨_,_,F339⟩,portsC n fw at_ from_ ml p (hp p h).1 (hp p h).2.1 (hp p h).2.2⟩) hl
 unfold An at hl
 conv=>whnf
 refine Be 2 1 (.ref 12 (Kk n fw at_ from_ ml) 0) E E E ?_
 refine rg ?_;conv=>whnf
 refine Ah (Aj [(0,55)] E F170 (Aap l hl) E Y E ⟨.inr E,Y⟩) E E ?_
 refine rg ?_;conv=>whnf
 refine Ah (Aj [(0,55),(1,56)] E F341 q E ⟨E,Y⟩ E ⟨.inl E,.inr E,Y⟩) E E ?_
 refine rg ?_;conv=>whnf
 refine At 56 E ?_
 exact Ac E (.cons .tmp .nil) E E
theorem Agl (n:Net) (hn:n.Fin) (fw:List Bool) (dom from_:Int) (ml:List Int) (hd:Ak dom n.domains.length=true) :
  Sy.Spec Tryz.prog 293 [.ref 12 (Kk n fw dom from_ ml) 0] [] (.sl 1 Aa (peersOut n dom from_)) []:=Ab Γ hm 100 F293 Tryz.ntmps293 rfl fun F hF=>by
 have hdi:=B1 hd
 have hd0:0≤dom:=hdi.1
 have hkd:dom.toNat<n.domains.length:=by omega
 have e2:nth n.domains dom=n.domains[dom.toNat]:=Am hkd
 have hpe:=hn.peers _ (List.getElem_mem hkd)
 have hres:=peersOut.eq_1 n dom from_
 generalize peersOut n dom from_=res at *
 rw[e2]at hres
 obtain ⟨d,hdd⟩:∃ d,n.domains[dom.toNat]'hkd=d:=⟨_,rfl⟩
 rw[hdd]at hres hpe
 have qc:=Kb d.peers hpe
 conv=>whnf
 refine⟨fun h=>?_,fun h=>?_⟩
 ·rw[if_pos (by simpa using h)]at hres
  subst hres
  refine rg ?_;conv=>whnf
  refine Ao 2 1 Aa E ?_
  exact Ac E (.cons .tmp .nil) E E
 ·rw[if_neg (by simpa using h)]at hres
  subst hres
  refine rg ?_;conv=>whnf
  refine⟨E,hd0,hkd,?_⟩
  rw[hdd]
  conv=>whnf
  refine Au qc F170 E E E qq E ?_
  refine rd qq ?_;conv=>whnf
  refine⟨qq,?_⟩
  conv=>whnf
  exact Ac E (.cons .tmp .nil) E E
def Mb (n:Net) (fw:List Bool) (dom:Int):Bool:=Ak dom n.domains.length && decide (fw.length=n.links.length) && Af n
theorem Agh (n:Net) (hn:n.Fin) (fw:List Bool) (dom from_:Int) (h:Mb n fw dom=false) :
  Sy.Spec Tryz.prog 291 [Ap n,.sl 1 Ad fw,Aa dom,Aa from_] [] (.tup [.val (.pointer none),Ad false]) []:=Ab Γ hm 100 F291 Tryz.ntmps291 rfl fun F hF=>by
 have qr:=Bd n hn
 conv=>whnf
 refine⟨fun h1=>?_,fun h1=>?_⟩
 ·(refine rg ?_;(conv=>whnf);refine aT ?_;refine rg ?_;(conv=>whnf);refine aT ?_;refine rg ?_;(conv=>whnf);refine aT ?_;refine rg ?_;conv=>whnf)
  exact Ac E (.cons .tmp (.cons .tmp .nil)) E E
 refine rg ?_;conv=>whnf
 refine⟨fun h2=>?_,fun h2=>?_⟩
 ·(refine rg ?_;(conv=>whnf);refine aT ?_;refine rg ?_;(conv=>whnf);refine aT ?_;refine rg ?_;conv=>whnf)
  exact Ac E (.cons .tmp (.cons .tmp .nil)) E E
 refine rg ?_;conv=>whnf
 refine⟨fun h3=>?_,fun h3=>?_⟩
 ·(refine rg ?_;(conv=>whnf);refine aT ?_;refine rg ?_;conv=>whnf)
  exact Ac E (.cons .tmp (.cons .tmp .nil)) E E
 refine rg ?_;conv=>whnf
 refine Ag qr F23 E E E E E ?_
 cases hbn:Af n
 ·(refine rg ?_;(conv=>whnf);refine aT ?_;refine rg ?_;conv=>whnf)
  exact Ac E (.cons .tmp (.cons .tmp .nil)) E E
 ·exfalso
  have h4:Ak dom n.domains.length=true:=I1 ⟨by simp at h1;omega,by simp at h2;omega⟩
  have h5:fw.length=n.links.length:=by simp at h3;omega
  simp[Mb,h4,h5,hbn]at h
theorem Akl (n:Net) (hn:n.Fin) (fw:List Bool) (dom from_:Int) (h:Mb n fw dom=true) :
  Sy.Spec Tryz.prog 291 [Ap n,.sl 1 Ad fw,Aa dom,Aa from_] [] (.tup [.ref 12 (Kk n fw dom from_ (A4 n dom)) 0,Ad (decide (from_=-1) || decide (from_=-2) || inB (A4 n dom) from_)]) []:=Ab Γ hm 100 F291 Tryz.ntmps291 rfl fun F hF=>by
 have qr:=Bd n hn
 simp only[Mb,Bool.and_eq_true,decide_eq_true_eq]at h
 obtain ⟨⟨hd,hfw⟩,hbn⟩:=h
 rw[hbn]at qr
 have hdi:=B1 hd
 have qm:=Jf n hn dom
 have qc:=Ct (B7 n dom) from_ (E3 n hn dom)
 have hmt:B7 n dom=A4 n dom:=by rw[B7,if_pos ⟨⟨hdi.1,hdi.2⟩,hbn⟩]
 rw[hmt]at qm qc
 generalize A4 n dom=ml at *
 conv=>whnf
 refine⟨fun h1=>absurd h1 (by simp;omega),fun _=>?_⟩
 refine rg ?_;conv=>whnf
 refine⟨fun h1=>absurd h1 (by simp;omega),fun _=>?_⟩
 refine rg ?_;conv=>whnf
 refine⟨fun h1=>absurd h1 (by simp;omega),fun _=>?_⟩
 refine rg ?_;conv=>whnf
 refine Ag qr F23 E E E E E ?_
 (refine rg ?_;(conv=>whnf);refine aF ?_;refine rg ?_;conv=>whnf)
 refine Au qm F26 E E E qq E ?_
 refine rd qq ?_;conv=>whnf
 refine⟨qq,?_⟩
 conv=>whnf
 refine⟨fun h1=>?_,fun h1=>?_⟩
 ·have h2:from_=-1:=by simpa using h1
  refine Be 41 12 (Kk n fw dom from_ ml) E E E ?_
  (refine rg ?_;(conv=>whnf);refine aT ?_;refine rg ?_;conv=>whnf)
  exact Ac E (.cons .tmp (.cons .tmp .nil)) (congrArg (fun z=>SV.tup [_,Ad z]) (by simp[h2])) E
 have h2:¬ from_=-1:=by simpa using h1
 refine Be 41 12 (Kk n fw dom from_ ml) E E E ?_
 refine rg ?_;conv=>whnf
 refine⟨fun h3=>?_,fun h3=>?_⟩
 ·have h4:from_=-2:=by simpa using h3
  refine rg ?_;conv=>whnf
  exact Ac E (.cons .tmp (.cons .tmp .nil)) (congrArg (fun z=>SV.tup [_,Ad z]) (by simp[h4])) E
 have h4:¬ from_=-2:=by simpa using h3
 refine rg ?_;conv=>whnf
 refine Ag qc F25 E E E E E ?_
 refine rg ?_;conv=>whnf
 exact Ac E (.cons .tmp (.cons .tmp .nil)) (congrArg (fun z=>SV.tup [_,Ad z]) (by simp[h2,h4])) E
theorem Zu {n:Net} (hb:Af n=true) {p:Int} (h0:0≤p) (hp:p<n.ports.length):(nth n.ports p).link<n.links.length:=by
 have hk:p.toNat<n.ports.length:=by omega
 have e1:nth n.ports p=n.ports[p.toNat]:=Am hk
 rw[e1]
 by_cases hl:0≤n.ports[p.toNat].link
 ·have:=Hr hb hk hl
  omega
 ·omega
theorem V8 {n:Net} {fw:List Bool} (hb:Af n=true) (hf:fw.length=n.links.length) {l:List Int} (h:∀ p∈l,0≤p∧p<n.ports.length):Ag5 n fw l:=fun p hp =>
 ⟨(h p hp).1,(h p hp).2,by rw[hf];exact Zu hb (h p hp).1 (h p hp).2⟩
theorem Du {n:Net} {dom:Int}:∀ p∈A4 n dom,0≤p∧p<n.ports.length:=fun p hp=>by
 rw[A4,Mu]at hp
 exact⟨hp.1,hp.2.1⟩
theorem Jg {n:Net} (hn:n.Fin) (dom:Int):An (A4 n dom):=by
 have h1:=D7 (Oi n (nth n.domains dom)) n.ports.length
 have h2:=hn.ports
 unfold An at *
 rw[A4]
 omega
theorem Ln (n:Net) (fw:List Bool) (dom from_:Int):K6 n fw dom from_=(Mb n fw dom && (decide (from_=-1) || decide (from_=-2) || inB (A4 n dom) from_)):=rfl
theorem floodS (n:Net) (hn:n.Fin) (fw:List Bool) (dom from_:Int) :
  Sy.Spec Tryz.prog 229 [Ap n,.sl 1 Ad fw,Aa dom,Aa from_] [] (.tup [.sl 1 Aa (floodT n fw dom from_).1,.sl 1 Aa (floodT n fw dom from_).2.1,Aa (floodT n fw dom from_).2.2]) []:=Ab Γ hm 100 F229 Tryz.ntmps229 rfl fun F hF=>by
 have hres:=floodT.eq_1 n fw dom from_
 generalize floodT n fw dom from_=res at *
 rw[Ln]at hres
 cases hbase:Mb n fw dom
 ·rw[hbase,Bool.false_and,if_pos rfl]at hres
  subst hres
  have q:=Agh n hn fw dom from_ hbase
  conv=>whnf
  refine Ag q F291 E E E E E ?_
  (refine rg ?_;(conv=>whnf);refine aT ?_;refine rg ?_;conv=>whnf)
  refine Ao 8 1 Aa E ?_
  refine Ao 9 1 Aa E ?_
  exact Ac E (.cons .tmp (.cons .tmp (.cons .tmp .nil))) E E
 rw[hbase,Bool.true_and]at hres
 have q:=Akl n hn fw dom from_ hbase
 have hb2:=hbase
 simp only[Mb,Bool.and_eq_true,decide_eq_true_eq]at hb2
 obtain ⟨⟨hd,hfw⟩,hbn⟩:=hb2
 have qp:=Aeq n fw dom from_ (A4 n dom) (A4 n dom) (Jg hn dom) (V8 hbn hfw Du)
 have qe:=Agl n hn fw dom from_ (A4 n dom) hd
 generalize (decide (from_=-1) || decide (from_=-2) || inB (A4 n dom) from_)=ok at *
 generalize A4 n dom=ml at *
 conv=>whnf
 refine Ag q F291 E E E E E ?_
 cases ok
 ·rw[if_pos rfl]at hres
  subst hres
  (refine rg ?_;(conv=>whnf);refine aT ?_;refine rg ?_;conv=>whnf)
  refine Ao 8 1 Aa E ?_
  refine Ao 9 1 Aa E ?_
  exact Ac E (.cons .tmp (.cons .tmp (.cons .tmp .nil))) E E
 rw[if_neg qx]at hres
 subst hres
 (refine rg ?_;(conv=>whnf);refine aF ?_;refine rg ?_;conv=>whnf)
 refine Ag qp F292 E E E E E ?_
 refine rg ?_;conv=>whnf
 refine Ag qe F293 E E E E E ?_
 refine rg ?_;conv=>whnf
 exact Ac E (.cons .tmp (.cons .tmp (.cons .tmp .nil))) E E
theorem Sd (l:List Static) (p:Static→Bool) (f:FuncId) (first cap:List SV) (hc:(SV.clo (.func f) first cap).inn []=true) (hf:∀ x∈l,E9 Tryz.prog f (first++[Bh x]++cap) (Ad (p x))) (hl:An l) :
  Sy.Spec Tryz.prog 386 [.sl 4 Bh l,.clo (.func f) first cap] [] (Aa (Cb p l)) []:=Ab Γ hm 100 F386 Tryz.ntmps386 rfl fun F hF=>by
 unfold An at hl
 have hin:∀ x:Static,B8 [] (first++[Bh x]++cap)=true:=fun x=>Cn hc rfl
 conv=>whnf
 refine A2 l.length (fun j=>C7 (fun _ x=>!(p x)) l j) (fun j=>[(0,.sl 4 Bh l),(1,.clo (.func f) first cap),(7,Aa l.length),(8,Aa j)]) (fun _=>[]) [] (Ax _ _) ⟨⟨E,E,Bb _,hc,E,E,E,E,Y⟩,Y,E,E⟩ ?_
 intro j hj hI
 refine rg ?_;conv=>whnf
 refine⟨fun h=>?_,fun h=>?_⟩
 ·have h:=of_decide_eq_true h
  have hj2:j<l.length:=by omega
  refine rg ?_;conv=>whnf
  refine⟨E,by omega,by omega,?_⟩
  conv=>whnf
  refine Ds (hf l[j] (List.getElem_mem hj2)) E E E (by simp only[hin];rfl) E E ?_
  refine rg ?_;conv=>whnf
  refine⟨fun h2=>?_,fun h2=>?_⟩
  ·refine rg ?_;conv=>whnf
   refine Ac E (.cons .tmp .nil) (congrArg Aa ?_) E
   exact C9 hj2 (fun i hi hij=>by simpa using hI i hi hij) h2
  ·refine rg ?_;conv=>whnf
   refine⟨by unfold I64;omega,?_⟩
   conv=>whnf
   exact A0 [] hI hj2 (As hI hj2 (by simp[h2])) ⟨⟨E,E,Bb _,hc,E,E,E,E,Y⟩,Y,E,E⟩
 ·have h:=of_decide_eq_false h
  refine rg ?_;conv=>whnf
  refine Ac E (.cons .tmp .nil) (congrArg Aa ?_) E
  exact Dv (fun i hi=>by simpa using hI i hi qn)
theorem entryC (dom:Int) (m:Nat) (s:Static):Sy.Spec Tryz.prog 387 [Bh s,.ref 1 (Aa dom) 0,.ref 1 (A9 m) 0] [] (Ad (decide (s.domain=dom) && decide (s.mac=(m:Int)))) []:=Ab Γ hm 100 F387 Tryz.ntmps387 rfl fun F hF=>by
 conv=>whnf
 refine⟨fun h=>?_,fun h=>?_⟩
 ·refine rg ?_;conv=>whnf
  refine Ac E (.cons .tmp .nil) (congrArg Ad ?_) E
  have h1:s.domain=dom:=by simpa using h
  rw[decide_eq_true h1,Bool.true_and,Bool.eq_iff_iff]
  simp
 ·refine rg ?_;conv=>whnf
  refine Ac E (.cons .tmp .nil) (congrArg Ad ?_) E
  have h1:¬ s.domain=dom:=by simpa using h
  rw[decide_eq_false h1,Bool.false_and]
theorem entryI (n:Net) (hn:n.Fin) (dom:Int) (m:Nat):Sy.Spec Tryz.prog 375 [Ap n,Aa dom,A9 m] [] (Aa (Dd n dom m)) []:=Ab Γ hm 100 F375 Tryz.ntmps375 rfl fun F hF=>by
 have q:=Sd n.statics (fun s:Static=>decide (s.domain=dom) && decide (s.mac=(m:Int))) 387 [] [.ref 1 (Aa dom) 0,.ref 1 (A9 m) 0] rfl (fun x _=>⟨⟨_,_,F387⟩,entryC dom m x⟩) hn.statics
 conv=>whnf
 refine Be 4 1 (Aa dom) E E E ?_
 refine Be 5 1 (A9 m) E E E ?_
 refine rg ?_;conv=>whnf
 refine Ag q F386 E E E E E ?_
 refine rg ?_;conv=>whnf
 exact Ac E (.cons .tmp .nil) E E
def staticP (n:Net) (dom:Int) (m:Nat):Int:=if 0≤Dd n dom m then (nth n.statics (Dd n dom m)).port else -1
theorem Afu (n:Net) (hn:n.Fin) (hb:Af n=true) (dom:Int) (m:Nat):Sy.Spec Tryz.prog 348 [Ap n,Aa dom,A9 m] [] (Aa (staticP n dom m)) []:=Ab Γ hm 100 F348 Tryz.ntmps348 rfl fun F hF=>by
 have q:=entryI n hn dom m
 have qr:=Bd n hn
 rw[hb]at qr
 have hlt:Dd n dom m<n.statics.length:=D6 _ _
 have hres:=staticP.eq_1 n dom m
 generalize staticP n dom m=res at *
 generalize Dd n dom m=i at *
 conv=>whnf
 refine Ag q F375 E E E E E ?_
 refine rg ?_;conv=>whnf
 refine⟨fun h=>?_,fun h=>?_⟩
 ·rw[if_neg (by simp at h;omega)]at hres
  subst hres
  (refine rg ?_;(conv=>whnf);refine aT ?_;refine rg ?_;conv=>whnf)
  exact Ac E (.cons .tmp .nil) E E
 ·have h0:0≤i:=by simp at h;omega
  have hk:i.toNat<n.statics.length:=by omega
  have e1:nth n.statics i=n.statics[i.toNat]:=Am hk
  rw[if_pos h0,e1]at hres
  refine rg ?_;conv=>whnf
  refine Ag qr F23 E E E E E ?_
  (refine rg ?_;(conv=>whnf);refine aF ?_;refine rg ?_;conv=>whnf)
  refine⟨E,h0,hk,?_⟩
  conv=>whnf
  exact Ac E (.cons .tmp .nil) (congrArg Aa hres) E
def knownT (n:Net) (fw:List Bool) (t:List EntryM) (dom from_:Int) (m:Nat):List Int × List Int × Bool :=
 if 0≤staticP n dom m then (Dp n fw from_ [staticP n dom m],[],true)
 else if (findE t m).2=false then ([],[],false)
 else if 0≤(findE t m).1∧inB (A4 n dom) (findE t m).1=true then (Dp n fw from_ [(findE t m).1],[],true)
 else if (findE t m).1<0∧inB (nth n.domains dom).peers (-1-(findE t m).1)=true then (if from_=-1 then ([],[],true) else ([],[-1-(findE t m).1],true))
 else ([],[],false)
theorem T3 {n:Net} (hb:Af n=true) (dom:Int) (m:Nat) (h:0≤staticP n dom m):staticP n dom m<n.ports.length:=by
 unfold staticP at h ⊢
 split at h
 ·rename_i h0
  rw[if_pos h0]
  have hlt:Dd n dom m<n.statics.length:=D6 _ _
  have hk:(Dd n dom m).toNat<n.statics.length:=by omega
  simp only[Af,Bool.and_eq_true]at hb
  have:=allB_iff.1 hb.1.1.1.2 _ hk
  simp only[Ej,Bool.and_eq_true,Ak,decide_eq_true_eq]at this
  rw[Am hk]
  exact this.1.1.2.2
 ·omega
theorem knownS (n:Net) (hn:n.Fin) (fw:List Bool) (t:List EntryM) (dom from_:Int) (m:Nat) (hl:An t) (hw:I64 (-1-(findE t m).1)) (hbase:Mb n fw dom=true) :
  Sy.Spec Tryz.prog 299 [.ref 12 (Kk n fw dom from_ (A4 n dom)) 0,.sl 3 Az t,A9 m] [] (.tup [.sl 1 Aa (knownT n fw t dom from_ m).1,.sl 1 Aa (knownT n fw t dom from_ m).2.1,Ad (knownT n fw t dom from_ m).2.2]) []:=Ab Γ hm 100 F299 Tryz.ntmps299 rfl fun F hF=>by
 simp only[Mb,Bool.and_eq_true,decide_eq_true_eq]at hbase
 obtain ⟨⟨hd,hfw⟩,hbn⟩:=hbase
 have hdi:=B1 hd
 have hd0:0≤dom:=hdi.1
 have hkd:dom.toNat<n.domains.length:=by omega
 have e2:nth n.domains dom=n.domains[dom.toNat]:=Am hkd
 have hpe:=hn.peers _ (List.getElem_mem hkd)
 have hres:=knownT.eq_1 n fw t dom from_ m
 have qs:=Afu n hn hbn dom m
 have hsp:=T3 hbn dom m
 have qf:=Aj6 t m hl
 have qp:∀ p:Int,0≤p→p<n.ports.length→_:=fun p h0 h1=>Aeq n fw dom from_ (A4 n dom) [p] (by unfold An;simp) (V8 hbn hfw (l:=[p]) (fun x hx=>by rw[List.mem_singleton]at hx;subst hx;exact⟨h0,h1⟩))
 have hmem:∀ p,inB (A4 n dom) p=true→0≤p∧p<n.ports.length:=fun p hp=>Du p (inB_mem.1 hp)
 have qc:=fun x=>Ct (A4 n dom) x (Jg hn dom)
 rw[e2]at hres
 obtain ⟨d,hdd⟩:∃ d,n.domains[dom.toNat]'hkd=d:=⟨_,rfl⟩
 rw[hdd]at hres hpe
 have qc2:=fun x=>Ct d.peers x hpe
 generalize knownT n fw t dom from_ m=res at *
 generalize staticP n dom m=sp at *
 generalize findE t m=fe at *
 obtain ⟨w,ok⟩:=fe
 dsimp only at hres hw qf
 generalize A4 n dom=ml at *
 conv=>whnf
 refine Au qs F348 E E E qq E ?_
 refine rd qq ?_;conv=>whnf
 refine⟨qq,?_⟩
 conv=>whnf
 refine⟨fun h1=>?_,fun h1=>?_⟩
 ·have h2:0≤sp:=by simpa using h1
  rw[if_pos h2]at hres
  subst hres
  refine rg ?_;conv=>whnf
  refine Iz 25 Aa [sp] E E ?_
  refine At 25 E ?_
  refine Ag (qp sp h2 (hsp h2)) F292 E E E E E ?_
  refine rg ?_;conv=>whnf
  refine Ao 7 1 Aa E ?_
  exact Ac E (.cons .tmp (.cons .tmp (.cons .tmp .nil))) E E
 have h2:¬ 0≤sp:=by simp at h1;omega
 rw[if_neg h2]at hres
 refine rg ?_;conv=>whnf
 refine Ag qf F349 E E E E E ?_
 cases ok
 ·rw[if_pos rfl]at hres
  subst hres
  (refine rg ?_;(conv=>whnf);refine aT ?_;refine rg ?_;conv=>whnf)
  refine Ao 6 1 Aa E ?_
  refine Ao 7 1 Aa E ?_
  exact Ac E (.cons .tmp (.cons .tmp (.cons .tmp .nil))) E E
 rw[if_neg qx]at hres
 (refine rg ?_;(conv=>whnf);refine aF ?_;refine rg ?_;conv=>whnf)
 refine⟨fun h3=>?_,fun h3=>?_⟩
 ·have h4:0≤w:=by simpa using h3
  refine rg ?_;conv=>whnf
  refine Ag (qc w) F25 E E E E E ?_
  cases hin:inB ml w
  ·rw[if_neg (by simp[hin]),if_neg qn]at hres
   subst hres
   (refine rg ?_;(conv=>whnf);refine aF ?_;refine rg ?_;conv=>whnf)
   refine⟨fun h5=>absurd h5 (by simp;omega),fun _=>?_⟩
   refine rd qq ?_;conv=>whnf
   refine⟨qq,?_⟩
   ((conv=>whnf);refine aF ?_;refine rg ?_;conv=>whnf)
   refine Ao 6 1 Aa E ?_
   refine Ao 7 1 Aa E ?_
   exact Ac E (.cons .tmp (.cons .tmp (.cons .tmp .nil))) E E
  ·rw[if_pos ⟨h4,hin⟩]at hres
   subst hres
   (refine rg ?_;(conv=>whnf);refine aT ?_;refine rg ?_;conv=>whnf)
   refine Iz 49 Aa [w] E E ?_
   refine At 49 E ?_
   refine Ag (qp w h4 (hmem w hin).2) F292 E E E E E ?_
   refine rg ?_;conv=>whnf
   refine Ao 7 1 Aa E ?_
   exact Ac E (.cons .tmp (.cons .tmp (.cons .tmp .nil))) E E
 have h4:¬ 0≤w:=by simp at h3;omega
 rw[if_neg qn]at hres
 (refine rg ?_;(conv=>whnf);refine aF ?_;refine rg ?_;conv=>whnf)
 refine⟨fun h5=>?_,fun h5=>absurd h5 (by simp;omega)⟩
 refine rd qq ?_;conv=>whnf
 refine⟨E,hd0,hkd,?_⟩
 rw[hdd]
 conv=>whnf
 refine⟨hw,?_⟩
 conv=>whnf
 refine Au (qc2 (-1-w)) F25 E E E qq E ?_
 cases hin:inB d.peers (-1-w)
 ·rw[if_neg (by simp[hin])]at hres
  subst hres
  refine rd qq ?_;conv=>whnf
  refine⟨qq,?_⟩
  ((conv=>whnf);refine aF ?_;refine rg ?_;conv=>whnf)
  refine Ao 6 1 Aa E ?_
  refine Ao 7 1 Aa E ?_
  exact Ac E (.cons .tmp (.cons .tmp (.cons .tmp .nil))) E E
 rw[if_pos ⟨by omega,hin⟩]at hres
 refine rd qq ?_;conv=>whnf
 refine⟨qq,?_⟩
 ((conv=>whnf);refine aT ?_;refine rg ?_;conv=>whnf)
 refine⟨fun h6=>?_,fun h6=>?_⟩
 ·rw[if_pos (by simpa using h6)]at hres
  subst hres
  refine rg ?_;conv=>whnf
  refine Ao 6 1 Aa E ?_
  refine Ao 7 1 Aa E ?_
  exact Ac E (.cons .tmp (.cons .tmp (.cons .tmp .nil))) E E
 ·rw[if_neg (by simpa using h6)]at hres
  subst hres
  refine rg ?_;conv=>whnf
  refine⟨hw,?_⟩
  conv=>whnf
  refine Ao 6 1 Aa E ?_
  refine Iz 78 Aa [-1-w] E E ?_
  refine At 78 E ?_
  exact Ac E (.cons .tmp (.cons .tmp (.cons .tmp .nil))) E E
theorem Ql {n:Net} (hb:Af n=true) (dom:Int) (m:Nat):(0≤staticP n dom m↔0≤Dd n dom m)∧(0≤Dd n dom m→staticP n dom m=(nth n.statics (Dd n dom m)).port):=by
 refine⟨⟨fun h=>?_,fun h=>?_⟩,fun h=>by rw[staticP,if_pos h]⟩
 ·unfold staticP at h
  split at h
  ·assumption
  ·omega
 ·rw[staticP,if_pos h]
  have hlt:Dd n dom m<n.statics.length:=D6 _ _
  have hk:(Dd n dom m).toNat<n.statics.length:=by omega
  simp only[Af,Bool.and_eq_true]at hb
  have:=allB_iff.1 hb.1.1.1.2 _ hk
  simp only[Ej,Bool.and_eq_true,Ak,decide_eq_true_eq]at this
  rw[Am hk]
  exact this.1.1.2.1
theorem An2 {n:Net} {fw:List Bool} {t:List EntryM} {dom from_:Int} {m:Nat} (hb:Af n=true) (hr:K6 n fw dom from_=true) (hg:Hc m=false) :
  Cm n fw t dom from_ m=if (knownT n fw t dom from_ m).2.2=true then ((knownT n fw t dom from_ m).1,(knownT n fw t dom from_ m).2.1,0) else (Dp n fw from_ (A4 n dom),peersOut n dom from_,0):=by
 obtain ⟨h1,h2⟩:=Ql hb dom m
 rw[Cm,if_neg (by rw[hr];decide),if_neg (by rw[hg];decide)]
 unfold knownT
 by_cases hs:0≤Dd n dom m
 ·rw[if_pos hs,if_pos (h1.2 hs),h2 hs];rfl
 rw[if_neg hs,if_neg (fun h=>hs (h1.1 h))]
 generalize findE t m=fe
 obtain ⟨w,ok⟩:=fe
 cases ok
 ·simp
 simp only[Bool.true_eq_false,if_false,true_and]
 by_cases ha:0≤w∧inB (A4 n dom) w=true
 ·rw[if_pos ha,if_pos ha];rfl
 rw[if_neg ha,if_neg ha]
 by_cases hc:w<0∧inB (nth n.domains dom).peers (-1-w)=true
 ·rw[if_pos hc,if_pos hc]
  split<;>rfl
 ·rw[if_neg hc,if_neg hc];rfl
theorem An3 (n:Net) (hn:n.Fin) (fw:List Bool) (t:List EntryM) (dom from_:Int) (m:Nat) (hl:An t) (hw:I64 (-1-(findE t m).1)) (hm64:m<18446744073709551616) :
  Sy.Spec Tryz.prog 235 [Ap n,.sl 1 Ad fw,.sl 3 Az t,Aa dom,Aa from_,A9 m] [] (.tup [.sl 1 Aa (Cm n fw t dom from_ m).1,.sl 1 Aa (Cm n fw t dom from_ m).2.1,Aa (Cm n fw t dom from_ m).2.2]) []:=Ab Γ hm 100 F235 Tryz.ntmps235 rfl fun F hF=>by
 cases hbase:Mb n fw dom
 ·have hres:Cm n fw t dom from_ m=([],[],2):=by
   rw[Cm,if_pos (by rw[Ln,hbase];rfl)]
  rw[hres]
  have q:=Agh n hn fw dom from_ hbase
  conv=>whnf
  refine Ag q F291 E E E E E ?_
  (refine rg ?_;(conv=>whnf);refine aT ?_;refine rg ?_;conv=>whnf)
  refine Ao 12 1 Aa E ?_
  refine Ao 13 1 Aa E ?_
  exact Ac E (.cons .tmp (.cons .tmp (.cons .tmp .nil))) E E
 have q:=Akl n hn fw dom from_ hbase
 have qk:=knownS n hn fw t dom from_ m hl hw hbase
 have qg:=Jz m hm64
 have hb2:=hbase
 simp only[Mb,Bool.and_eq_true,decide_eq_true_eq]at hb2
 obtain ⟨⟨hd,hfw⟩,hbn⟩:=hb2
 have qp:=Aeq n fw dom from_ (A4 n dom) (A4 n dom) (Jg hn dom) (V8 hbn hfw Du)
 have qe:=Agl n hn fw dom from_ (A4 n dom) hd
 have hroom:=Ln n fw dom from_
 rw[hbase,Bool.true_and]at hroom
 have hbad:K6 n fw dom from_=false→Cm n fw t dom from_ m=([],[],2):=fun h=>by rw[Cm,if_pos h]
 have hgrp:K6 n fw dom from_=true→Hc m=true→Cm n fw t dom from_ m=(Dp n fw from_ (A4 n dom),peersOut n dom from_,0):=fun h h2=>by
  rw[Cm,if_neg (by rw[h];decide),if_pos h2]
 have hkn:=fun h h2=>@An2 n fw t dom from_ m hbn h h2
 generalize Cm n fw t dom from_ m=res at *
 generalize knownT n fw t dom from_ m=kn at *
 obtain ⟨kp,ke,ko⟩:=kn
 generalize K6 n fw dom from_=rm at *
 generalize (decide (from_=-1) || decide (from_=-2) || inB (A4 n dom) from_)=ok at *
 subst hroom
 generalize A4 n dom=ml at *
 dsimp only at hkn qk
 conv=>whnf
 refine Ag q F291 E E E E E ?_
 cases rm
 ·rw[hbad rfl]
  (refine rg ?_;(conv=>whnf);refine aT ?_;refine rg ?_;conv=>whnf)
  refine Ao 12 1 Aa E ?_
  refine Ao 13 1 Aa E ?_
  exact Ac E (.cons .tmp (.cons .tmp (.cons .tmp .nil))) E E
 (refine rg ?_;(conv=>whnf);refine aF ?_;refine rg ?_;conv=>whnf)
 refine Ag qg F226 E E E E E ?_
 cases hg:Hc m
 ·have hkn:=hkn rfl hg
  (refine rg ?_;(conv=>whnf);refine aT ?_;refine rg ?_;conv=>whnf)
  refine Ag qk F299 E E E E E ?_
  cases ko
  ·rw[if_neg qx]at hkn
   subst hkn
   (refine rg ?_;(conv=>whnf);refine aF ?_;refine rg ?_;conv=>whnf)
   refine Ag qp F292 E E E E E ?_
   refine rg ?_;conv=>whnf
   refine Ag qe F293 E E E E E ?_
   refine rg ?_;conv=>whnf
   exact Ac E (.cons .tmp (.cons .tmp (.cons .tmp .nil))) E E
  ·rw[if_pos rfl]at hkn
   subst hkn
   (refine rg ?_;(conv=>whnf);refine aT ?_;refine rg ?_;conv=>whnf)
   exact Ac E (.cons .tmp (.cons .tmp (.cons .tmp .nil))) E E
 ·rw[hgrp rfl hg]
  (refine rg ?_;(conv=>whnf);refine aF ?_;refine rg ?_;conv=>whnf)
  refine Ag qp F292 E E E E E ?_
  refine rg ?_;conv=>whnf
  refine Ag qe F293 E E E E E ?_
  refine rg ?_;conv=>whnf
  exact Ac E (.cons .tmp (.cons .tmp (.cons .tmp .nil))) E E
theorem Aas (t:List EntryM) (q:QueuedM) (now:Int) (ht:TabOK t) (hq:QueuedOK q):Sy.Spec Tryz.prog 231 [.sl 3 Az t,Bk q,Aa now] [] (.sl 3 Az (learnQ t q now)) []:=Ab Γ hm 100 F231 Tryz.ntmps231 rfl fun F hF=>by
 have hres:=learnQ.eq_1 t q now
 generalize learnQ t q now=res at *
 have hl:=ht.short
 have hl2:=hl
 unfold An at hl2
 have hs:=hq.frame.src
 have h1:=hq.peer
 conv=>whnf
 refine⟨fun h=>?_,fun h=>?_⟩
 ·rw[if_pos (by simpa using h)]at hres
  subst hres
  refine rg ?_;conv=>whnf
  refine Ah (Aj [(0,55)] E F243 (Ma res hl2) E Y E ⟨.inr E,Y⟩) E E ?_
  refine At 55 E ?_
  refine rg ?_;conv=>whnf
  exact Ac E (.cons .tmp .nil) E E
 rw[if_neg (by simpa using h)]at hres
 clear h
 refine rg ?_;conv=>whnf
 refine⟨fun h=>?_,fun h=>?_⟩
 ·rw[if_pos (by simpa using h)]at hres
  subst hres
  refine rg ?_;conv=>whnf
  refine⟨by unfold I64;omega,?_⟩
  conv=>whnf
  refine Ag (Yf t q.frame.src (-1-q.peer) now hl ht.mac qn) F296 E E E E E ?_
  refine rg ?_;conv=>whnf
  exact Ac E (.cons .tmp .nil) E E
 rw[if_neg (by simpa using h)]at hres
 subst hres
 refine rg ?_;conv=>whnf
 refine Ag (Yf t q.frame.src q.from_ now hl ht.mac qn) F296 E E E E E ?_
 refine rg ?_;conv=>whnf
 exact Ac E (.cons .tmp .nil) E E
def Aib (k p d:Int):OutM:=⟨k,p,d,[],noF,0⟩
theorem Ann (k p d:Int) (b:List UInt8) (e:Int):Q7 (Aib k p d) (b,e)=if e≠0 then ⟨5,p,d,[],noF,e⟩ else ⟨k,p,d,b,noF,0⟩:=rfl
theorem Qd (l:List OutM) (k p d:Int) (b:List UInt8) (e:Int) (hl:l.length<100000000000) :
  Sy.Spec Tryz.prog 234 [Dq (Aib k p d),.sl 1 Ai b,Aa e,.ptr 0 0] [(0,.box [.osl 1]),(1,.row 9 Dq l)] (.tup []) [(0,.box [.osl 2]),(1,.non),(2,.row 9 Dq (l++[Q7 (Aib k p d) (b,e)]))]:=Ab Γ hm 100 F234 Tryz.ntmps234 rfl fun F hF=>by
 have hres:=Ann k p d b e
 generalize Q7 (Aib k p d) (b,e)=res at *
 conv=>whnf
 refine⟨fun h=>?_,fun h=>?_⟩
 ·rw[if_pos (by simpa using h)]at hres
  refine rg ?_;conv=>whnf
  refine Aav 17 [Dq ⟨5,p,d,[],noF,e⟩] E (.cons (.agg (.cons (.refl _) (.cons (.refl _) (.cons (.refl _) (.cons .nil (.cons (.refl _) (.cons (.refl _) (.cons (.refl _) (.cons (.refl _) (.cons (.refl _) .nil)))))))))) .nil) E ?_
  refine Ah (Al Γ.toTy 18 E E E E E (.row E) (.lit (e:=Dq) (l:=[res]) E (by rw[hres];rfl)) qx (by simp;omega) (by simp;omega)) E E ?_
  refine rg ?_;conv=>whnf
  exact Ba E .nil [(2,18)] [(0,.box [.osl 2]),(1,.non),(2,.row 9 Dq (l++[res]))] (fun _ h=>h) E E ⟨Y,⟨.inl E,E,.inl E,E,.inl E,E,Y⟩,E,E⟩
 ·rw[if_neg (by simpa using h)]at hres
  refine rg ?_;conv=>whnf
  refine Ah (Al Γ.toTy 18 E E E E E (.row E) (.lit (e:=Dq) (l:=[res]) E (by rw[hres];rfl)) qx (by simp;omega) (by simp;omega)) E E ?_
  refine rg ?_;conv=>whnf
  exact Ba E .nil [(2,18)] [(0,.box [.osl 2]),(1,.non),(2,.row 9 Dq (l++[res]))] (fun _ h=>h) E E ⟨Y,⟨.inl E,E,.inl E,E,.inl E,E,Y⟩,E,E⟩
theorem Anv {t:List EntryM} (ht:TabOK t) (m:Nat):I64 (findE t m).1:=by
 unfold findE
 split
 ·unfold I64;dsimp only;omega
 ·rename_i h
  have hlt:D3 t m<t.length:=D6 _ _
  have hk:(D3 t m).toNat<t.length:=by omega
  dsimp only
  rw[List.getElem?_eq_getElem hk]
  exact ht.wh _ (List.getElem_mem hk)
theorem H4 {n:Net} {fw:List Bool} {fr:Int} {l:List Int} {p:Int} (h:p∈Dp n fw fr l):p∈l:=(List.mem_filter.1 h).1
theorem Aam {n:Net} (hb:Af n=true) (fw:List Bool) (t:List EntryM) (dom fr:Int) (m:Nat):∀ p∈(Cm n fw t dom fr m).1,0≤p∧p<n.ports.length:=by
 intro p hp
 unfold Cm at hp
 split at hp
 ·cases hp
 split at hp
 ·exact Du p (H4 hp)
 split at hp
 ·rename_i h1
  obtain ⟨hs1,hs2⟩:=Ql hb dom m
  have h2:=hs1.2 h1
  have h3:=T3 hb dom m h2
  have h4:=List.mem_singleton.1 (H4 hp)
  rw[h4,← hs2 h1]
  exact⟨h2,h3⟩
 split at hp
 ·rename_i h1
  rw[List.mem_singleton.1 (H4 hp)]
  exact Du _ (inB_mem.1 h1.2.2)
 split at hp
 ·cases hp
 ·exact Du p (H4 hp)
theorem Zt (n:Net) (fw:List Bool) (fr:Int) (l:List Int):(Dp n fw fr l).length≤l.length:=List.length_filter_le _ _
theorem Zv {n:Net} (hn:n.Fin) (dom fr:Int) (hd:Ak dom n.domains.length=true):(peersOut n dom fr).length<2147483648:=by
 unfold peersOut
 split
 ·decide
 ·have h:=Ik hd
  rw[Am h.2]
  exact hn.peers _ (List.getElem_mem h.2)
theorem W9 {n:Net} (hn:n.Fin) (fw:List Bool) (t:List EntryM) (dom fr:Int) (m:Nat):(Cm n fw t dom fr m).1.length<2147483648∧(Cm n fw t dom fr m).2.1.length<2147483648:=by
 have h1:=Aca n dom
 have h2:=hn.ports
 unfold An at h2
 have h3:=fun l=>Zt n fw fr l
 unfold Cm
 split
 ·decide
 rename_i h
 have hd:Ak dom n.domains.length=true:=by
  cases hx:Ak dom n.domains.length
  ·exact absurd (by rw[K6,hx];rfl) h
  ·rfl
 have h4:=Zv hn dom fr hd
 split
 ·have:=h3 (A4 n dom);exact⟨by dsimp only;omega,h4⟩
 split
 ·have:=h3 [(nth n.statics (Dd n dom m)).port];simp only[List.length_cons,List.length_nil]at this;exact⟨by dsimp only;omega,by show (0:Nat)<2147483648;decide⟩
 split
 ·have:=h3 [(findE t m).1];simp only[List.length_cons,List.length_nil]at this;exact⟨by dsimp only;omega,by show (0:Nat)<2147483648;decide⟩
 split
 ·refine⟨by show (0:Nat)<2147483648;decide,?_⟩
  dsimp only
  split<;>simp
 ·have:=h3 (A4 n dom);exact⟨by dsimp only;omega,h4⟩
theorem Adn (n:Net) (hn:n.Fin) (hm0:n.Num) (fw:List Bool) (t:List EntryM) (dom:Int) (q:QueuedM) (now:Int) (ht:TabOK t) (hq:QueuedOK q) :
  Sy.Spec Tryz.prog 174 [Ap n,.sl 1 Ad fw,.sl 3 Az t,Aa dom,Bk q,Aa now] [] (.tup [.sl 3 Az (bridgeT n fw t dom q now).1,.sl 9 Dq (bridgeT n fw t dom q now).2.1,Aa (bridgeT n fw t dom q now).2.2]) []:=Ab Γ hm 100 F174 Tryz.ntmps174 rfl fun F hF=>by
 have hres:=bridgeT.eq_1 n fw t dom q now
 generalize bridgeT n fw t dom q now=res at *
 have qf:=floodS n hn fw dom q.from_
 have qr:=Tf t ht.short ht.mac
 conv=>whnf
 refine Be 6 8 (Ap n) E E E ?_
 refine Be 10 7 (Bk q) E E E ?_
 refine rg ?_;conv=>whnf
 cases hroom:K6 n fw dom q.from_
 ·rw[if_pos (.inl hroom)]at hres
  subst hres
  rw[floodT,if_pos hroom]at qf
  refine Ag qf F229 E E E E E ?_
  (refine rg ?_;(conv=>whnf);refine aT ?_;refine rg ?_;(conv=>whnf);refine aT ?_;refine rg ?_;conv=>whnf)
  refine Bc 13 [.sl 9 Dq []] E (.cons .nil .nil) ?_
  refine Ao 12 3 Az E ?_
  exact Ac E (.cons .tmp (.cons (.cell E E E E) (.cons .tmp .nil))) E E
 rw[floodT,if_neg (by rw[hroom];decide)]at qf
 refine Ag qf F229 E E E E E ?_
 (refine rg ?_;(conv=>whnf);refine aF ?_;refine rg ?_;conv=>whnf)
 refine Ag qr F230 E E E E E ?_
 cases htb:tableB t
 ·rw[if_pos (.inr htb)]at hres
  subst hres
  (refine rg ?_;(conv=>whnf);refine aT ?_;refine rg ?_;conv=>whnf)
  refine Bc 13 [.sl 9 Dq []] E (.cons .nil .nil) ?_
  refine Ao 12 3 Az E ?_
  exact Ac E (.cons .tmp (.cons (.cell E E E E) (.cons .tmp .nil))) E E
 rw[if_neg (by simp[hroom,htb])]at hres
 have ql:=Aas t q now ht hq
 have hu:=Mo ht hq now
 generalize learnQ t q now=u at *
 have qro:=Aaz n hn hm0 dom q.frame.dst
 generalize routerT n dom q.frame.dst=ro at *
 obtain ⟨irb,ok⟩:=ro
 dsimp only at hres qro
 have hbn:Af n=true:=by
  simp only[K6,Bool.and_eq_true]at hroom
  exact hroom.1.2
 (refine rg ?_;(conv=>whnf);refine aF ?_;refine rg ?_;conv=>whnf)
 refine Ag ql F231 E E E E E ?_
 refine rg ?_;conv=>whnf
 refine Ag qro F232 E E E E E ?_
 cases ok
 rotate_left
 ·rw[if_pos rfl]at hres
  have qh:=Ahw n hn hm0 irb q.frame hq.frame
  generalize hopT n irb q.frame=hp at *
  obtain ⟨to,g,e⟩:=hp
  dsimp only at hres qh
  (refine rg ?_;(conv=>whnf);refine aT ?_;refine rg ?_;conv=>whnf)
  refine Ag qh F233 E E E E E ?_
  refine rg ?_;conv=>whnf
  refine⟨fun h=>?_,fun h=>?_⟩
  ·rw[if_pos (by simpa using h)]at hres
   subst hres
   refine rg ?_;conv=>whnf
   refine Bc 13 [.sl 9 Dq []] E (.cons .nil .nil) ?_
   exact Ac E (.cons .tmp (.cons (.cell E E E E) (.cons .tmp .nil))) E E
  ·rw[if_neg (by simpa using h)]at hres
   subst hres
   refine rg ?_;conv=>whnf
   refine⟨qq,?_⟩
   conv=>whnf
   refine Aav 84 [Dq ⟨4,0,to,[],g,0⟩] E (.cons (.agg (.cons (.refl _) (.cons (.refl _) (.cons (.refl _) (.cons .nil (.cons (.refl _) (.cons (.refl _) (.cons (.refl _) (.cons (.refl _) (.cons (.refl _) .nil)))))))))) .nil) E ?_
   refine Iz 84 Dq [⟨4,0,to,[],g,0⟩] E E ?_
   refine At 84 E ?_
   exact Ac E (.cons .tmp (.cons (.cell E E E E) (.cons .tmp .nil))) E E
 rw[if_neg qx]at hres
 have hs:=hq.frame.src
 have hd2:=hq.frame.dst
 have hfw:=Anv hu q.frame.dst
 have qd:=An3 n hn fw u dom q.from_ q.frame.dst hu.short (by unfold I64 at *;omega) qn
 have hports:=Aam hbn fw u dom q.from_ q.frame.dst
 have hfew:=W9 hn fw u dom q.from_ q.frame.dst
 generalize Cm n fw u dom q.from_ q.frame.dst=dc at *
 obtain ⟨ports,peers,e0⟩:=dc
 dsimp only at hres qd hports hfew
 obtain ⟨hf1,hf2⟩:=hfew
 (refine rg ?_;(conv=>whnf);refine aF ?_;refine rg ?_;conv=>whnf)
 refine Ag qd F235 E E E E E ?_
 refine rg ?_;conv=>whnf
 refine Ad1 13 0 1000 9 Dq E E E E ?_
 refine A3 ports.length (fun j=>[(3,Aa dom),(6,.ref 8 (Ap n) 0),(10,.ref 7 (Bk q) 0),(12,.sl 3 Az u),(13,.ptr 13 0),(23,.clo (.func 234) [] [.ptr 13 0]),(25,.sl 1 Aa peers),(100,.sl 1 Aa ports),(101,Aa ports.length),(102,Aa j)])
  (fun j=>[(13,.box [.osl 1000]),(1000,.row 9 Dq ((ports.take j).map (Xv n dom q.frame)))]) [(13,13),(1000,1000)] ⟨⟨rfl,rfl,rfl,rfl,rfl,rfl,rfl,rfl,rfl,rfl,rfl,rfl,rfl,rfl,rfl,rfl,rfl,rfl,rfl,rfl,trivial⟩,⟨.inl rfl,rfl,.inl rfl,rfl,trivial⟩,rfl,rfl⟩ ?_
 intro j hj
 refine rg ?_;conv=>whnf
 refine⟨fun h=>?_,fun h=>?_⟩
 ·have hlt:j<ports.length:=by have:=of_decide_eq_true h;omega
  have hj0:((j:Nat):Int).toNat<ports.length:=by simpa using hlt
  obtain ⟨p,hp⟩:∃ p,ports[j]=p:=⟨_,rfl⟩
  have e1:ports[((j:Nat):Int).toNat]'hj0=p:=hp
  have hs:(ports.take (j+1)).map (Xv n dom q.frame)=(ports.take j).map (Xv n dom q.frame)++[Xv n dom q.frame p]:=by
   rw[List.take_succ_eq_append_getElem hlt,List.map_append,hp];rfl
  have hal:((ports.take j).map (Xv n dom q.frame)).length=j:=by rw[List.length_map,List.length_take];omega
  have hpi:=hports p (by rw[← hp];exact List.getElem_mem hlt)
  have hpk:p.toNat<n.ports.length:=by omega
  have ql:=Ali n hn p dom q.frame hq.frame
  have hop:Xv n dom q.frame p=Q7 (Aib (if (nth n.ports p).link<0 then 1 else 2) p 0) ((leaveT n p dom q.frame).1,(leaveT n p dom q.frame).2):=rfl
  rw[hop,Am hpk]at hs
  clear hop
  obtain ⟨acc,hacc⟩:∃ acc,(ports.take j).map (Xv n dom q.frame)=acc:=⟨_,rfl⟩
  rw[hacc]at hs hal ⊢
  obtain ⟨x,hx⟩:∃ x,n.ports[p.toNat]'hpk=x:=⟨_,rfl⟩
  rw[hx]at hs
  clear h
  refine rg ?_;conv=>whnf
  refine⟨E,by omega,hj0,?_⟩
  rw[e1]
  conv=>whnf
  refine⟨E,hpi.1,hpk,?_⟩
  rw[hx]
  conv=>whnf
  refine⟨fun h=>?_,fun h=>?_⟩
  ·rw[if_neg (by have:=of_decide_eq_true h;omega)]at hs
   refine rg ?_;conv=>whnf
   refine Ag ql F236 E E E E E ?_
   refine rg ?_;conv=>whnf
   refine Ah (Ey [(0,13),(1,1000),(2,1001)] [] (Cp E E F234) (Qd acc 2 p 0 (leaveT n p dom q.frame).1 (leaveT n p dom q.frame).2 qn) (.cons (.agg (.cons (.refl _) (.cons (.refl _) (.cons (.refl _) (.cons .nil (.cons (.refl _) (.cons (.refl _) (.cons (.refl _) (.cons .nil (.cons (.refl _) .nil)))))))))) (.cons (.refl _) (.cons (.refl _) (.cons (.refl _) .nil)))) ⟨E,E,Y⟩ E ⟨.inl E,.inl E,.inr E,Y⟩ E) E E ?_
   refine rg ?_;conv=>whnf
   refine⟨by unfold I64;omega,?_⟩
   conv=>whnf
   exact Av [(13,13),(1000,1001)] hlt ⟨⟨E,E,E,E,E,E,E,E,E,E,E,E,E,E,E,E,E,E,E,E,Y⟩,⟨.inl E,E,.inl (congrArg (Ob.row 9 Dq) hs),E,Y⟩,E,E⟩
  ·rw[if_pos (by have:=of_decide_eq_false h;omega)]at hs
   refine rg ?_;conv=>whnf
   refine Ag ql F236 E E E E E ?_
   refine rg ?_;conv=>whnf
   refine Ah (Ey [(0,13),(1,1000),(2,1001)] [] (Cp E E F234) (Qd acc 1 p 0 (leaveT n p dom q.frame).1 (leaveT n p dom q.frame).2 qn) (.cons (.agg (.cons (.refl _) (.cons (.refl _) (.cons (.refl _) (.cons .nil (.cons (.refl _) (.cons (.refl _) (.cons (.refl _) (.cons .nil (.cons (.refl _) .nil)))))))))) (.cons (.refl _) (.cons (.refl _) (.cons (.refl _) .nil)))) ⟨E,E,Y⟩ E ⟨.inl E,.inl E,.inr E,Y⟩ E) E E ?_
   refine rg ?_;conv=>whnf
   refine⟨by unfold I64;omega,?_⟩
   conv=>whnf
   exact Av [(13,13),(1000,1001)] hlt ⟨⟨E,E,E,E,E,E,E,E,E,E,E,E,E,E,E,E,E,E,E,E,Y⟩,⟨.inl E,E,.inl (congrArg (Ob.row 9 Dq) hs),E,Y⟩,E,E⟩
 have hjj:j=ports.length:=by have:=of_decide_eq_false h;omega
 subst hjj
 clear h
 rw[List.take_length]
 obtain ⟨acc0,hacc0⟩:∃ acc0,ports.map (Xv n dom q.frame)=acc0:=⟨_,rfl⟩
 have hal0:acc0.length=ports.length:=by rw[← hacc0,List.length_map]
 rw[hacc0]at hres ⊢
 refine rg ?_;conv=>whnf
 refine A3 peers.length (fun j=>[(3,Aa dom),(6,.ref 8 (Ap n) 0),(10,.ref 7 (Bk q) 0),(12,.sl 3 Az u),(13,.ptr 13 0),(23,.clo (.func 234) [] [.ptr 13 0]),(130,.sl 1 Aa peers),(131,Aa peers.length),(132,Aa j)])
  (fun j=>[(13,.box [.osl 1000]),(1000,.row 9 Dq (acc0++(peers.take j).map (Zx n dom q.frame)))]) [(13,13),(1000,1000)] ⟨⟨rfl,rfl,rfl,rfl,rfl,rfl,rfl,rfl,rfl,rfl,rfl,rfl,rfl,rfl,rfl,rfl,rfl,rfl,trivial⟩,⟨.inl rfl,rfl,.inl (congrArg (Ob.row 9 Dq) qy),rfl,trivial⟩,rfl,rfl⟩ ?_
 intro j hj
 refine rg ?_;conv=>whnf
 refine⟨fun h=>?_,fun h=>?_⟩
 ·have hlt:j<peers.length:=by have:=of_decide_eq_true h;omega
  have hj0:((j:Nat):Int).toNat<peers.length:=by simpa using hlt
  obtain ⟨p,hp⟩:∃ p,peers[j]=p:=⟨_,rfl⟩
  have e1:peers[((j:Nat):Int).toNat]'hj0=p:=hp
  have hs:acc0++(peers.take (j+1)).map (Zx n dom q.frame)=(acc0++(peers.take j).map (Zx n dom q.frame))++[Zx n dom q.frame p]:=by
   rw[List.take_succ_eq_append_getElem hlt,List.map_append,hp,List.append_assoc];rfl
  have hal:(acc0++(peers.take j).map (Zx n dom q.frame)).length≤ports.length+j:=by rw[List.length_append,List.length_map,List.length_take];omega
  have ql:=Ae4 n hn hm0 dom p q.frame hq.frame
  have hop:Zx n dom q.frame p=Q7 (Aib 3 0 p) ((meshT n dom p q.frame).1,(meshT n dom p q.frame).2):=rfl
  rw[hop]at hs
  clear hop
  obtain ⟨acc,hacc⟩:∃ acc,acc0++(peers.take j).map (Zx n dom q.frame)=acc:=⟨_,rfl⟩
  rw[hacc]at hs hal ⊢
  clear h
  refine rg ?_;conv=>whnf
  refine⟨E,by omega,hj0,?_⟩
  rw[e1]
  conv=>whnf
  refine Ag ql F237 E E E E E ?_
  refine rg ?_;conv=>whnf
  refine Ah (Ey [(0,13),(1,1000),(2,1001)] [] (Cp E E F234) (Qd acc 3 0 p (meshT n dom p q.frame).1 (meshT n dom p q.frame).2 qn) (.cons (.agg (.cons (.refl _) (.cons (.refl _) (.cons (.refl _) (.cons .nil (.cons (.refl _) (.cons (.refl _) (.cons (.refl _) (.cons .nil (.cons (.refl _) .nil)))))))))) (.cons (.refl _) (.cons (.refl _) (.cons (.refl _) .nil)))) ⟨E,E,Y⟩ E ⟨.inl E,.inl E,.inr E,Y⟩ E) E E ?_
  refine rg ?_;conv=>whnf
  refine⟨by unfold I64;omega,?_⟩
  conv=>whnf
  exact Av [(13,13),(1000,1001)] hlt ⟨⟨E,E,E,E,E,E,E,E,E,E,E,E,E,E,E,E,E,E,Y⟩,⟨.inl E,E,.inl (congrArg (Ob.row 9 Dq) hs),E,Y⟩,E,E⟩
 have hjj:j=peers.length:=by have:=of_decide_eq_false h;omega
 subst hjj
 clear h
 rw[List.take_length]
 subst hres
 refine rg ?_;conv=>whnf
 refine⟨qq,?_⟩
 conv=>whnf
 refine At 1000 E ?_
 exact Ac E (.cons .tmp (.cons (.cell E E E E) (.cons .tmp .nil))) E E
theorem Kp {l:List QueuedM} (h:Ep l):l.length<1000000∧Mh l:=⟨by have:=h.1;omega,fun q hq=>by have:=(h.2 q hq).frame.body;omega⟩
theorem U8 {α:Type} {l:List α} {i:Nat} (h:i<l.length) (d:α):(l[i]?).getD d=l[i]:=by
 rw[List.getElem?_eq_getElem h];rfl
theorem placeB_iff {d:Int} {k:Nat}:Ak d k=true↔0≤d∧d.toNat<k:=by
 simp only[Ak,Bool.and_eq_true,decide_eq_true_eq];omega
theorem Ahm (n:Net) (m:MacM) (d:Bool) (dom:Int) (hl:Ep (queueL m dom)) :
  Sy.Spec Tryz.prog 54 [.ptr 0 0,Aa dom] (Cs n m d) (.sl 7 Bk (if Ak dom m.queues.length then queueL m dom else [])) (Cs n m d):=Ab Γ hm 100 F54 Tryz.ntmps54 rfl fun F hF=>by
 have h1:=Agb n m d dom
 have hpl:=placeB_iff (d:=dom) (k:=m.queues.length)
 generalize Ak dom m.queues.length=b at *
 have hb:=Kp hl
 have h2:=V6 _ (-1) hb.1 hb.2
 have h3:takeT (queueL m dom) (-1)=(noQ,queueL m dom,false):=by rw[takeT];exact if_pos (.inl qx)
 rw[h3]at h2
 clear h3 hb hl
 have hres:=queueL.eq_1 m dom
 generalize queueL m dom=res at *
 conv=>whnf
 refine Ah (Aj [] E F119 h1 E ⟨E,E,E,E,Y⟩ E ⟨.inl E,.inl E,.inl E,.inl E,Y⟩) E E ?_
 refine rg ?_;conv=>whnf
 cases b
 ·(refine⟨fun _=>?_,fun h=>False.elim (absurd h qx)⟩;refine rg ?_;conv=>whnf)
  refine Ao 4 7 Bk E ?_
  exact done E (.cons .tmp .nil) [] (Cs n m d) (fun _ h=>h) E E ⟨Y,⟨.inl E,E,.inl E,E,.inl E,E,.inl E,E,Y⟩,E,E⟩
 have hd:=hpl.1 rfl
 have hlt:dom.toNat<m.queues.length:=hd.2
 rw[U8 hlt]at hres
 subst hres
 (refine⟨fun h=>False.elim (absurd h qx),fun _=>?_⟩;refine rg ?_;conv=>whnf)
 refine⟨hd.1,by omega,?_⟩
 conv=>whnf
 refine⟨E,hlt,?_⟩
 conv=>whnf
 refine Ag h2 F120 E E E E E ?_
 refine rg ?_;conv=>whnf
 exact done E (.cons .tmp .nil) [] (Cs n m d) (fun _ h=>h) E E ⟨Y,⟨.inl E,E,.inl E,E,.inl E,E,.inl E,E,Y⟩,E,E⟩
def My (m:MacM):Prop:=∀ i,0≤m.drops i∧m.drops i≤1000000000000
theorem Qo (n:Net) (m:MacM) (d:Bool) (dom:Int) (q:QueuedM) (e:Int) (he:0≤e∧e<64) (hd:e=0→0≤dom∧dom.toNat<m.queues.length) (hb:My m) (hl:Ep (queueL m dom)) (hq:QueuedOK q) :
  Sy.Spec Tryz.prog 173 [.ptr 0 0,Aa dom,Bk q,Aa e] (Cs n m d) (.tup []) (Cs n (comeM m dom q e) d):=Ab Γ hm 100 F173 Tryz.ntmps173 rfl fun F hF=>by
 have hqb:=Kp hl
 have hp:=Abx _ q hqb.1 hqb.2 (by have:=hq.frame.body;omega)
 have h1:=Adc n m d e he.1 he.2 (hb _)
 have h3:=Adc n m d 3 qx qx (hb _)
 have hres:=comeM.eq_1 m dom q e
 generalize comeM m dom q e=res at *
 conv=>whnf
 refine⟨fun h=>?_,fun h=>?_⟩
 ·rw[if_pos (by simpa using h)]at hres
  subst hres
  refine rg ?_;conv=>whnf
  refine Ah (Aj [] E F176 h1 E ⟨E,E,E,E,Y⟩ E ⟨.inl E,.inl E,.inl E,.inl E,Y⟩) E E ?_
  refine rg ?_;conv=>whnf
  exact done E .nil [] (Cs n (B9 m e) d) (fun _ h=>h) E E ⟨Y,⟨.inl E,E,.inl E,E,.inl E,E,.inl E,E,Y⟩,E,E⟩
 have h0:e=0:=by simpa using h
 have hd:=hd h0
 rw[if_neg (by rw[h0];decide)]at hres
 clear h hqb h1 hl he
 have hq0:=queueL.eq_1 m dom
 rw[U8 hd.2]at hq0
 generalize queueL m dom=l at *
 generalize pushT l q=r at *
 obtain ⟨l2,ok⟩:=r
 subst hq0
 refine rg ?_;conv=>whnf
 refine⟨hd.1,hd.2,?_⟩
 conv=>whnf
 refine⟨E,hd.2,?_⟩
 conv=>whnf
 refine Au hp F228 E E E qq E ?_
 refine rd qq ?_;conv=>whnf
 refine⟨qq,?_⟩
 conv=>whnf
 cases ok
 ·rw[if_neg qy]at hres
  subst hres
  (refine⟨fun _=>?_,fun h=>False.elim (by simp at h)⟩;refine rg ?_;conv=>whnf)
  refine Ah (Aj [] E F176 h3 E ⟨E,E,E,E,Y⟩ E ⟨.inl E,.inl E,.inl E,.inl E,Y⟩) E E ?_
  refine rg ?_;conv=>whnf
  exact done E .nil [] (Cs n (B9 m 3) d) (fun _ h=>h) E E ⟨Y,⟨.inl E,E,.inl E,E,.inl E,E,.inl E,E,Y⟩,E,E⟩
 ·rw[if_pos rfl]at hres
  subst hres
  (refine⟨fun h=>False.elim (by simp at h),fun _=>?_⟩;refine rg ?_;conv=>whnf)
  refine⟨hd.1,hd.2,?_⟩
  conv=>whnf
  refine⟨E,hd.2,l2,E,E,?_⟩
  conv=>whnf
  exact Ba E .nil [] (Cs n (Ahp m dom l2) d) (fun _ h=>h) E E ⟨Y,⟨.inl E,E,.inl E,E,.inl E,E,.inl E,E,Y⟩,E,E⟩
theorem Abe (n:Net) (m:MacM) (d:Bool) (dom at_:Int) (hl:Ep (queueL m dom)) :
  Sy.Spec Tryz.prog 116 [.ptr 0 0,Aa dom,Aa at_] (Cs n m d) (.tup [Bk (takeM m dom at_).2.1,Ad (takeM m dom at_).2.2]) (Cs n (takeM m dom at_).1 d):=Ab Γ hm 100 F116 Tryz.ntmps116 rfl fun F hF=>by
 have hqb:=Kp hl
 have hp:=V6 _ at_ hqb.1 hqb.2
 have h1:=Agb n m d dom
 have hpl:=placeB_iff (d:=dom) (k:=m.queues.length)
 have hres:=takeM.eq_1 m dom at_
 generalize takeM m dom at_=res at *
 generalize Ak dom m.queues.length=b at *
 have hq0:=queueL.eq_1 m dom
 clear hl hqb
 generalize queueL m dom=l at *
 generalize takeT l at_=r at *
 obtain ⟨q,l2,ok⟩:=r
 conv=>whnf
 refine Ah (Aj [] E F119 h1 E ⟨E,E,E,E,Y⟩ E ⟨.inl E,.inl E,.inl E,.inl E,Y⟩) E E ?_
 refine rg ?_;conv=>whnf
 cases b
 ·rw[if_pos rfl]at hres
  subst hres
  (refine⟨fun _=>?_,fun h=>False.elim (absurd h qx)⟩;refine rg ?_;conv=>whnf)
  refine Bc 6 [Aa 0,Aa 0,Aa 0,A9 0,A9 0,Aa 0,.sl 1 Ai []] E (.cons (.refl _) (.cons (.refl _) (.cons (.refl _) (.cons (.refl _) (.cons (.refl _) (.cons (.refl _) (.cons .nil .nil))))))) ?_
  exact done E (.cons (.cell E E E E) (.cons .tmp .nil)) [] (Cs n m d) (fun _ h=>h) E E ⟨Y,⟨.inl E,E,.inl E,E,.inl E,E,.inl E,E,Y⟩,E,E⟩
 have hd:=hpl.1 rfl
 rw[U8 hd.2]at hq0
 subst hq0
 rw[if_neg qy]at hres
 subst hres
 (refine⟨fun h=>False.elim (absurd h qx),fun _=>?_⟩;refine rg ?_;conv=>whnf)
 refine⟨hd.1,hd.2,?_⟩
 conv=>whnf
 refine⟨E,hd.2,?_⟩
 conv=>whnf
 refine Ag hp F120 E E E E E ?_
 refine rg ?_;conv=>whnf
 refine⟨hd.1,hd.2,?_⟩
 conv=>whnf
 refine⟨E,hd.2,l2,E,E,?_⟩
 conv=>whnf
 exact done E (.cons (.cell E E E E) (.cons .tmp .nil)) [] (Cs n (Ahp m dom l2) d) (fun _ h=>h) E E ⟨Y,⟨.inl E,E,.inl E,E,.inl E,E,.inl E,E,Y⟩,E,E⟩
theorem Aec (n:Net) (hn:n.Fin) (m:MacM) (d:Bool) (J D:Int) (hm0:MacOK n m J D) (hJ:J<1000000000000) (hD:D≤1000000000000) (port:Int) (b:List UInt8) (hb:b.length<100000) :
  Sy.Spec Tryz.prog 114 [.ptr 0 0,Aa port,.sl 1 Ai b] (Cs n m d) (.tup []) (Cs n (injectT n m port b) d):=Ab Γ hm 100 F114 Tryz.ntmps114 rfl fun F hF=>by
 have hres:=injectT.eq_1 n m port b
 generalize injectT n m port b=res at *
 have hpl:=placeB_iff (d:=port) (k:=n.ports.length)
 have hinj:=hm0.inj
 have hok:MacOK n ⟨m.up,m.tables,m.queues,m.now,m.injected+1,m.drops⟩ (J+1) D:=⟨hm0.up,hm0.tabs,hm0.ques,hm0.tab,hm0.que,hm0.now,⟨by dsimp only;omega,by dsimp only;omega⟩,hm0.drp⟩
 have hdr:My ⟨m.up,m.tables,m.queues,m.now,m.injected+1,m.drops⟩:=fun i=>⟨(hm0.drp i).1,by have:=(hm0.drp i).2;dsimp only at *;omega⟩
 have he:=W1 n port b
 have hdom:=W2 (n:=n) (port:=port) (b:=b)
 have q1:=Ac7 n hn port b hb
 have hfr:=Tw n port b
 generalize enterT n port b=r at *
 have q2:=fun (hp:0≤port∧port.toNat<n.ports.length)=>Qo n ⟨m.up,m.tables,m.queues,m.now,m.injected+1,m.drops⟩ d r.1 ⟨port,0,m.injected+1,r.2.1⟩ r.2.2 ⟨he.1,by have:=he.2;omega⟩ (fun h=>by
  have:=hdom h
  exact⟨this.1,by show r.1.toNat<m.queues.length;rw[hm0.ques];exact this.2⟩) hdr (D5 hok _) (Ev hfr _ ⟨by omega,by have:=hn.ports;unfold An at this;omega⟩ qx)
 conv=>whnf
 refine⟨fun h=>?_,fun h=>?_⟩
 ·have h:=of_decide_eq_true h
  rw[if_pos (.inl (by cases hx:Ak port n.ports.length;rfl;exact absurd (hpl.1 hx) qn))]at hres
  subst hres
  (refine rg ?_;(conv=>whnf);refine aT ?_;refine rg ?_;(conv=>whnf);refine aT ?_;refine rg ?_;conv=>whnf)
  (skip)
  exact done E .nil [] (Cs n res d) (fun _ h=>h) E E ⟨Y,⟨.inl E,E,.inl E,E,.inl E,E,.inl E,E,Y⟩,E,E⟩
 have h0:=of_decide_eq_false h
 clear h
 refine rg ?_;conv=>whnf
 refine⟨fun h=>?_,fun h=>?_⟩
 ·have h:=of_decide_eq_true h
  rw[if_pos (.inl (by cases hx:Ak port n.ports.length;rfl;exact absurd (hpl.1 hx) qn))]at hres
  subst hres
  (refine rg ?_;(conv=>whnf);refine aT ?_;refine rg ?_;conv=>whnf)
  (skip)
  exact done E .nil [] (Cs n res d) (fun _ h=>h) E E ⟨Y,⟨.inl E,E,.inl E,E,.inl E,E,.inl E,E,Y⟩,E,E⟩
 have h1:=of_decide_eq_false h
 clear h
 have hp:0≤port∧port.toNat<n.ports.length:=by omega
 rw[hpl.2 hp,Am hp.2]at hres
 obtain ⟨p,hpp⟩:∃ p,n.ports[port.toNat]'hp.2=p:=⟨_,rfl⟩
 rw[hpp]at hres
 refine rg ?_;conv=>whnf
 refine⟨E,hp.1,hp.2,?_⟩
 rw[hpp]
 conv=>whnf
 refine⟨fun h=>?_,fun h=>?_⟩
 ·have h:=of_decide_eq_true h
  rw[if_pos (.inr h)]at hres
  subst hres
  refine rg ?_;conv=>whnf
  exact done E .nil [] (Cs n res d) (fun _ h=>h) E E ⟨Y,⟨.inl E,E,.inl E,E,.inl E,E,.inl E,E,Y⟩,E,E⟩
 have h2:=of_decide_eq_false h
 clear h
 rw[if_neg (by simp;omega)]at hres
 subst hres
 refine rg ?_;conv=>whnf
 refine⟨by unfold I64;omega,?_⟩
 conv=>whnf
 refine Ag q1 F172 E E E E E ?_
 refine rg ?_;conv=>whnf
 refine Bo (Aj [] E F173 (q2 hp) E ⟨E,E,E,E,Y⟩ E ⟨.inl E,.inl E,.inl E,.inl E,Y⟩) qq E ?_
 refine rd qq ?_;conv=>whnf
 refine⟨qq,?_⟩
 conv=>whnf
 refine Ba E .nil [] (Cs n (comeM _ _ _ _) d) (fun _ h=>h) E E ⟨Y,⟨.inl E,E,.inl E,E,.inl E,E,.inl E,E,Y⟩,E,E⟩
theorem Vr (n:Net) (hn:n.Fin) (m:MacM) (d:Bool) (J D:Int) (hm0:MacOK n m J D) (hD:D≤1000000000000) (o:OutM) (ho:OutOK n o) (origin:Int) :
  Sy.Spec Tryz.prog 177 [.ptr 0 0,Dq o,Aa origin] (Cs n m d) (.sl 3 Dl (goesM n m o origin).2) (Cs n (goesM n m o origin).1 d):=Ab Γ hm 100 F177 Tryz.ntmps177 rfl fun F hF=>by
 have hres:=goesM.eq_1 n m o origin
 generalize goesM n m o origin=res at *
 have hdr:My m:=fun i=>⟨(hm0.drp i).1,by have:=(hm0.drp i).2;omega⟩
 have hbl:o.bytes.length<100000:=by have:=ho.bytes;omega
 have hin:∀ {x:Int},DomIn n x→0≤x∧x.toNat<m.queues.length:=fun h=>by rw[hm0.ques];exact h
 conv=>whnf
 refine⟨fun h=>?_,fun h=>?_⟩
 ·have h1:o.kind=1:=by simpa using h
  rw[if_pos h1]at hres
  subst hres
  refine rg ?_;conv=>whnf
  refine Iz 34 Dl [⟨o.port,origin,o.bytes⟩] E E ?_
  refine At 34 E ?_
  exact done E (.cons .tmp .nil) [] (Cs n m d) (fun _ h=>h) E E ⟨Y,⟨.inl E,E,.inl E,E,.inl E,E,.inl E,E,Y⟩,E,E⟩
 have h1:¬ o.kind=1:=by simpa using h
 rw[if_neg h1]at hres
 clear h
 refine rg ?_;conv=>whnf
 refine⟨fun h=>?_,fun h=>?_⟩
 ·have h2:o.kind=2:=by simpa using h
  rw[if_pos h2]at hres
  have q1:=Ae5 n hn o.port o.bytes hbl
  have he:=Aik n o.port o.bytes
  have hd:=fun h=>hin (Ail (n:=n) (port:=o.port) (b:=o.bytes) h)
  have hf:=Aci n o.port o.bytes
  have ht:=Ach hn o.port o.bytes
  generalize linkT n o.port o.bytes=r at *
  have q2:=Qo n m d r.2.1 ⟨r.1,0,origin,r.2.2.1⟩ r.2.2.2 he hd hdr (D5 hm0 _) (Ev hf _ qn qx)
  subst hres
  refine rg ?_;conv=>whnf
  refine Au q1 F241 E E E qq E ?_
  refine rd qq ?_;conv=>whnf
  refine⟨qq,?_⟩
  conv=>whnf
  refine⟨qq,?_⟩
  conv=>whnf
  refine Ah (Aj [] E F173 q2 E ⟨E,E,E,E,Y⟩ E ⟨.inl E,.inl E,.inl E,.inl E,Y⟩) E E ?_
  refine rg ?_;conv=>whnf
  refine Ao 6 3 Dl E ?_
  exact done E (.cons .tmp .nil) [] (Cs n (comeM _ _ _ _) d) (fun _ h=>h) E E ⟨Y,⟨.inl E,E,.inl E,E,.inl E,E,.inl E,E,Y⟩,E,E⟩
 have h2:¬ o.kind=2:=by simpa using h
 rw[if_neg h2]at hres
 clear h
 refine rg ?_;conv=>whnf
 refine⟨fun h=>?_,fun h=>?_⟩
 ·have h2:o.kind=3:=by simpa using h
  rw[if_pos h2]at hres
  have q1:=Ae6 n hn o.bytes hbl
  have he:=Ai8 n o.bytes
  have hd:=fun h=>hin (Y8 (n:=n) (b:=o.bytes) h).2
  have hf:=Adg n o.bytes
  have ht:=Xb hn o.bytes
  generalize comeT n o.bytes=r at *
  have q2:=Qo n m d r.2.1 ⟨-1,r.1,origin,r.2.2.1⟩ r.2.2.2 he hd hdr (D5 hm0 _) (Ev hf _ qx ht)
  subst hres
  refine rg ?_;conv=>whnf
  refine Au q1 F242 E E E qq E ?_
  refine rd qq ?_;conv=>whnf
  refine⟨qq,?_⟩
  conv=>whnf
  refine⟨qq,?_⟩
  conv=>whnf
  refine Ah (Aj [] E F173 q2 E ⟨E,E,E,E,Y⟩ E ⟨.inl E,.inl E,.inl E,.inl E,Y⟩) E E ?_
  refine rg ?_;conv=>whnf
  refine Ao 6 3 Dl E ?_
  exact done E (.cons .tmp .nil) [] (Cs n (comeM _ _ _ _) d) (fun _ h=>h) E E ⟨Y,⟨.inl E,E,.inl E,E,.inl E,E,.inl E,E,Y⟩,E,E⟩
 have h3:¬ o.kind=3:=by simpa using h
 rw[if_neg h3]at hres
 clear h
 refine rg ?_;conv=>whnf
 refine⟨fun h=>?_,fun h=>?_⟩
 ·have h4:o.kind=4:=by simpa using h
  rw[if_pos h4]at hres
  have hf:=ho.frame h4
  have q2:=Qo n m d o.domain ⟨-2,0,origin,o.frame⟩ 0 qx (fun _=>hin hf.2) hdr (D5 hm0 _) (Ev hf.1 _ qx qx)
  subst hres
  refine rg ?_;conv=>whnf
  refine Ah (Aj [] E F173 q2 E ⟨E,E,E,E,Y⟩ E ⟨.inl E,.inl E,.inl E,.inl E,Y⟩) E E ?_
  refine rg ?_;conv=>whnf
  refine Ao 6 3 Dl E ?_
  exact done E (.cons .tmp .nil) [] (Cs n (comeM _ _ _ _) d) (fun _ h=>h) E E ⟨Y,⟨.inl E,E,.inl E,E,.inl E,E,.inl E,E,Y⟩,E,E⟩
 have h4:¬ o.kind=4:=by simpa using h
 rw[if_neg h4]at hres
 have h5:o.kind=5:=by have:=ho.kind;omega
 have he:=ho.err h5
 have q2:=Adc n m d o.error he.1 he.2 (hdr _)
 subst hres
 clear h
 refine rg ?_;conv=>whnf
 refine Ah (Aj [] E F176 q2 E ⟨E,E,E,E,Y⟩ E ⟨.inl E,.inl E,.inl E,.inl E,Y⟩) E E ?_
 refine rg ?_;conv=>whnf
 refine Ao 6 3 Dl E ?_
 exact done E (.cons .tmp .nil) [] (Cs n (B9 m o.error) d) (fun _ h=>h) E E ⟨Y,⟨.inl E,E,.inl E,E,.inl E,E,.inl E,E,Y⟩,E,E⟩
def Ab6 (up:List Bool) (dn lk:Int) (fw:List Bool):List SV:=[.sl 1 Ad up,.val (.int .u32 dn),.val (.int .i32 lk),.val (.int .u32 0),.sl 1 Ad fw]
def M4 (n:Net) (up:List Bool) (dn lk:Int) (fw:List Bool):Obs:=[(1,.box (Ab6 up dn lk fw)),(2,.box [.ptr 1 0]),(3,.box (Ak7 n))]
theorem Aif (n:Net) (hn:n.Fin) (up fw:List Bool) (dn lk:Int) :
  Sy.Spec Tryz.prog 239 [.ptr 3 0,.ptr 2 0] (M4 n up dn lk fw) (.tup []) (M4 n up dn lk (J6 n up)):=Ab Γ hm 100 F239 Tryz.ntmps239 rfl fun F hF=>by
 have hf:∃ e,Sy.Spec Tryz.prog 112 [Ap n,.sl 1 Ad up] [] (.tup [.sl 1 Ad (J6 n up),Aa e]) []:=by
  unfold J6
  split
  ·rename_i h;exact⟨0,Y0 n up hn h⟩
  ·rename_i h;exact⟨2,Wv n up hn (by simpa using h)⟩
 obtain ⟨e,hf⟩:=hf
 generalize J6 n up=r at *
 conv=>whnf
 refine Au hf F112 E E E qq E ?_
 refine rd qq ?_;conv=>whnf
 refine⟨qq,?_⟩
 conv=>whnf
 exact Ba E .nil [] (M4 n up dn lk r) (fun _ h=>h) E E ⟨Y,⟨.inl E,E,.inl E,E,.inl E,E,Y⟩,E,E⟩
theorem Alf (a:Addr) (x:Int) (w:World) (hc:w.cell? a=some (.int .u32 x)):(callFunc 353 #[.pointer (some a)]).run Tryz.prog w=.ok (.value (.int .u32 x)) w :=
 run_call_load Tryz.func353 qq qq qq .u32 qq hc
theorem Yk (n:Net) (up fw:List Bool) (dn lk:Int):Sy.Spec Tryz.prog 305 [.ptr 1 1] (M4 n up dn lk fw) (Ad (dn != 0)) (M4 n up dn lk fw):=Ab Γ hm 100 F305 Tryz.ntmps305 rfl fun F hF=>by
 conv=>whnf
 refine Ah (X5 Alf E E E E) E E ?_
 refine rg ?_;conv=>whnf
 exact done E (.cons .tmp .nil) [] (M4 n up dn lk fw) (fun _ h=>h) E E ⟨Y,⟨.inl E,E,.inl E,E,.inl E,E,Y⟩,E,E⟩
theorem Qx (w:World):(callFunc 388 #[]).run Tryz.prog w=.ok (.value (.tuple #[])) w:=run_call_mark0 Tryz.func388 qq qq qq .disable qq w
theorem Ua (w:World):(callFunc 390 #[]).run Tryz.prog w=.ok (.value (.tuple #[])) w:=run_call_mark0 Tryz.func390 qq qq qq .enable qq w
theorem Zs (a:Addr) (w:World):(callFunc 391 #[.pointer (some a)]).run Tryz.prog w=.ok (.value (.tuple #[])) w:=run_call_marked Tryz.func391 qq qq qq .acquire qq a w
theorem Zr (a:Addr) (w:World):(callFunc 393 #[.pointer (some a)]).run Tryz.prog w=.ok (.value (.tuple #[])) w:=run_call_marked Tryz.func393 qq qq qq .releaseMerge qq a w
theorem Vo (a:Addr) (x:Value) (u:FrameMode) (w:World) (hc:w.cell? a=some x) (hz:w.frozen? a=false) :
  CallsD Tryz.prog 356 #[.pointer (some a),.bool true] u w fun e u' w'=>u'=u∧(e=.returned (.tuple #[])∧w'=w.drew.setCell a (.int .u32 1)):=by
 have hc':w.drew.cell? a=some x:=by go_simp
 have hz':w.drew.frozen? a=false:=by go_simp
 have hst:=run_call_store (P:=Tryz.prog) Tryz.func378 qq qq qq qq (k:=.u32) (y:=1) hc' hz'
 go_enter_d Tryz.func356,Tryz.ntmps356
 go_wp2
 go_region_calls
 all_goals (go_end0;exact⟨rfl,rfl⟩)
theorem Uu (a:Addr) (u:FrameMode) (w:World) (hc:w.cell? a=some (.int .i32 1)) (hz:w.frozen? a=false) :
  CallsD Tryz.prog 355 #[.pointer (some a)] u w fun e u' w'=>u'=u∧(e=.returned (.tuple #[])∧w'=w.setCell a (.int .i32 0)):=by
 have hd:=Qx
 have he:=Ua
 have hr:=Zr
 have hadd:=run_call_add (P:=Tryz.prog) Tryz.func394 qq qq qq .i32 qq (y:=-1) (s:=0) hc hz (by simp[go_sem];rfl)
 have hcv:=run_convert_to_unsafe (P:=Tryz.prog) (src:=503) (dst:=507) Tryz.underlying503 Tryz.underlying507 qq hc
 go_enter_d Tryz.func355,Tryz.ntmps355
 go_wp2
 go_end0
 go_wp2
 go_end0
 exact⟨E,E⟩
theorem Aij (a:Addr) (w:World) (hc:w.cell? a=some (.int .i32 0)) (hz:w.frozen? a=false) :
  Calls Tryz.prog 354 #[.pointer (some a)] w fun e w'=>e=.returned (.tuple #[])∧w'=w.setCell a (.int .i32 1):=by
 have hd:=Qx
 have he:=Ua
 have ha:=Zs
 have hcas:=run_call_cas_hit (P:=Tryz.prog) Tryz.func389 qq qq qq .i32 qq (y:=1) hc hz
 have hc':(w.setCell a (.int .i32 1)).cell? a=some (.int .i32 1):=World.cell?_setCell_same w a _ hc
 have hcv:=run_convert_to_unsafe (P:=Tryz.prog) (src:=503) (dst:=507) Tryz.underlying503 Tryz.underlying507 qq hc'
 go_enter Tryz.func354,Tryz.ntmps354
 go_wp2
 first | go_end0 | (simp only[Exit.inBlock,Exit.then];refine bodyPost_ret (results_none rfl _ _ _) rfl ?_) | refine bodyPost_ret (results_none rfl _ _ _) rfl ?_
 go_wp2
 go_end0
 exact⟨E,E⟩
end Go.Sy.YteinjapglfkamaaGreat
namespace Go.Sy.YteinjapglfkamaaGreat
open Go.Proofs
set_option maxRecDepth 100000
set_option maxHeartbeats 4000000
theorem Ctx.behind {K:Nat→Prop} {κ κ2:Ka} {w w1 w2:World} (s:Step K κ w κ w1) (c:Ctx ⟨w1,κ⟩ κ2 w2):Ctx ⟨w,κ⟩ κ2 w2 where
 size:=Nat.le_trans s.size c.size
 os:=c.os.trans s.os
 tape:=c.tape.trans s.tape
 output:=c.output.trans s.output
 M:=c.M
 old:=fun b hb h=>by
  refine(c.old b (Nat.lt_of_lt_of_le hb s.size) h).trans ?_
  by_cases hm:κ.M b
  ·exact s.mkeep b hm
  ·exact s.blk b hb (fun ho=>by
    rcases ho with ⟨k,hk⟩ | ho
    ·exact h k hk
    ·exact hm ho)
 own:=fun k b hk=>by
  rcases c.own k b hk with h | h
  ·exact .inl (Nat.le_trans s.size h)
  ·exact .inr h
 nam:=c.nam
theorem Ai5 {κ:Ka} {w:World} (hi:Inv κ w):Step (fun _=>False) κ w κ w.drew∧Inv κ w.drew:=by
 have g:=Grew.drew w
 exact⟨⟨g.size,g.os,g.tape,g.output,E,fun b _=>rfl,fun b _ _=>rfl,fun _ _ _ _=>rfl,fun _ _=>rfl,fun _ h=>h.elim,fun _ h=>.inl h⟩,⟨hi.inj,hi.bnd,hi.apart,hi.mbnd⟩⟩
theorem Aie (n:Net) (hn:n.Fin) (up fw:List Bool) :
  Sy.Spec Tryz.prog 306 [.ptr 1 1,.clo (.func 239) [] [.ptr 3 0,.ptr 2 0]] (M4 n up 0 0 fw) (.tup []) (M4 n up 1 0 (J6 n up)):=by
 intro κ w vs hi hnew hvs hok
 have o1:=hok (1,.box (Ab6 up 0 0 fw)) (by simp[M4])
 have o2:=hok (2,.box [.ptr 1 0]) (by simp[M4])
 have o3:=hok (3,.box (Ak7 n)) (by simp[M4])
 obtain ⟨b,e1,c1,c2,st1,inv1,ob1⟩:=Hs (off:=2) (x:=.val (.int .i32 1)) (v:=.int .i32 1) hi o1 rfl (fun _ _=>by simp only[Rd]) rfl
 obtain ⟨b2,_,_,_,e2,_⟩:=id o2
 obtain ⟨b3,_,_,_,e3,_⟩:=id o3
 simp only[RdL,Rd,e1,e2,e3]at hvs
 obtain ⟨v0,r0,rfl,rfl,v1,r1,rfl,⟨fs,cs,rfl,hfs,hcs⟩,rfl⟩:=hvs
 subst hfs
 obtain ⟨p3,q3,rfl,rfl,p2,q2,rfl,rfl,rfl⟩:=hcs
 have hcl:=Aif n hn up fw 0 1 κ (w.setCell ⟨b,2,none⟩ (.int .i32 1)) [.pointer (some ⟨b3,0,none⟩),.pointer (some ⟨b2,0,none⟩)] inv1 hnew (by simp only[RdL,Rd,e2,e3];exact⟨_,_,rfl,rfl,_,_,rfl,rfl,rfl⟩) (fun p hp=>by
  simp only[M4,List.mem_cons,List.not_mem_nil,or_false]at hp
  rcases hp with rfl | rfl | rfl
  ·exact ob1
  ·exact ObOK.step st1 (show ¬ (2:Nat)=1 by decide) _ o2
  ·exact ObOK.step st1 (show ¬ (3:Nat)=1 by decide) _ o3)
 obtain ⟨u1,hu1,hr1⟩:=c1 1 (.val (.int .u32 0)) rfl
 obtain ⟨u2,hu2,hr2⟩:=c1 2 (.val (.int .i32 0)) rfl
 rw[hr1.val]at hu1
 rw[hr2.val]at hu2
 have f1:=c2 1 (show 1<5 by decide)
 have f2:=c2 2 (show 2<5 by decide)
 have hl:=Alf ⟨b,1,none⟩ 0 (w.setCell ⟨b,2,none⟩ (.int .i32 1)) ((World.cell?_setCell_other _ ⟨b,2,none⟩ ⟨b,1,none⟩ _ qy).trans hu1)
 have hnot:∀ (x:Bool) (w:World),(Op.unary .not (.bool x)).run Tryz.prog w=.ok (.bool (!x)) w:=fun _ _=>rfl
 go_enter_defers Tryz.func306,Tryz.ntmps306
 go_wp2_with (first | (go_at_call 354;refine(Aij ⟨b,2,none⟩ _ (by assumption) (by assumption)).mono ?_;rintro e w' ⟨rfl,rfl⟩) | (go_at_call 239;refine hcl.mono ?_;rintro e w' ⟨v,κ2,rfl,hc2,hi2,hv2,ok2⟩) | (go_at_call 305;go_in))
 have p1:=ok2 (1,.box (Ab6 up 0 1 (J6 n up))) (by simp[M4])
 have k1:κ2 1=.blk b:=by
  obtain ⟨bb,_,_,_,q1,_⟩:=id p1
  rcases hc2.nam 1 (by rw[e1];intro h;cases h) with h | h
  ·rw[h];exact e1
  ·rw[h]at q1;cases q1
 obtain ⟨ba,a1,a2,a3,_,_,_⟩:=Hs (off:=1) (x:=.val (.int .u32 1)) (v:=.int .u32 1) hi2 p1 rfl (fun _ _=>by simp only[Rd]) rfl
 rw[k1]at a1
 cases a1
 obtain ⟨std,invd⟩:=Ai5 hi2
 have p2:=ObOK.step std (k:=1) (fun h=>h) _ p1
 obtain ⟨ba,a1,_,_,st3,inv3,ob3⟩:=Hs (off:=1) (x:=.val (.int .u32 1)) (v:=.int .u32 1) invd p2 rfl (fun _ _=>by simp only[Rd]) rfl
 rw[k1]at a1
 cases a1
 have ob3:ObOK κ2 (w'.drew.setCell ⟨b,1,none⟩ (.int .u32 1)) 1 (.box (Ab6 up 1 1 (J6 n up))):=ob3
 obtain ⟨ba,a1,a4,a5,st4,inv4,ob4⟩:=Hs (off:=2) (x:=.val (.int .i32 0)) (v:=.int .i32 0) inv3 ob3 rfl (fun _ _=>by simp only[Rd]) rfl
 rw[k1]at a1
 cases a1
 have ob4:ObOK κ2 ((w'.drew.setCell ⟨b,1,none⟩ (.int .u32 1)).setCell ⟨b,2,none⟩ (.int .i32 0)) 1 (.box (Ab6 up 1 0 (J6 n up))):=ob4
 obtain ⟨v1,hv1,hr1⟩:=a2 1 (.val (.int .u32 0)) rfl
 rw[hr1.val]at hv1
 obtain ⟨v2,hv2,hr2⟩:=a4 2 (.val (.int .i32 1)) rfl
 rw[hr2.val]at hv2
 refine leaves_cons (f:=356) (args:=#[.pointer (some ⟨b,1,none⟩),.bool true]) qy (by simp[go_sem]) ?_
 refine(Vo ⟨b,1,none⟩ (.int .u32 0) .returning _ hv1 (a3 1 (show 1<5 by decide))).mono ?_
 rintro e u' w'' ⟨rfl,rfl,rfl⟩
 refine leaves_cons (f:=355) (args:=#[.pointer (some ⟨b,2,none⟩)]) (by simp[settle]) (by simp[go_sem]) ?_
 refine(Uu ⟨b,2,none⟩ _ _ hv2 (a5 2 (show 2<5 by decide))).mono ?_
 rintro e u' w'' ⟨rfl,rfl,rfl⟩
 have hst:Step (·=1) κ2 w' κ2 ((w'.drew.setCell ⟨b,1,none⟩ (.int .u32 1)).setCell ⟨b,2,none⟩ (.int .i32 0)):=(std.weaken (fun _ h=>h.elim)).trans (st3.trans st4)
 refine⟨.tuple #[],by simp[results,Tryz.results306],.tuple #[],κ2,E,Ctx.behind st1 (hc2.step inv4 hst),inv4,⟨[],E,E⟩,fun p hp=>?_⟩
 simp only[M4,List.mem_cons,List.not_mem_nil,or_false]at hp
 rcases hp with rfl | rfl | rfl
 ·exact ob4
 ·exact ObOK.step hst (show ¬ (2:Nat)=1 by decide) _ (ok2 (2,.box [.ptr 1 0]) (by simp[M4]))
 ·exact ObOK.step hst (show ¬ (3:Nat)=1 by decide) _ (ok2 (3,.box (Ak7 n)) (by simp[M4]))
end Go.Sy.YteinjapglfkamaaGreat
namespace Go.Sy.YteinjapglfkamaaGreat
open Go.Proofs
attribute [local irreducible] Go.Sy.G Go.Sy.DR
set_option maxRecDepth 100000
set_option maxHeartbeats 4000000
def S1 (n:Net) (up:List Bool) (d:Bool):Obs:=[(1,.box (Hm n up d)),(2,.box [.ptr 1 0]),(3,.box (Ak7 n))]
theorem Anm (n:Net) (hn:n.Fin) (up:List Bool) :
  Sy.Spec Tryz.prog 238 [.ptr 1 1,.clo (.func 239) [] [.ptr 3 0,.ptr 2 0]] (S1 n up false) (.tup []) (S1 n up true):=Ab Γ hm 100 F238 Tryz.ntmps238 rfl fun F hF=>by
 have q1:Sy.Spec Tryz.prog 305 [.ptr 1 1] (S1 n up false) (Ad false) (S1 n up false):=Yk n up [] 0 0
 have q2:Sy.Spec Tryz.prog 306 [.ptr 1 1,.clo (.func 239) [] [.ptr 3 0,.ptr 2 0]] (S1 n up false) (.tup []) (S1 n up true):=Aie n hn up []
 conv=>whnf
 refine Ah (Aj [] E F305 q1 E ⟨E,E,E,Y⟩ E ⟨.inl E,.inl E,.inl E,Y⟩) E E ?_
 (refine rg ?_;(conv=>whnf);refine aT ?_;refine rg ?_;conv=>whnf)
 refine Ah (Aj [] E F306 q2 E ⟨E,E,E,Y⟩ E ⟨.inl E,.inl E,.inl E,Y⟩) E E ?_
 refine rg ?_;conv=>whnf
 exact Ba E .nil [] (S1 n up true) (fun _ h=>h) E E ⟨Y,⟨.inl E,E,.inl E,E,.inl E,E,Y⟩,E,E⟩
theorem Anl (n:Net) (up:List Bool) :
  Sy.Spec Tryz.prog 238 [.ptr 1 1,.clo (.func 239) [] [.ptr 3 0,.ptr 2 0]] (S1 n up true) (.tup []) (S1 n up true):=Ab Γ hm 100 F238 Tryz.ntmps238 rfl fun F hF=>by
 have q1:Sy.Spec Tryz.prog 305 [.ptr 1 1] (S1 n up true) (Ad true) (S1 n up true):=Yk n up (J6 n up) 1 0
 conv=>whnf
 refine Ah (Aj [] E F305 q1 E ⟨E,E,E,Y⟩ E ⟨.inl E,.inl E,.inl E,Y⟩) E E ?_
 (refine rg ?_;(conv=>whnf);refine aF ?_;refine rg ?_;conv=>whnf)
 exact Ba E .nil [] (S1 n up true) (fun _ h=>h) E E ⟨Y,⟨.inl E,E,.inl E,E,.inl E,E,Y⟩,E,E⟩
theorem Ank (n:Net) (hn:n.Fin) (up:List Bool) (d:Bool) :
  Sy.Spec Tryz.prog 238 [.ptr 1 1,.clo (.func 239) [] [.ptr 3 0,.ptr 2 0]] (S1 n up d) (.tup []) (S1 n up true):=by
 cases d
 ·exact Anm n hn up
 ·exact Anl n up
theorem Ahn (n:Net) (hn:n.Fin) (up:List Bool) (d:Bool) :
  Sy.Spec Tryz.prog 175 [.ptr 1 0,Ap n] [(1,.box (Hm n up d))] (.sl 1 Ad (J6 n up)) [(1,.box (Hm n up true))]:=Ab Γ hm 100 F175 Tryz.ntmps175 rfl fun F hF=>by
 conv=>whnf
 refine Ah (Aj [] E F238 (Ank n hn up d) E ⟨E,E,E,Y⟩ E ⟨.inl E,.inl E,.inl E,Y⟩) E E ?_
 refine rg ?_;conv=>whnf
 exact done E (.cons .tmp .nil) [] [(1,.box (Hm n up true))] (fun _ h=>h) E E ⟨Y,⟨.inl E,E,Y⟩,E,E⟩
end Go.Sy.YteinjapglfkamaaGreat
namespace Go.Sy.YteinjapglfkamaaGreat
open Go.Proofs
theorem Ul {n:Net} {fw:List Bool} {t:List EntryM} {dom:Int} {q:QueuedM} {now:Int} (ht:TabOK t) (hq:QueuedOK q):TabOK (bridgeT n fw t dom q now).1:=by
 unfold bridgeT
 split
 ·exact Tm
 split
 ·split
  ·exact Mo ht hq now
  ·exact Mo ht hq now
 ·exact Mo ht hq now
theorem Um {n:Net} (hn:n.Fin) (hm0:n.Num) {fw:List Bool} {t:List EntryM} {dom:Int} {q:QueuedM} {now:Int} (hq:QueuedOK q):∀ o∈(bridgeT n fw t dom q now).2.1,OutOK n o:=by
 intro o ho
 unfold bridgeT at ho
 split at ho
 ·cases ho
 rename_i h0
 have hb:Af n=true:=by
  cases hx:Af n
  ·exact absurd (.inl (by unfold K6;rw[hx];simp)) h0
  ·rfl
 split at ho
 ·split at ho
  ·cases ho
  ·rename_i h1
   have h1:=Decidable.not_not.1 h1
   have hin:∀ (d:Int),(lookT n (routerT n dom q.frame.dst).1 d).2=true→0≤(lookT n (routerT n dom q.frame.dst).1 d).1∧(lookT n (routerT n dom q.frame.dst).1 d).1.toNat<n.irbs.length:=fun d h=>Lw h
   rw[List.mem_singleton.1 ho]
   exact⟨by dsimp only;omega,by simp,fun _=>⟨Ans n hm0 _ _ hin,Alo hin h1⟩,fun h=>by dsimp only at h;omega⟩
 ·rcases List.mem_append.1 ho with h | h
  ·obtain ⟨p,_,rfl⟩:=List.mem_map.1 h
   unfold Xv
   exact Ace (by dsimp only;split<;>omega) (Xx _ _ _ _ hq.frame) (Ae3 _ _ _ _)
  ·obtain ⟨p,_,rfl⟩:=List.mem_map.1 h
   unfold Zx
   exact Ace (by dsimp only;omega) (by have:=Z0 n dom p q.frame;omega) (Aih _ _ _ _)
theorem Un {n:Net} (hn:n.Fin) (fw:List Bool) (t:List EntryM) (dom:Int) (q:QueuedM) (now:Int):(bridgeT n fw t dom q now).2.1.length<4294967296:=by
 unfold bridgeT
 split
 ·show (0:Nat)<4294967296;decide
 split
 ·split
  ·show (0:Nat)<4294967296;decide
  ·show (1:Nat)<4294967296;decide
 ·have:=W9 hn fw (learnQ t q now) dom q.from_ q.frame.dst
  simp only[List.length_append,List.length_map]
  omega
theorem Sp (n:Net) (origin:Int):∀ (a b:List OutM) (m:MacM),Bs n m origin (a++b)=((Bs n (Bs n m origin a).1 origin b).1,(Bs n m origin a).2++(Bs n (Bs n m origin a).1 origin b).2)
 | [],b,m=>by simp[Bs]
 | o::a,b,m=>by
  rw[List.cons_append,Bs,Bs,Sp n origin a b]
  simp
theorem O8 (n:Net) (m:MacM) (origin:Int) (l:List OutM) (j:Nat) (hj:j<l.length) :
  Bs n m origin (l.take (j+1))=((goesM n (Bs n m origin (l.take j)).1 l[j] origin).1,(Bs n m origin (l.take j)).2++(goesM n (Bs n m origin (l.take j)).1 l[j] origin).2):=by
 rw[List.take_succ_eq_append_getElem hj,Sp]
 simp[Bs]
theorem Mr (n:Net) (m:MacM) (o:OutM) (origin:Int):(goesM n m o origin).2.length≤1:=by
 unfold goesM
 split
 ·simp
 split
 ·simp
 split
 ·simp
 split<;>simp
theorem Ms (n:Net) (origin:Int):∀ (l:List OutM) (m:MacM),(Bs n m origin l).2.length≤l.length
 | [],m=>by simp[Bs]
 | o::l,m=>by
  rw[Bs]
  have h1:=Ms n origin l (goesM n m o origin).1
  have h2:=Mr n m o origin
  simp only[List.length_append,List.length_cons]
  omega
end Go.Sy.YteinjapglfkamaaGreat
namespace Go.Sy.YteinjapglfkamaaGreat
open Go.Proofs
attribute [local irreducible] Go.Sy.G Go.Sy.DR
set_option maxRecDepth 100000
set_option maxHeartbeats 4000000
theorem Ab0 {n:Net} {m:MacM} {J D:Int} (h:MacOK n m J D) (hD:0≤D) (dom:Int) {r:List EntryM × List OutM × Int} (hr:TabOK r.1):MacOK n (Q0 m dom r) J (D+1):=by
 unfold Q0
 split
 ·exact L9 h hD 2
 split
 ·exact L9 (Age h dom hr) hD _
 ·exact(Age h dom hr).mono (Int.le_refl _) qn
def queL (q:QueuedM):List SV:=[Aa q.from_,Aa q.peer,Aa q.origin,A9 q.frame.dst,A9 q.frame.src,Aa q.frame.typ,.sl 1 Ai q.frame.body]
def Akw (n:Net) (m:MacM) (q:QueuedM) (l:List SeenM):Obs:=[(0,.box (Ll n 1 m.now m.injected m.drops)),(1,.box (Hm n m.up true)),(2,.row 1 Jo m.tables),(3,.row 1 K7 m.queues),(7,.box (queL q)),(1000,.row 3 Dl l)]
theorem Akf (n:Net) (hn:n.Fin) (hm1:n.Num) (m:MacM) (d:Bool) (J D:Int) (hm0:MacOK n m J D) (hD0:0≤D) (hD:D≤900000000000) (dom at_:Int) :
  Sy.Spec Tryz.prog 115 [.ptr 0 0,Aa dom,Aa at_] (Cs n m d) (.sl 3 Dl (pickT n m dom at_).2) (Cs n (pickT n m dom at_).1 (if (takeM m dom at_).2.2 then true else d)):=Ab Γ hm 100 F115 Tryz.ntmps115 rfl fun F hF=>by
 have hres:=pickT.eq_1 n m dom at_
 generalize pickT n m dom at_=res at *
 have q1:=Abe n m d dom at_ (D5 hm0 dom)
 have hok:=Vm hm0 dom at_
 have hpl:(takeM m dom at_).2.2=true→0≤dom∧dom.toNat<m.queues.length:=fun h=>by
  unfold takeM at h
  split at h
  ·cases h
  ·rename_i h2
   exact placeB_iff.1 (by cases hx:Ak dom m.queues.length;exact absurd hx h2;rfl)
 have htl:(takeM m dom at_).1.tables=m.tables:=by unfold takeM;split<;>rfl
 generalize takeM m dom at_=r at *
 obtain ⟨m1,q,ok⟩:=r
 have htq:m.queues.length=m.tables.length:=by rw[hm0.ques,hm0.tabs]
 conv=>whnf
 refine Ah (Aj [] E F116 q1 E ⟨E,E,E,E,Y⟩ E ⟨.inl E,.inl E,.inl E,.inl E,Y⟩) E E ?_
 refine rg ?_;conv=>whnf
 cases ok
 ·rw[if_pos rfl]at hres
  subst hres
  (refine⟨fun _=>?_,fun h=>False.elim (by simp at h)⟩;refine rg ?_;conv=>whnf)
  refine Ao 6 3 Dl E ?_
  exact done E (.cons .tmp .nil) [] (Cs n m1 d) (fun _ h=>h) E E ⟨Y,⟨.inl E,E,.inl E,E,.inl E,E,.inl E,E,Y⟩,E,E⟩
 rw[if_neg qy]at hres
 have hd:=hpl rfl
 have hd2:0≤dom∧dom.toNat<m1.tables.length:=by rw[htl,← htq];exact hd
 dsimp only at hres hok
 have q2:=Ahn n hn m1.up d
 have q3:=Adn n hn hm1 (J6 n m1.up) (tableL m1 dom) dom q m1.now (Te hok.1 dom) hok.2
 have hb1:=Ul (n:=n) (fw:=J6 n m1.up) (dom:=dom) (now:=m1.now) (Te hok.1 dom) hok.2
 have hb2:=Um (fw:=J6 n m1.up) (t:=tableL m1 dom) (dom:=dom) (now:=m1.now) hn hm1 hok.2
 have hb3:=Un hn (J6 n m1.up) (tableL m1 dom) dom q m1.now
 have hb4:=Adm n (J6 n m1.up) (tableL m1 dom) dom q m1.now
 rw[Ab1]at hres
 have hz:=Ab0 hok.1 hD0 dom hb1
 generalize bridgeT n (J6 n m1.up) (tableL m1 dom) dom q m1.now=b at *
 obtain ⟨t,out,e⟩:=b
 have hb2:∀ o∈out,OutOK n o:=hb2
 have hb3:out.length<4294967296:=hb3
 have hb4:Bn e:=hb4
 have ht0:=tableL.eq_1 m1 dom
 rw[U8 hd2.2]at ht0
 generalize tableL m1 dom=t0 at *
 subst ht0
 (refine⟨fun h=>False.elim (by simp at h),fun _=>?_⟩;refine rg ?_;conv=>whnf)
 refine Bo (Aj [] E F175 q2 E ⟨E,Y⟩ E ⟨.inl E,Y⟩) qq E ?_
 refine rd qq ?_;conv=>whnf
 refine⟨hd2.1,hd2.2,?_⟩
 conv=>whnf
 refine⟨E,hd2.2,?_⟩
 conv=>whnf
 refine Au q3 F174 E E E qq E ?_
 refine rd qq ?_;conv=>whnf
 refine⟨qq,?_⟩
 conv=>whnf
 refine⟨fun h=>?_,fun h=>?_⟩
 ·have h2:¬ e=2:=by simpa using h
  clear h
  refine rg ?_;conv=>whnf
  refine⟨hd2.1,hd2.2,?_⟩
  conv=>whnf
  refine⟨E,hd2.2,t,E,E,?_⟩
  conv=>whnf
  refine⟨fun h=>?_,fun h=>?_⟩
  ·have h3:¬ e=0:=by simpa using h
   clear h
   have hpd:Q0 m1 dom (t,out,e)=B9 (Ea m1 dom t) e:=by
    unfold Q0
    rw[if_neg h2,if_pos h3]
   rw[hpd]at hres hz
   subst hres
   have q4:=Adc n (Ea m1 dom t) true e hb4.1 hb4.2 ⟨(hok.1.drp _).1,by have:=(hok.1.drp e.toNat).2;show m1.drops e.toNat≤1000000000000;omega⟩
   refine rg ?_;conv=>whnf
   refine Ah (Aj [] E F176 q4 E ⟨E,E,E,E,Y⟩ E ⟨.inl E,.inl E,.inl E,.inl E,Y⟩) E E ?_
   refine rg ?_;conv=>whnf
   have hdr:My (B9 (Ea m1 dom t) e):=fun i=>⟨(hz.drp i).1,by have:=(hz.drp i).2;omega⟩
   refine Cf 12 1000 3 Dl E E ?_
   refine A3 out.length (fun j=>[(0,.ptr 0 0),(7,.ptr 7 0),(12,.osl 1000),(69,.sl 9 Dq out),(70,Aa out.length),(71,Aa j)]) (fun j=>Akw n (Bs n (B9 (Ea m1 dom t) e) q.origin (out.take j)).1 q (Bs n (B9 (Ea m1 dom t) e) q.origin (out.take j)).2) [] ⟨⟨E,E,E,E,E,E,E,E,E,E,E,E,Y⟩,⟨.inl E,E,.inl E,E,.inl E,E,.inl E,E,.inl E,E,.inl E,E,Y⟩,E,E⟩ ?_
   intro j hj
   refine rg ?_;conv=>whnf
   refine⟨fun h=>?_,fun h=>?_⟩
   ·have hlt:j<out.length:=by have:=of_decide_eq_true h;omega
    have hj0:((j:Nat):Int).toNat<out.length:=by simpa using hlt
    obtain ⟨o,hoo⟩:∃ o,out[j]=o:=⟨_,rfl⟩
    have e1:out[((j:Nat):Int).toNat]'hj0=o:=hoo
    have hs:=O8 n (B9 (Ea m1 dom t) e) q.origin out j hlt
    rw[hoo]at hs
    have hjo:=L6 hn q.origin (out.take j) hz qn (fun x hx=>hb2 x (List.mem_of_mem_take hx))
    have hlen:(out.take j).length=j:=by rw[List.length_take];omega
    rw[hlen]at hjo
    have hsl:=Ms n q.origin (out.take j) (B9 (Ea m1 dom t) e)
    rw[hlen]at hsl
    have q5:=Vr n hn (Bs n (B9 (Ea m1 dom t) e) q.origin (out.take j)).1 true J _ hjo qn o (hb2 o (by rw[← hoo];exact List.getElem_mem hlt)) q.origin
    have hfw:=Mr n (Bs n (B9 (Ea m1 dom t) e) q.origin (out.take j)).1 o q.origin
    clear h
    refine rg ?_;conv=>whnf
    refine⟨E,by omega,hj0,?_⟩
    rw[e1]
    conv=>whnf
    refine Ah (Aj [] E F177 q5 E ⟨E,E,E,E,Y⟩ E ⟨.inl E,.inl E,.inl E,.inl E,Y⟩) E E ?_
    refine rg ?_;conv=>whnf
    refine Ah (Al Γ.toTy 81 E E E E E (.row E) .sl qy qn qn) E E ?_
    refine rg ?_;conv=>whnf
    refine⟨by unfold I64;omega,?_⟩
    conv=>whnf
    have g1:(Bs n (B9 (Ea m1 dom t) e) q.origin (out.take (j+1))).1=(goesM n (Bs n (B9 (Ea m1 dom t) e) q.origin (out.take j)).1 o q.origin).1:=by rw[hs]
    have g2:(Bs n (B9 (Ea m1 dom t) e) q.origin (out.take (j+1))).2=(Bs n (B9 (Ea m1 dom t) e) q.origin (out.take j)).2++(goesM n (Bs n (B9 (Ea m1 dom t) e) q.origin (out.take j)).1 o q.origin).2:=by rw[hs]
    refine Av [(1000,81)] hlt ⟨⟨E,E,E,E,E,E,E,E,E,E,E,E,Y⟩,?_,E,E⟩
    dsimp only
    rw[g1,g2]
    exact⟨.inl E,E,.inl E,E,.inl E,E,.inl E,E,.inl E,E,.inl E,E,Y⟩
   ·have hjj:j=out.length:=by have:=of_decide_eq_false h;omega
    subst hjj
    rw[List.take_length]
    clear h
    refine rg ?_;conv=>whnf
    refine At 1000 E ?_
    exact done E (.cons .tmp .nil) [] (Cs n (Bs n (B9 (Ea m1 dom t) e) q.origin out).1 true) (fun _ h=>h) E E ⟨Y,⟨.inl E,E,.inl E,E,.inl E,E,.inl E,E,Y⟩,E,E⟩
  ·have h3:e=0:=by simpa using h
   clear h
   have hpd:Q0 m1 dom (t,out,e)=Ea m1 dom t:=by
    unfold Q0
    rw[if_neg h2,if_neg (fun h=>h h3)]
   rw[hpd]at hres hz
   subst hres
   refine rg ?_;conv=>whnf
   have hdr:My (Ea m1 dom t):=fun i=>⟨(hz.drp i).1,by have:=(hz.drp i).2;omega⟩
   refine Cf 12 1000 3 Dl E E ?_
   refine A3 out.length (fun j=>[(0,.ptr 0 0),(7,.ptr 7 0),(12,.osl 1000),(69,.sl 9 Dq out),(70,Aa out.length),(71,Aa j)]) (fun j=>Akw n (Bs n (Ea m1 dom t) q.origin (out.take j)).1 q (Bs n (Ea m1 dom t) q.origin (out.take j)).2) [] ⟨⟨E,E,E,E,E,E,E,E,E,E,E,E,Y⟩,⟨.inl E,E,.inl E,E,.inl E,E,.inl E,E,.inl E,E,.inl E,E,Y⟩,E,E⟩ ?_
   intro j hj
   refine rg ?_;conv=>whnf
   refine⟨fun h=>?_,fun h=>?_⟩
   ·have hlt:j<out.length:=by have:=of_decide_eq_true h;omega
    have hj0:((j:Nat):Int).toNat<out.length:=by simpa using hlt
    obtain ⟨o,hoo⟩:∃ o,out[j]=o:=⟨_,rfl⟩
    have e1:out[((j:Nat):Int).toNat]'hj0=o:=hoo
    have hs:=O8 n (Ea m1 dom t) q.origin out j hlt
    rw[hoo]at hs
    have hjo:=L6 hn q.origin (out.take j) hz qn (fun x hx=>hb2 x (List.mem_of_mem_take hx))
    have hlen:(out.take j).length=j:=by rw[List.length_take];omega
    rw[hlen]at hjo
    have hsl:=Ms n q.origin (out.take j) (Ea m1 dom t)
    rw[hlen]at hsl
    have q5:=Vr n hn (Bs n (Ea m1 dom t) q.origin (out.take j)).1 true J _ hjo qn o (hb2 o (by rw[← hoo];exact List.getElem_mem hlt)) q.origin
    have hfw:=Mr n (Bs n (Ea m1 dom t) q.origin (out.take j)).1 o q.origin
    clear h
    refine rg ?_;conv=>whnf
    refine⟨E,by omega,hj0,?_⟩
    rw[e1]
    conv=>whnf
    refine Ah (Aj [] E F177 q5 E ⟨E,E,E,E,Y⟩ E ⟨.inl E,.inl E,.inl E,.inl E,Y⟩) E E ?_
    refine rg ?_;conv=>whnf
    refine Ah (Al Γ.toTy 81 E E E E E (.row E) .sl qy qn qn) E E ?_
    refine rg ?_;conv=>whnf
    refine⟨by unfold I64;omega,?_⟩
    conv=>whnf
    have g1:(Bs n (Ea m1 dom t) q.origin (out.take (j+1))).1=(goesM n (Bs n (Ea m1 dom t) q.origin (out.take j)).1 o q.origin).1:=by rw[hs]
    have g2:(Bs n (Ea m1 dom t) q.origin (out.take (j+1))).2=(Bs n (Ea m1 dom t) q.origin (out.take j)).2++(goesM n (Bs n (Ea m1 dom t) q.origin (out.take j)).1 o q.origin).2:=by rw[hs]
    refine Av [(1000,81)] hlt ⟨⟨E,E,E,E,E,E,E,E,E,E,E,E,Y⟩,?_,E,E⟩
    dsimp only
    rw[g1,g2]
    exact⟨.inl E,E,.inl E,E,.inl E,E,.inl E,E,.inl E,E,.inl E,E,Y⟩
   ·have hjj:j=out.length:=by have:=of_decide_eq_false h;omega
    subst hjj
    rw[List.take_length]
    clear h
    refine rg ?_;conv=>whnf
    refine At 1000 E ?_
    exact done E (.cons .tmp .nil) [] (Cs n (Bs n (Ea m1 dom t) q.origin out).1 true) (fun _ h=>h) E E ⟨Y,⟨.inl E,E,.inl E,E,.inl E,E,.inl E,E,Y⟩,E,E⟩
 ·have h2:e=2:=by simpa using h
  clear h
  subst h2
  have hpd:Q0 m1 dom (t,out,2)=B9 m1 2:=by
   unfold Q0
   rw[if_pos rfl]
  rw[hpd]at hres hz
  subst hres
  have q4:=Adc n m1 true 2 qx qx ⟨(hok.1.drp _).1,by have:=(hok.1.drp (Int.toNat 2)).2;omega⟩
  (refine rg ?_;(conv=>whnf);refine aT ?_;refine rg ?_;conv=>whnf)
  refine Ah (Aj [] E F176 q4 E ⟨E,E,E,E,Y⟩ E ⟨.inl E,.inl E,.inl E,.inl E,Y⟩) E E ?_
  refine rg ?_;conv=>whnf
  have hdr:My (B9 m1 2):=fun i=>⟨(hz.drp i).1,by have:=(hz.drp i).2;omega⟩
  refine Cf 12 1000 3 Dl E E ?_
  refine A3 out.length (fun j=>[(0,.ptr 0 0),(7,.ptr 7 0),(12,.osl 1000),(69,.sl 9 Dq out),(70,Aa out.length),(71,Aa j)]) (fun j=>Akw n (Bs n (B9 m1 2) q.origin (out.take j)).1 q (Bs n (B9 m1 2) q.origin (out.take j)).2) [] ⟨⟨E,E,E,E,E,E,E,E,E,E,E,E,Y⟩,⟨.inl E,E,.inl E,E,.inl E,E,.inl E,E,.inl E,E,.inl E,E,Y⟩,E,E⟩ ?_
  intro j hj
  refine rg ?_;conv=>whnf
  refine⟨fun h=>?_,fun h=>?_⟩
  ·have hlt:j<out.length:=by have:=of_decide_eq_true h;omega
   have hj0:((j:Nat):Int).toNat<out.length:=by simpa using hlt
   obtain ⟨o,hoo⟩:∃ o,out[j]=o:=⟨_,rfl⟩
   have e1:out[((j:Nat):Int).toNat]'hj0=o:=hoo
   have hs:=O8 n (B9 m1 2) q.origin out j hlt
   rw[hoo]at hs
   have hjo:=L6 hn q.origin (out.take j) hz qn (fun x hx=>hb2 x (List.mem_of_mem_take hx))
   have hlen:(out.take j).length=j:=by rw[List.length_take];omega
   rw[hlen]at hjo
   have hsl:=Ms n q.origin (out.take j) (B9 m1 2)
   rw[hlen]at hsl
   have q5:=Vr n hn (Bs n (B9 m1 2) q.origin (out.take j)).1 true J _ hjo qn o (hb2 o (by rw[← hoo];exact List.getElem_mem hlt)) q.origin
   have hfw:=Mr n (Bs n (B9 m1 2) q.origin (out.take j)).1 o q.origin
   clear h
   refine rg ?_;conv=>whnf
   refine⟨E,by omega,hj0,?_⟩
   rw[e1]
   conv=>whnf
   refine Ah (Aj [] E F177 q5 E ⟨E,E,E,E,Y⟩ E ⟨.inl E,.inl E,.inl E,.inl E,Y⟩) E E ?_
   refine rg ?_;conv=>whnf
   refine Ah (Al Γ.toTy 81 E E E E E (.row E) .sl qy qn qn) E E ?_
   refine rg ?_;conv=>whnf
   refine⟨by unfold I64;omega,?_⟩
   conv=>whnf
   have g1:(Bs n (B9 m1 2) q.origin (out.take (j+1))).1=(goesM n (Bs n (B9 m1 2) q.origin (out.take j)).1 o q.origin).1:=by rw[hs]
   have g2:(Bs n (B9 m1 2) q.origin (out.take (j+1))).2=(Bs n (B9 m1 2) q.origin (out.take j)).2++(goesM n (Bs n (B9 m1 2) q.origin (out.take j)).1 o q.origin).2:=by rw[hs]
   refine Av [(1000,81)] hlt ⟨⟨E,E,E,E,E,E,E,E,E,E,E,E,Y⟩,?_,E,E⟩
   dsimp only
   rw[g1,g2]
   exact⟨.inl E,E,.inl E,E,.inl E,E,.inl E,E,.inl E,E,.inl E,E,Y⟩
  ·have hjj:j=out.length:=by have:=of_decide_eq_false h;omega
   subst hjj
   rw[List.take_length]
   clear h
   refine rg ?_;conv=>whnf
   refine At 1000 E ?_
   exact done E (.cons .tmp .nil) [] (Cs n (Bs n (B9 m1 2) q.origin out).1 true) (fun _ h=>h) E E ⟨Y,⟨.inl E,E,.inl E,E,.inl E,E,.inl E,E,Y⟩,E,E⟩
theorem Ahc (l:List (List EntryM)) (now:Int) (j:Nat) (hj:j<l.length) :
  ((l.take j).map (fun t=>ageT t now)++l.drop j).set j (ageT l[j] now)=(l.take (j+1)).map (fun t=>ageT t now)++l.drop (j+1):=by
 apply List.ext_getElem
 ·simp only[List.length_set,List.length_append,List.length_map,List.length_take,List.length_drop];omega
 intro i h1 h2
 simp only[List.length_set,List.length_append,List.length_map,List.length_take,List.length_drop]at h1
 rw[List.getElem_set]
 by_cases hi:j=i
 ·subst hi
  rw[if_pos rfl,List.getElem_append_left (by simp;omega)]
  simp
 ·rw[if_neg hi]
  by_cases hlt:i<j
  ·rw[List.getElem_append_left (by simp;omega),List.getElem_append_left (by simp;omega)]
   simp
  ·rw[List.getElem_append_right (by simp;omega),List.getElem_append_right (by simp;omega)]
   simp only[List.getElem_drop,List.length_map,List.length_take]
   congr 1
   omega
theorem Aiv {P:Program} {o:Oper} {s:SS} {x y:Operand} {at_:Array TypeId} {k k':IntKind} {m n r:Int} (hr:(if n<m then n else m)=r) (h:o.op=.call ⟨.builtin .min,#[x,y],at_⟩)
  (hx:ev s x=.val (.int k m)) (hy:ev s y=.val (.int k' n)):Good P o s ⟨.val (.int k r),[],[]⟩:=by
 have:=Alu (P:=P) h hx hy
 rwa [hr]at this
def U3 (l:List (List EntryM)) (now:Int) (j:Nat):List (List EntryM):=(l.take j).map (fun t=>ageT t now)++l.drop j
theorem Amm (l:List (List EntryM)) (now:Int) (j:Nat) (hj:j<l.length) (h2:j<(U3 l now j).length):(U3 l now j)[j]=l[j]:=by
 have h:(U3 l now j)[j]? = l[j]?:=by
  unfold U3
  have hm:min j l.length=j:=by omega
  rw[List.getElem?_append_right (by simp;omega),List.getElem?_drop,List.length_map,List.length_take,hm,Nat.sub_self,Nat.add_zero]
 rw[List.getElem?_eq_getElem hj,List.getElem?_eq_getElem h2]at h
 exact Option.some.inj h
theorem Adw (l:List (List EntryM)) (now:Int) (j:Nat):(U3 l now j).length=l.length:=by
 unfold U3
 simp only[List.length_append,List.length_map,List.length_take,List.length_drop]
 omega
def tickO (n:Net) (m:MacM) (d:Bool) (now:Int) (j:Nat):Obs:=[(0,.box (Ll n 1 now m.injected m.drops)),(1,.box (Hm n m.up d)),(2,.row 1 Jo (U3 m.tables now j)),(3,.row 1 K7 m.queues)]
theorem Ake (n:Net) (m:MacM) (d:Bool) (J D:Int) (hm0:MacOK n m J D) (hs:An n.domains) :
  Sy.Spec Tryz.prog 117 [.ptr 0 0] (Cs n m d) (.tup []) (Cs n (M7 m) d):=Ab Γ hm 100 F117 Tryz.ntmps117 rfl fun F hF=>by
 unfold An at hs
 have hnow:=hm0.now
 have htl:m.tables.length<2147483648:=by rw[hm0.tabs];exact hs
 have hto:=hm0.tab
 obtain ⟨nw,hnw⟩:∃ nw,(if 1099511627776<m.now+1 then 1099511627776 else m.now+1)=nw:=⟨_,rfl⟩
 have hti:M7 m=⟨m.up,U3 m.tables nw m.tables.length,m.queues,nw,m.injected,m.drops⟩:=by
  have:min (m.now+1) 1099511627776=nw:=by rw[← hnw];split<;>omega
  unfold M7 U3
  rw[this,List.take_length,List.drop_length,List.append_nil]
 rw[hti]
 conv=>whnf
 refine⟨by unfold I64;omega,?_⟩
 conv=>whnf
 refine Ah (Aiv hnw E E E) E E ?_
 refine rg ?_;conv=>whnf
 refine A3 m.tables.length (fun j=>[(0,.ptr 0 0),(16,.osl 2),(17,Aa m.tables.length),(18,Aa j)]) (fun j=>tickO n m d nw j) [] ⟨⟨E,E,E,E,E,E,E,E,Y⟩,⟨.inl E,E,.inl E,E,.inl E,E,.inl E,E,Y⟩,E,E⟩ ?_
 intro j hj
 refine rg ?_;conv=>whnf
 refine⟨fun h=>?_,fun h=>?_⟩
 ·have hlt:j<m.tables.length:=by have:=of_decide_eq_true h;omega
  have hal:=Adw m.tables nw j
  have hj0:((j:Nat):Int).toNat<(U3 m.tables nw j).length:=by rw[hal];simpa using hlt
  obtain ⟨t,hoo⟩:∃ t,m.tables[j]=t:=⟨_,rfl⟩
  have e1:(U3 m.tables nw j)[((j:Nat):Int).toNat]'hj0=t:=(Amm m.tables nw j hlt (by rw[hal];exact hlt)).trans hoo
  have hs:=Ahc m.tables nw j hlt
  rw[hoo]at hs
  have ht:=hto t (by rw[← hoo];exact List.getElem_mem hlt)
  clear h
  refine rg ?_;conv=>whnf
  refine⟨by omega,hj0,?_⟩
  conv=>whnf
  refine⟨E,hj0,?_⟩
  rw[e1]
  conv=>whnf
  refine Au (Am3 t nw ht.short ht.mac) F178 E E E qq E ?_
  refine rd qq ?_;conv=>whnf
  refine⟨by omega,hj0,?_⟩
  conv=>whnf
  refine⟨E,hj0,ageT t nw,E,E,?_⟩
  conv=>whnf
  refine⟨qq,?_⟩
  conv=>whnf
  refine⟨by unfold I64;omega,?_⟩
  conv=>whnf
  exact Av [] hlt ⟨⟨E,E,E,E,E,E,E,E,Y⟩,⟨.inl E,E,.inl E,E,.inl (congrArg (Ob.row 1 Jo) hs.symm),E,.inl E,E,Y⟩,E,E⟩
 ·have hjj:j=m.tables.length:=by have:=of_decide_eq_false h;omega
  subst hjj
  clear h
  refine rg ?_;conv=>whnf
  exact Ba E .nil [] (Cs n ⟨m.up,U3 m.tables nw m.tables.length,m.queues,nw,m.injected,m.drops⟩ d) (fun _ h=>h) E E ⟨Y,⟨.inl E,E,.inl E,E,.inl E,E,.inl E,E,Y⟩,E,E⟩
def Abf (n:Net) (m:MacM) (d:Bool):Obs:=[(0,.box (Ll n 4 m.now m.injected m.drops)),(1,.non),(2,.row 1 Jo m.tables),(3,.row 1 K7 m.queues),(4,.box (Hm n m.up d))]
def upT (m:MacM) (up:List Bool):MacM:=⟨up,m.tables,m.queues,m.now,m.injected,m.drops⟩
def doD (n:Net) (m:MacM) (d:Bool) (x:StepM):Bool :=
 if x.kind=1 then d else if x.kind=2 then (if (takeM m x.domain x.at_).2.2 then true else d) else if x.kind=3 then d else if x.kind=4 then d else if x.kind=5 then (if x.up.length=n.links.length then false else d) else d
theorem Aki (n:Net) (hn:n.Fin) (hm1:n.Num) (m:MacM) (d:Bool) (J D:Int) (hm0:MacOK n m J D) (hJ:J<900000000000) (hD0:0≤D) (hD:D≤900000000000) (x:StepM) (hb:x.bytes.length<100000) :
  Sy.Spec Tryz.prog 52 [.ptr 0 0,Dx x] (Cs n m d) (.tup [.sl 3 Dl (doT n m x).2,Aa 0]) (Abf n (doT n m x).1 (doD n m d x)):=Ab Γ hm 100 F52 Tryz.ntmps52 rfl fun F hF=>by
 have hres:=doT.eq_1 n m x
 generalize doT n m x=res at *
 have hdd:=doD.eq_1 n m d x
 generalize doD n m d x=dd at *
 conv=>whnf
 refine Ah (So (d:=900) E E E) E E ?_
 (refine rg ?_;(conv=>whnf);refine aF ?_;refine rg ?_;conv=>whnf)
 refine⟨fun h=>?_,fun h=>?_⟩
 ·have h1:x.kind=1:=by simpa using h
  rw[if_pos h1]at hres hdd
  subst hres
  subst hdd
  have q1:=Aec n hn m dd J D hm0 qn qn x.port x.bytes hb
  refine rg ?_;conv=>whnf
  refine Ah (Aj [] E F114 q1 E ⟨E,E,E,E,Y⟩ E ⟨.inl E,.inl E,.inl E,.inl E,Y⟩) E E ?_
  refine rg ?_;conv=>whnf
  refine Ao 4 3 Dl E ?_
  refine Ib 1 4 E E qx ?_
  exact done E (.cons .tmp (.cons .tmp .nil)) [] (Abf n (injectT n m x.port x.bytes) dd) (fun _ h=>h) E E ⟨Y,⟨.inl E,E,.inl E,E,.inl E,E,.inl E,E,.inl E,E,Y⟩,E,E⟩
 have h1:¬ x.kind=1:=by simpa using h
 rw[if_neg h1]at hres hdd
 clear h
 refine rg ?_;conv=>whnf
 refine⟨fun h=>?_,fun h=>?_⟩
 ·have h1:x.kind=2:=by simpa using h
  rw[if_pos h1]at hres hdd
  subst hres
  have q1:=Akf n hn hm1 m d J D hm0 hD0 hD x.domain x.at_
  rw[← hdd]at q1
  refine rg ?_;conv=>whnf
  refine Ah (Aj [] E F115 q1 E ⟨E,E,E,E,Y⟩ E ⟨.inl E,.inl E,.inl E,.inl E,Y⟩) E E ?_
  refine rg ?_;conv=>whnf
  refine Ib 1 4 E E qx ?_
  exact done E (.cons .tmp (.cons .tmp .nil)) [] (Abf n (pickT n m x.domain x.at_).1 dd) (fun _ h=>h) E E ⟨Y,⟨.inl E,E,.inl E,E,.inl E,E,.inl E,E,.inl E,E,Y⟩,E,E⟩
 have h1:¬ x.kind=2:=by simpa using h
 rw[if_neg h1]at hres hdd
 clear h
 refine rg ?_;conv=>whnf
 refine⟨fun h=>?_,fun h=>?_⟩
 ·have h1:x.kind=3:=by simpa using h
  rw[if_pos h1]at hres hdd
  subst hres
  subst hdd
  have q1:=Abe n m dd x.domain x.at_ (D5 hm0 _)
  refine rg ?_;conv=>whnf
  refine Ah (Aj [] E F116 q1 E ⟨E,E,E,E,Y⟩ E ⟨.inl E,.inl E,.inl E,.inl E,Y⟩) E E ?_
  refine rg ?_;conv=>whnf
  refine Ao 4 3 Dl E ?_
  refine Ib 1 4 E E qx ?_
  exact done E (.cons .tmp (.cons .tmp .nil)) [] (Abf n (takeM m x.domain x.at_).1 dd) (fun _ h=>h) E E ⟨Y,⟨.inl E,E,.inl E,E,.inl E,E,.inl E,E,.inl E,E,Y⟩,E,E⟩
 have h1:¬ x.kind=3:=by simpa using h
 rw[if_neg h1]at hres hdd
 clear h
 refine rg ?_;conv=>whnf
 refine⟨fun h=>?_,fun h=>?_⟩
 ·have h1:x.kind=4:=by simpa using h
  rw[if_pos h1]at hres hdd
  subst hres
  subst hdd
  have q1:=Ake n m dd J D hm0 hn.domains
  refine rg ?_;conv=>whnf
  refine Ah (Aj [] E F117 q1 E ⟨E,E,E,E,Y⟩ E ⟨.inl E,.inl E,.inl E,.inl E,Y⟩) E E ?_
  refine rg ?_;conv=>whnf
  refine Ao 4 3 Dl E ?_
  refine Ib 1 4 E E qx ?_
  exact done E (.cons .tmp (.cons .tmp .nil)) [] (Abf n (M7 m) dd) (fun _ h=>h) E E ⟨Y,⟨.inl E,E,.inl E,E,.inl E,E,.inl E,E,.inl E,E,Y⟩,E,E⟩
 have h1:¬ x.kind=4:=by simpa using h
 rw[if_neg h1]at hres hdd
 clear h
 refine rg ?_;conv=>whnf
 refine⟨fun h=>?_,fun h=>?_⟩
 ·have h1:x.kind=5:=by simpa using h
  rw[if_pos h1]at hres hdd
  clear h
  refine rg ?_;conv=>whnf
  refine⟨qq,?_⟩
  conv=>whnf
  refine⟨fun h=>?_,fun h=>?_⟩
  ·have h2:x.up.length=n.links.length:=by have:=of_decide_eq_true h;omega
   rw[if_pos h2]at hres hdd
   subst hres
   subst hdd
   clear h
   have hls:=hn.links
   unfold An at hls
   refine rg ?_;conv=>whnf
   refine Ag (Afx x.up qn) F118 E E E E E ?_
   refine rg ?_;conv=>whnf
   refine Ao 4 3 Dl E ?_
   refine Bc 55 (Hm n x.up false) E (.cons (.refl _) (.cons (.refl _) (.cons (.refl _) (.cons (.refl _) (.cons .nil .nil))))) ?_
   exact done E (.cons .tmp (.cons .tmp .nil)) [(4,55)] (Abf n (upT m x.up) false) (fun _ h=>h) E E ⟨Y,⟨.inl E,E,.inr E,E,.inl E,E,.inl E,E,.inl E,E,Y⟩,E,E⟩
  ·have h2:¬ x.up.length=n.links.length:=by have:=of_decide_eq_false h;omega
   rw[if_neg h2]at hres hdd
   subst hres
   subst hdd
   clear h
   refine rg ?_;conv=>whnf
   refine Ao 4 3 Dl E ?_
   refine Ib 1 4 E E qx ?_
   exact done E (.cons .tmp (.cons .tmp .nil)) [] (Abf n m dd) (fun _ h=>h) E E ⟨Y,⟨.inl E,E,.inl E,E,.inl E,E,.inl E,E,.inl E,E,Y⟩,E,E⟩
 have h1:¬ x.kind=5:=by simpa using h
 rw[if_neg h1]at hres hdd
 subst hres
 subst hdd
 clear h
 refine rg ?_;conv=>whnf
 refine Ao 4 3 Dl E ?_
 refine Ib 1 4 E E qx ?_
 exact done E (.cons .tmp (.cons .tmp .nil)) [] (Abf n m dd) (fun _ h=>h) E E ⟨Y,⟨.inl E,E,.inl E,E,.inl E,E,.inl E,E,.inl E,E,Y⟩,E,E⟩
theorem Aeb (n:Net) (hn:n.Fin) (hb:okB n (List.replicate n.links.length true)=false) :
  Sy.Spec Tryz.prog 50 [Ap n] [] (.tup [.val (.pointer none),Aa 2]) []:=Ab Γ hm 100 F50 Tryz.ntmps50 rfl fun F hF=>by
 have hls:=hn.links
 unfold An at hls
 have q1:=Agj n.links.length qn
 have q2:=Wv n (List.replicate n.links.length true) hn hb
 generalize List.replicate n.links.length true=up at *
 conv=>whnf
 refine Iz 7 Ad [true] E E ?_
 refine At 7 E ?_
 refine rg ?_;conv=>whnf
 refine Ag q1 F111 E E E E E ?_
 refine rg ?_;conv=>whnf
 refine Ag q2 F112 E E E E E ?_
 (refine rg ?_;(conv=>whnf);refine aT ?_;refine rg ?_;conv=>whnf)
 exact Ac E (.cons .tmp (.cons .tmp .nil)) E E
theorem Am6 (n:Net) (hn:n.Fin) (hb:okB n (List.replicate n.links.length true)=true) :
  Sy.Spec Tryz.prog 50 [Ap n] [] (.tup [.ptr 0 0,Aa 0]) (Cs n (newT n) false):=Ab Γ hm 100 F50 Tryz.ntmps50 rfl fun F hF=>by
 have hls:=hn.links
 have hds:=hn.domains
 unfold An at hls hds
 have q1:=Agj n.links.length qn
 have q2:=Y0 n (List.replicate n.links.length true) hn hb
 have hnt:=newT.eq_1 n
 generalize newT n=m at *
 generalize List.replicate n.links.length true=up at *
 conv=>whnf
 refine Iz 7 Ad [true] E E ?_
 refine At 7 E ?_
 refine rg ?_;conv=>whnf
 refine Ag q1 F111 E E E E E ?_
 refine rg ?_;conv=>whnf
 refine Ag q2 F112 E E E E E ?_
 (refine rg ?_;(conv=>whnf);refine aF ?_;refine rg ?_;conv=>whnf)
 refine Au (copyS n hn) F113 E E E qq E ?_
 refine rd qq ?_;conv=>whnf
 refine Bo (Bl Γ.toTy (d:=28) (n:=n.domains.length) (fun _:Unit=>.val (.slice none 0 0)) () E E E E E E E E qn qn E E E) qq E ?_
 refine rd qq ?_;conv=>whnf
 refine Bo (Bl Γ.toTy (d:=32) (n:=n.domains.length) (fun _:Unit=>.val (.slice none 0 0)) () E E E E E E E E qn qn E E E) qq E ?_
 refine rd qq ?_;conv=>whnf
 refine⟨qq,?_⟩
 refine Ad0 28 (e':=Jo) (l':=List.replicate n.domains.length []) E qy (fun M w i h1 h2 v hv=>?_) ?_
 ·rw[List.getElem_replicate]
  simp only[RdD]at hv
  exact Xm hv
 refine Ad0 32 (e':=K7) (l':=List.replicate n.domains.length []) E qy (fun M w i h1 h2 v hv=>?_) ?_
 ·rw[List.getElem_replicate]
  simp only[RdD]at hv
  exact Xm hv
 refine Bc 24 (Hm n up false) E (.cons (.refl _) (.cons (.refl _) (.cons (.refl _) (.cons (.refl _) (.cons .nil .nil))))) ?_
 refine rg ?_;conv=>whnf
 subst hnt
 exact done E (.cons .tmp (.cons .tmp .nil)) [(0,34),(1,24),(2,28),(3,32)] (Cs n ⟨up,List.replicate n.domains.length [],List.replicate n.domains.length [],0,0,fun _=>0⟩ false) (fun _ h=>h) E E ⟨Y,⟨.inl E,E,.inl E,E,.inl E,E,.inl E,E,Y⟩,E,E⟩
end Go.Sy.YteinjapglfkamaaGreat
namespace Go.Sy.YteinjapglfkamaaGreat
open Go.Proofs
def runF (n:Net) (s:MacM × Bool) (l:List StepM):MacM × Bool:=l.foldl (fun s x=>((doT n s.1 x).1,doD n s.1 s.2 x)) s
def runD (n:Net) (m:MacM) (d:Bool) (l:List StepM):Bool:=(runF n (m,d) l).2
theorem doT_ok {n:Net} (hn:n.Fin) (hm1:n.Num) {m:MacM} {J D:Int} (h:MacOK n m J D) (hJ:0≤J) (hD:0≤D) (x:StepM):MacOK n (doT n m x).1 (J+1) (D+4294967298):=by
 unfold doT
 split
 ·exact(Afe hn h hJ hD _ _).mono qn qn
 split
 ·have hok:=Vm h x.domain x.at_
  unfold pickT
  split
  ·exact hok.1.mono qn qn
  ·have hb:=Un hn (J6 n (takeM m x.domain x.at_).1.up) (tableL (takeM m x.domain x.at_).1 x.domain) x.domain (takeM m x.domain x.at_).2.1 (takeM m x.domain x.at_).1.now
   have h1:=Ab0 hok.1 hD x.domain (Ul (n:=n) (fw:=J6 n (takeM m x.domain x.at_).1.up) (dom:=x.domain) (now:=(takeM m x.domain x.at_).1.now) (Te hok.1 x.domain) hok.2)
   have h2:=L6 hn (takeM m x.domain x.at_).2.1.origin (Ab1 n (takeM m x.domain x.at_).1 x.domain (takeM m x.domain x.at_).2.1).2.1 h1 qn (Um hn hm1 hok.2)
   refine h2.mono qn ?_
   unfold Ab1
   omega
 split
 ·exact(Vm h x.domain x.at_).1.mono qn qn
 split
 ·have h1:=h.now
  refine⟨h.up,by unfold M7;simp only[List.length_map];exact h.tabs,h.ques,fun t ht=>?_,h.que,?_,?_,fun i=>?_⟩
  ·unfold M7 at ht
   obtain ⟨t0,ht0,rfl⟩:=List.mem_map.1 ht
   exact Aoa (h.tab t0 ht0) _
  ·unfold M7
   dsimp only
   omega
  ·have:=h.inj
   unfold M7
   dsimp only
   omega
  ·have:=h.drp i
   unfold M7
   dsimp only
   omega
 split
 ·split
  ·rename_i h2
   exact MacOK.mono (n:=n) (m:=⟨x.up,m.tables,m.queues,m.now,m.injected,m.drops⟩) ⟨h2,h.tabs,h.ques,h.tab,h.que,h.now,h.inj,h.drp⟩ qn qn
  ·exact h.mono qn qn
 ·exact h.mono qn qn
theorem Ago (n:Net):MacOK n (newT n) 0 0:=by
 refine⟨by simp[newT],by simp[newT],by simp[newT],fun t ht=>?_,fun l hl=>?_,by simp[newT],by simp[newT],fun i=>by simp[newT]⟩
 ·have:t=[]:=(List.mem_replicate.1 ht).2
  rw[this];exact Tm
 ·have:l=[]:=(List.mem_replicate.1 hl).2
  rw[this];exact Ud
def upsT (n:Net):List Bool:=List.replicate n.links.length true
attribute [local irreducible] Go.Sy.G Go.Sy.DR
set_option maxRecDepth 100000
set_option maxHeartbeats 4000000
end Go.Sy.YteinjapglfkamaaGreat
namespace Go.Sy.YteinjapglfkamaaGreat
open Go.Proofs
theorem Xj {P:Hop→Prop} {S:Srch} (h:∀ f∈S.list,P f.hop) (d k:Int) {x:Hop} (hx:P x) (a:Int):∀ f∈(meetT S d k x a).list,P f.hop:=by
 rw[meetT]
 split
 ·exact h
 ·rw[Im]
  split<;>(intro f hf;rcases List.mem_append.1 hf with hf | hf;exact h f hf;rw[List.mem_singleton]at hf;subst hf;exact hx)
theorem Xk {P:Hop→Prop} {k i:Int}:∀ {l:List Hop} {S:Srch},(∀ f∈S.list,P f.hop)→(∀ h∈l,P h)→∀ f∈(ext1 S k i l).list,P f.hop
 | [],S,h,_=>h
 | x::l,S,h,hl=>Xk (l:=l) (Xj h x.domain k (hl x qy) i) (fun y hy=>hl y (by simp[hy]))
theorem Adt {P:Hop→Prop} {i:Int}:∀ {l:List Lead} {S:Srch},(∀ f∈S.list,P f.hop)→(∀ q∈l,P ⟨3,0,q.domain,q.addr⟩)→∀ f∈(ext2 S i l).list,P f.hop
 | [],S,h,_=>h
 | x::l,S,h,hl=>Adt (l:=l) (Xj h x.domain 1 (hl x qy) i) (fun y hy=>hl y (by simp[hy]))
theorem An8 {P:Hop→Prop} {n:Net} (h1:∀ d,∀ x∈Ho n d,P x) (h2:∀ d,∀ q∈routesT n d,P ⟨3,0,q.domain,q.addr⟩) {S:Srch} (h:∀ f∈S.list,P f.hop) (i:Int):∀ f∈(extT n S i).list,P f.hop:=by
 rw[extT]
 split
 ·exact Adt (Xk h (h1 _)) (h2 _)
 ·exact Xk h (h1 _)
theorem Ajh {P:Hop→Prop} {n:Net} {dev:Int} (h:∀ d,P ⟨0,0,d,0⟩) (l:List Int):∀ f∈(Iu n dev l).list,P f.hop:=by
 suffices hs:∀ (l:List Int) (S:Srch),(∀ f∈S.list,P f.hop)→∀ f∈(l.foldl (Iv n dev) S).list,P f.hop from hs l _ (fun f hf=>by simp[Qn]at hf)
 intro l
 induction l with
 | nil=>exact fun S h=>h
 | cons x l ih =>
  intro S hS
  refine ih _ ?_
  rw[Iv]
  split
  ·exact hS
  ·exact Xj hS _ _ (h _) _
theorem Xi {P:Hop→Prop} {n:Net} (h1:∀ d,∀ x∈Ho n d,P x) (h2:∀ d,∀ q∈routesT n d,P ⟨3,0,q.domain,q.addr⟩) {to:Int}:∀ (k:Nat) (S:Srch) (i:Nat),S.OK n→Backs S.list→(∀ f∈S.list,P f.hop)→i≤S.list.length→(Ek n to k S i).2=true →
  ∀ h∈(Ek n to k S i).1,P h
 | 0,S,i,_,_,_,_,h=>by cases h
 | k+1,S,i,ok,bk,hk,hi,h=>by
  rw[Ek]at h ⊢
  split at h
  ·rename_i hlt
   rw[if_pos hlt]
   split at h
   ·rename_i hm2
    rw[if_pos hm2]
    exact(Uo bk hk hlt).1
   ·rename_i hm2
    rw[if_neg hm2]
    have bk':=bk.ext (n:=n) (i:=i) ⟨by omega,by omega⟩
    exact Xi h1 h2 k _ _ (ok.ext i) bk'.1 (An8 h1 h2 hk i) qn h
  ·cases h
theorem An7 {P:Hop→Prop} {n:Net} (h1:∀ d,∀ x∈Ho n d,P x) (h2:∀ d,∀ q∈routesT n d,P ⟨3,0,q.domain,q.addr⟩) (h3:∀ d,P ⟨0,0,d,0⟩) {from_ to:Int} (h:(wayT n from_ to).2=true):∀ x∈(wayT n from_ to).1,P x:=by
 rw[wayT]at h ⊢
 split at h
 ·rename_i hc
  rw[if_pos hc]
  have hp:=Sf hc.1
  have ok0:(beginT n from_).OK n:=by
   rw[beginT,Am hp.2]
   exact Mw fun v hv h0=>Hq hc.2.2.2 hp.2 hv h0
  have bk0:Backs (beginT n from_).list:=by rw[beginT];exact K2 _ _ _
  exact Xi h1 h2 _ _ _ ok0 bk0 (by rw[beginT];exact Ajh h3 _) (Nat.zero_le _) h
 ·cases h
def LinkOK (n:Net) (h:Hop):Prop:=h.kind=1→(0≤h.port∧h.port.toNat<n.ports.length)∧0≤(nth n.ports h.port).link∧(nth n.ports h.port).link.toNat<n.links.length
theorem Ab5 {n:Net} {i:Int} (h:0≤Cz n i):(0≤i∧i.toNat<n.ports.length)∧0≤(nth n.ports i).link∧(nth n.ports i).link.toNat<n.links.length:=by
 have ht:=H6 h
 unfold Cz at h
 split at h
 ·rename_i hc
  have e1:nth n.ports i=n.ports[i.toNat]:=Am ht.1.2
  rw[e1]at hc ⊢
  exact⟨ht.1,hc.2.1,(Hr hc.2.2 ht.1.2 hc.2.1).1⟩
 ·omega
theorem way_links {n:Net} {from_ to:Int} (h:(wayT n from_ to).2=true):∀ x∈(wayT n from_ to).1,LinkOK n x:=by
 refine An7 (fun d x hx=>?_) (fun d q _ e=>?_) (fun d e=>?_) h
 ·rw[Ho]at hx
  split at hx
  ·rcases List.mem_append.1 hx with hx | hx
   ·obtain ⟨p,_,hp⟩:=List.mem_filterMap.1 hx
    rw[linkHop]at hp
    split at hp
    ·rename_i hc
     simp only[Option.some.injEq]at hp
     subst hp
     intro _
     refine Ab5 ?_
     rw[linkDomT]at hc
     split at hc
     ·rename_i hd
      rw[crossT]at hd
      split at hd
      ·rename_i hc2;exact hc2.1
      ·cases hd
     ·cases hc
    ·cases hp
   ·obtain ⟨p,hp,rfl⟩:=List.mem_map.1 hx
    intro e
    simp[I2]at e
  ·cases hx
 ·simp at e
 ·simp at e
def Qp:Nat:=2203318222849
def stepB (n:Net) (l:List Hop) (i:Nat) (h:Hop):Bool:=Ak h.domain n.domains.length && !(decide (h.kind=3) && (decide (i=0) || decide ((nth n.domains (nth l ((i:Int)-1)).domain).irb<0)))
def Es (l:List Hop):Int:=Cb (fun h=>decide (h.kind=3)) l
def Ld (a:Nat):PacketM:=⟨0,0,64,17,1,a,[]⟩
def irbOf (n:Net) (l:List Hop):Irb:=nth n.irbs (nth n.domains (nth l (Es l-1)).domain).irb
def frameW (n:Net) (l:List Hop):FrameM:=if 0<Es l then ⟨E5 (irbOf n l).addr,Qp,2048,(ipPutT (Ld (nth l (Es l)).addr.toNat)).1⟩ else ⟨281474976710655,Qp,34997,[]⟩
def wayBytes (n:Net) (l:List Hop):List UInt8 × Int:=if Af n=true∧l≠[]∧Cj (stepB n l) l=true then (M1 (frameW n l),0) else ([],2)
def injectW (n:Net) (from_:Int) (l:List Hop):StepM :=
 ⟨1,from_,0,0,if (nth n.domains (nth l 0).domain).vlan≠(nth n.ports from_).native then M1 (tagT (takeF (wayBytes n l).1).1 (nth n.domains (nth l 0).domain).vlan).1 else (wayBytes n l).1,[]⟩
structure GoM where
 m:MacM
 d:Bool
 out:List StepM
def doW (n:Net) (s:GoM) (x:StepM):GoM:=⟨(doT n s.m x).1,doD n s.m s.d x,s.out++[x]⟩
def pickX (m:MacM) (d:Int):StepM:=⟨2,0,d,if (((if Ak d m.queues.length then queueL m d else []).length:Int)-1)<0 then 0 else ((if Ak d m.queues.length then queueL m d else []).length:Int)-1,[],[]⟩
def Wa (n:Net) (s:GoM) (d:Int):GoM:=doW n s (pickX s.m d)
def upW (n:Net) (h:Hop):List Bool:=(List.replicate n.links.length false).set (nth n.ports h.port).link.toNat true
def linkW (n:Net) (s:GoM) (h:Hop):GoM:=if h.kind=1 then doW n s ⟨5,0,0,0,[],upW n h⟩ else s
def goW (n:Net) (from_:Int) (l:List Hop):Nat→GoM
 | 0=>doW n ⟨newT n,false,[]⟩ (injectW n from_ l)
 | k+1=>Wa n (linkW n (goW n from_ l k) (nth l ((k+1:Nat):Int))) (nth l ((k:Nat):Int)).domain
def Anz (n:Net) (from_:Int) (l:List Hop):GoM:=Wa n (goW n from_ l (l.length-1)) (nth l ((l.length:Int)-1)).domain
def wscriptT (n:Net) (from_ to:Int):List StepM × Int :=
 if I5 n from_=true∧I5 n to=true∧from_≠to∧okB n (upsT n)=true then
  (if (wayT n from_ to).2=true then ((Anz n from_ (wayT n from_ to).1).out,0) else ([],31))
 else ([],2)
end Go.Sy.YteinjapglfkamaaGreat
