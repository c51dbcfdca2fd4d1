/-
  M18 M19 X2 M20 V6 M21 L1 M22 D0 D5 D6 E16 E17 E18 E20 E22 E23 E24 E25 E26 E27 E28 E30 E31 D3 D4 D7 D8 D9 D10 BF1 I20 I21 I22 E32 E19 E33 E34 BF2 EP1 I23 I24: parts of a proof, joined by program.
-/
import Derived.Test.YtjenpnjajjplkaaGreatDoorXP5
import Derived.Test.YtjenpnjajjplkaaGreatDoorXP4
import Derived.Test.YtjenpnjajjplkaaGreatDoorXP3
import Derived.ProofKit
import Derived.OpenShut
import Derived.LaidMore
import Derived.Lay
import Derived.SevenTiedAt
import Derived.Stop.Joined
set_option linter.all false
set_option linter.unusedVariables false
set_option linter.unusedSimpArgs false
set_option linter.deprecated false
namespace Go.Sy.YtjenpnjajjplkaaGreatDoor
open Go.Proofs
attribute [local irreducible] Go.Sy.G Go.Sy.DR
set_option maxRecDepth 100000
set_option maxHeartbeats 4000000
abbrev Bo (k:Nat):Nat × Ob:=(k,.glob 6 (.agg [Aa 0,Aa 3,Aa 3,Aa 3,Aa 1,Aa 2]) 1)
def Ho:StepM:=⟨0,0,0,0,[],[]⟩
def Vf (k:Int):Int:=if k=4 then 1 else if k=5 then 2 else 3
def I3 (n:Net) (w:ByteArray):Nat:=(List.range n.domains.length).findIdx (fun i:Nat=>Ca n (i:Int) == w)
def stepT (n:Net) (s:ByteArray):StepM × Int :=
 if kindI (nth (A2 32 s) 0)=0 then (Ho,22)
 else if ((A2 32 s).length:Int)≠Vf (kindI (nth (A2 32 s) 0)) then (Ho,22)
 else if kindI (nth (A2 32 s) 0)=1 then
  if Bc (Js n (nth (A2 32 s) 1)) n.ports<0 then (Ho,31)
  else if (Eg (nth (A2 32 s) 2)).2=false then (Ho,21)
  else (⟨1,Bc (Js n (nth (A2 32 s) 1)) n.ports,0,0,(Eg (nth (A2 32 s) 2)).1,[]⟩,0)
 else if kindI (nth (A2 32 s) 0)=2∨kindI (nth (A2 32 s) 0)=3 then
  if I3 n (nth (A2 32 s) 1)=n.domains.length then (Ho,31)
  else if (numR (nth (A2 32 s) 2) 0 999999999).2=false then (Ho,21)
  else (⟨kindI (nth (A2 32 s) 0),0,I3 n (nth (A2 32 s) 1),(numR (nth (A2 32 s) 2) 0 999999999).1,[],[]⟩,0)
 else if kindI (nth (A2 32 s) 0)=4 then (⟨4,0,0,0,[],[]⟩,0)
 else if Wm n.links.length (nth (A2 32 s) 1)=false then (Ho,21)
 else (⟨5,0,0,0,[],upL (nth (A2 32 s) 1)⟩,0)
theorem Y4 (w:ByteArray):(kindI w=0∧(vInject == w)=false∧(vPick == w)=false∧(vDrop == w)=false∧(H8 == w)=false∧(vLinks == w)=false)∨(kindI w=1∧w=vInject)∨(kindI w=2∧w=vPick)∨(kindI w=3∧w=vDrop)∨(kindI w=4∧w=H8)∨(kindI w=5∧w=vLinks):=by
 unfold kindI
 split
 ·rename_i h;exact .inr (.inl ⟨rfl,((L8 _ _).1 h).symm⟩)
 split
 ·rename_i h;exact .inr (.inr (.inl ⟨rfl,((L8 _ _).1 h).symm⟩))
 split
 ·rename_i h;exact .inr (.inr (.inr (.inl ⟨rfl,((L8 _ _).1 h).symm⟩)))
 split
 ·rename_i h;exact .inr (.inr (.inr (.inr (.inl ⟨rfl,((L8 _ _).1 h).symm⟩))))
 split
 ·rename_i h;exact .inr (.inr (.inr (.inr (.inr ⟨rfl,((L8 _ _).1 h).symm⟩))))
 ·rename_i h1 h2 h3 h4 h5
  exact .inl ⟨E,by simpa using h1,by simpa using h2,by simpa using h3,by simpa using h4,by simpa using h5⟩
theorem Tp {n:Net} {w:ByteArray} (h:∀ i,i<n.domains.length→(Ca n (i:Int) == w)=false):I3 n w=n.domains.length:=by
 have:(List.range n.domains.length).findIdx (fun i:Nat=>Ca n (i:Int) == w)=(List.range n.domains.length).length:=by
  rw[List.findIdx_eq_length]
  intro x hx
  have:=h x (by simpa using hx)
  simpa using this
 rw[I3,this,List.length_range]
theorem Ab1 {n:Net} {w:ByteArray} {j:Nat} (hj:j<n.domains.length) (h:∀ i,i<j→(Ca n (i:Int) == w)=false) (h2:(Ca n (j:Int) == w)=true):I3 n w=j:=by
 rw[I3,List.findIdx_eq (by rw[List.length_range];exact hj)]
 refine⟨by simpa using h2,fun i hi=>by simpa using h i hi⟩
theorem Ai3 (c:UInt8) (s:ByteArray):Jo c s≤s.size:=List.count_le_length
theorem Ad5 (c:UInt8) (l:List UInt8) (j:Nat):(Eh c l j).length≤l.length:=by
 rw[Eh,List.length_take]
 have:=Mn c l j
 omega
theorem Md (c:UInt8) (s:ByteArray):∀ w∈A2 c s,w.size≤s.size:=by
 intro w hw
 rw[A2,List.mem_append,List.mem_map,List.mem_singleton]at hw
 rcases hw with ⟨j,_,rfl⟩ | rfl
 ·rw[Cf];exact Ad5 _ _ _
 ·rw[Cf];exact Mn _ _ _
theorem Adt (n:Net) (hn:n.Fin) (hb:Ac n=true) (hnm:Hc n) (s:ByteArray) (hs:s.size<100000) :
  Sy.Spec Tryz.prog 37 [Aj n,Ai s] [Ao 900,Bo 901] (.tup [Bm (stepT n s).1,Aa (stepT n s).2]) [Ao 900,Bo 901]:=cT F37 Tryz.ntmps37 fun F hF=>by
 have hres:=stepT.eq_1 n s
 generalize stepT n s=res at *
 have q0:=splitS s 32 hs
 have hWl:=Ud 32 s
 have hWs:=Md 32 s
 have hcl:=Ai3 32 s
 have hsn:=hn.ports
 unfold Aq at hsn
 have hfw:=Ac8 hb
 generalize A2 32 s=W at *
 have h00:(0:Int).toNat<W.length:=by show 0<_;omega
 have hw0:nth W 0=W[(0:Int).toNat]:=Am h00
 obtain ⟨w0,hw0'⟩:∃ w0,W[(0:Int).toNat]'h00=w0:=⟨_,rfl⟩
 rw[hw0,hw0']at hres
 have q1:=kindS w0
 have hkc:=Y4 w0
 obtain ⟨kd,hkd⟩:∃ kd,kindI w0=kd:=⟨_,rfl⟩
 rw[hkd]at hres q1 hkc
 ((conv=>whnf);repeat((first|refine aF ?_|refine aT ?_);(first|refine rG Γ hm ?_|refine rD Γ hm z_ ?_);conv=>whnf))
 refine c0 q0 F92 ?_
 ((first|refine rG Γ hm ?_|refine rD Γ hm z_ ?_);(conv=>whnf);repeat((first|refine aF ?_|refine aT ?_);(first|refine rG Γ hm ?_|refine rD Γ hm z_ ?_);conv=>whnf))
 refine⟨E,by decide,h00,?_⟩
 rw[hw0']
 ((conv=>whnf);repeat((first|refine aF ?_|refine aT ?_);(first|refine rG Γ hm ?_|refine rD Γ hm z_ ?_);conv=>whnf))
 refine Aw (Ad [(900,900)] E F120 q1 E ⟨E,Y⟩ E ⟨.inl E,Y⟩) E E ?_
 refine A6 2 8 (Aj n) E E E ?_
 refine A6 6 1 (.sl 1 Ai W) E E E ?_
 rcases hkc with ⟨rfl,_⟩ | ⟨rfl,_⟩ | ⟨rfl,_⟩ | ⟨rfl,_⟩ | ⟨rfl,_⟩ | ⟨rfl,_⟩
 ·rw[if_pos rfl]at hres
  subst hres
  ((first|refine rG Γ hm ?_|refine rD Γ hm z_ ?_);(conv=>whnf);repeat((first|refine aF ?_|refine aT ?_);(first|refine rG Γ hm ?_|refine rD Γ hm z_ ?_);conv=>whnf))
  (repeat (first | (refine⟨fun h=>False.elim (by first | (exact absurd h j_) | (simp at h;done) | (simp at h;omega)),fun _=>?_⟩;((first|refine rG Γ hm ?_|refine rD Γ hm z_ ?_);(conv=>whnf);repeat((first|refine aF ?_|refine aT ?_);(first|refine rG Γ hm ?_|refine rD Γ hm z_ ?_);conv=>whnf))) | (refine⟨fun _=>?_,fun h=>False.elim (by first | (exact absurd h j_) | (simp at h;done) | (simp at h;omega))⟩;((first|refine rG Γ hm ?_|refine rD Γ hm z_ ?_);(conv=>whnf);repeat((first|refine aF ?_|refine aT ?_);(first|refine rG Γ hm ?_|refine rD Γ hm z_ ?_);conv=>whnf)))))
  refine⟨z_,?_⟩
  ((conv=>whnf);repeat((first|refine aF ?_|refine aT ?_);(first|refine rG Γ hm ?_|refine rD Γ hm z_ ?_);conv=>whnf))
  refine Ag 4 [Aa 0,Aa 0,Aa 0,Aa 0,.sl 1 Ak [],.sl 1 Ab []] E (.cons (.refl _) (.cons (.refl _) (.cons (.refl _) (.cons (.refl _) (.cons .nil (.cons .nil .nil)))))) ?_
  exact done E (.cons (.cell E E E E) (.cons .tmp .nil)) [] [Ao 900,Bo 901] (fun _ h=>h) E E ⟨Y,⟨.inl E,E,.inl E,E,Y⟩,E,E⟩
 ·rw[if_neg j_]at hres
  ((first|refine rG Γ hm ?_|refine rD Γ hm z_ ?_);(conv=>whnf);repeat((first|refine aF ?_|refine aT ?_);(first|refine rG Γ hm ?_|refine rD Γ hm z_ ?_);conv=>whnf))
  (repeat (first | (refine⟨fun h=>False.elim (by first | (exact absurd h j_) | (simp at h;done) | (simp at h;omega)),fun _=>?_⟩;((first|refine rG Γ hm ?_|refine rD Γ hm z_ ?_);(conv=>whnf);repeat((first|refine aF ?_|refine aT ?_);(first|refine rG Γ hm ?_|refine rD Γ hm z_ ?_);conv=>whnf))) | (refine⟨fun _=>?_,fun h=>False.elim (by first | (exact absurd h j_) | (simp at h;done) | (simp at h;omega))⟩;((first|refine rG Γ hm ?_|refine rD Γ hm z_ ?_);(conv=>whnf);repeat((first|refine aF ?_|refine aT ?_);(first|refine rG Γ hm ?_|refine rD Γ hm z_ ?_);conv=>whnf)))))
  refine I8 (GoodX.glob Γ.toTy 901 E E E E E j_ j_) E z_ ?_
  ((first|refine rG Γ hm ?_|refine rD Γ hm z_ ?_);(conv=>whnf);repeat((first|refine aF ?_|refine aT ?_);(first|refine rG Γ hm ?_|refine rD Γ hm z_ ?_);conv=>whnf))
  refine⟨z_,?_⟩
  ((conv=>whnf);repeat((first|refine aF ?_|refine aT ?_);(first|refine rG Γ hm ?_|refine rD Γ hm z_ ?_);conv=>whnf))
  refine⟨fun h=>?_,fun h=>?_⟩
  ·have hne:(W.length:Int)≠3:=by simpa using h
   rw[if_pos (by exact hne)]at hres
   subst hres
   ((first|refine rG Γ hm ?_|refine rD Γ hm z_ ?_);(conv=>whnf);repeat((first|refine aF ?_|refine aT ?_);(first|refine rG Γ hm ?_|refine rD Γ hm z_ ?_);conv=>whnf))
   refine Ag 4 [Aa 0,Aa 0,Aa 0,Aa 0,.sl 1 Ak [],.sl 1 Ab []] E (.cons (.refl _) (.cons (.refl _) (.cons (.refl _) (.cons (.refl _) (.cons .nil (.cons .nil .nil)))))) ?_
   exact done E (.cons (.cell E E E E) (.cons .tmp .nil)) [] [Ao 900,Bo 901] (fun _ h=>h) E E ⟨Y,⟨.inl E,E,.inl E,E,Y⟩,E,E⟩
  have hle:(W.length:Int)=3:=by simpa using h
  rw[if_neg (by rw[hle];simp[Vf])]at hres
  rw[if_pos rfl]at hres
  have h01:(1:Int).toNat<W.length:=by show 1<_;omega
  have h02:(2:Int).toNat<W.length:=by show 2<_;omega
  have hw2:nth W 2=W[(2:Int).toNat]:=Am h02
  have qf:∀ p∈n.ports,Hk Tryz.prog 122 ([]++[Au p]++[.ref 8 (Aj n) 0,.ref 1 (.sl 1 Ai W) 0]) (Ab (Js n (nth W 1) p)):=fun p hp=>⟨⟨_,_,F122⟩,by
   obtain ⟨i,hi,rfl⟩:=List.mem_iff_getElem.1 hp
   exact Adp n hnm W h01 _ (List.getElem_mem hi) (Jk hb hi)⟩
  have q2:=Jv n.ports (Js n (nth W 1)) 122 [] [.ref 8 (Aj n) 0,.ref 1 (.sl 1 Ai W) 0] rfl qf hn.ports
  have hig:=Ait (Js n (nth W 1)) n.ports
  have hil:=M6 (Js n (nth W 1)) n.ports
  have hz2:=hWs _ (List.getElem_mem h02)
  rw[hw2]at hres
  have q3:=Mx (W[(2:Int).toNat]'h02) q_
  have hbe:=Afw (W[(2:Int).toNat]'h02)
  generalize Bc (Js n (nth W 1)) n.ports=pi at *
  ((first|refine rG Γ hm ?_|refine rD Γ hm z_ ?_);(conv=>whnf);repeat((first|refine aF ?_|refine aT ?_);(first|refine rG Γ hm ?_|refine rD Γ hm z_ ?_);conv=>whnf))
  refine c0 q2 F121 ?_
  ((first|refine rG Γ hm ?_|refine rD Γ hm z_ ?_);(conv=>whnf);repeat((first|refine aF ?_|refine aT ?_);(first|refine rG Γ hm ?_|refine rD Γ hm z_ ?_);conv=>whnf))
  refine⟨fun h=>?_,fun h=>?_⟩
  ·rw[if_pos (of_decide_eq_true h)]at hres
   subst hres
   ((first|refine rG Γ hm ?_|refine rD Γ hm z_ ?_);(conv=>whnf);repeat((first|refine aF ?_|refine aT ?_);(first|refine rG Γ hm ?_|refine rD Γ hm z_ ?_);conv=>whnf))
   refine Ag 4 [Aa 0,Aa 0,Aa 0,Aa 0,.sl 1 Ak [],.sl 1 Ab []] E (.cons (.refl _) (.cons (.refl _) (.cons (.refl _) (.cons (.refl _) (.cons .nil (.cons .nil .nil)))))) ?_
   exact done E (.cons (.cell E E E E) (.cons .tmp .nil)) [] [Ao 900,Bo 901] (fun _ h=>h) E E ⟨Y,⟨.inl E,E,.inl E,E,Y⟩,E,E⟩
  rw[if_neg (of_decide_eq_false h)]at hres
  ((first|refine rG Γ hm ?_|refine rD Γ hm z_ ?_);(conv=>whnf);repeat((first|refine aF ?_|refine aT ?_);(first|refine rG Γ hm ?_|refine rD Γ hm z_ ?_);conv=>whnf))
  refine⟨E,by decide,h02,?_⟩
  ((conv=>whnf);repeat((first|refine aF ?_|refine aT ?_);(first|refine rG Γ hm ?_|refine rD Γ hm z_ ?_);conv=>whnf))
  refine c0 q3 F123 ?_
  rw[hbe.1]
  cases hok:(Eg (W[(2:Int).toNat]'h02)).2
  ·rw[hok,if_pos rfl]at hres
   subst hres
   ((first|refine rG Γ hm ?_|refine rD Γ hm z_ ?_);(conv=>whnf);repeat((first|refine aF ?_|refine aT ?_);(first|refine rG Γ hm ?_|refine rD Γ hm z_ ?_);conv=>whnf))
   refine Ag 4 [Aa 0,Aa 0,Aa 0,Aa 0,.sl 1 Ak [],.sl 1 Ab []] E (.cons (.refl _) (.cons (.refl _) (.cons (.refl _) (.cons (.refl _) (.cons .nil (.cons .nil .nil)))))) ?_
   exact done E (.cons (.cell E E E E) (.cons .tmp .nil)) [] [Ao 900,Bo 901] (fun _ h=>h) E E ⟨Y,⟨.inl E,E,.inl E,E,Y⟩,E,E⟩
  ·rw[hok,if_neg y_]at hres
   rw[hbe.2 hok]
   subst hres
   ((first|refine rG Γ hm ?_|refine rD Γ hm z_ ?_);(conv=>whnf);repeat((first|refine aF ?_|refine aT ?_);(first|refine rG Γ hm ?_|refine rD Γ hm z_ ?_);conv=>whnf))
   refine Ag 4 [Aa 1,Aa pi,Aa 0,Aa 0,.sl 1 Ak (Eg (W[(2:Int).toNat]'h02)).1,.sl 1 Ab []] E (.cons (.refl _) (.cons (.refl _) (.cons (.refl _) (.cons (.refl _) (.cons (.refl _) (.cons .nil .nil)))))) ?_
   exact done E (.cons (.cell E E E E) (.cons .tmp .nil)) [] [Ao 900,Bo 901] (fun _ h=>h) E E ⟨Y,⟨.inl E,E,.inl E,E,Y⟩,E,E⟩
 ·rw[if_neg j_]at hres
  ((first|refine rG Γ hm ?_|refine rD Γ hm z_ ?_);(conv=>whnf);repeat((first|refine aF ?_|refine aT ?_);(first|refine rG Γ hm ?_|refine rD Γ hm z_ ?_);conv=>whnf))
  (repeat (first | (refine⟨fun h=>False.elim (by first | (exact absurd h j_) | (simp at h;done) | (simp at h;omega)),fun _=>?_⟩;((first|refine rG Γ hm ?_|refine rD Γ hm z_ ?_);(conv=>whnf);repeat((first|refine aF ?_|refine aT ?_);(first|refine rG Γ hm ?_|refine rD Γ hm z_ ?_);conv=>whnf))) | (refine⟨fun _=>?_,fun h=>False.elim (by first | (exact absurd h j_) | (simp at h;done) | (simp at h;omega))⟩;((first|refine rG Γ hm ?_|refine rD Γ hm z_ ?_);(conv=>whnf);repeat((first|refine aF ?_|refine aT ?_);(first|refine rG Γ hm ?_|refine rD Γ hm z_ ?_);conv=>whnf)))))
  refine I8 (GoodX.glob Γ.toTy 901 E E E E E j_ j_) E z_ ?_
  ((first|refine rG Γ hm ?_|refine rD Γ hm z_ ?_);(conv=>whnf);repeat((first|refine aF ?_|refine aT ?_);(first|refine rG Γ hm ?_|refine rD Γ hm z_ ?_);conv=>whnf))
  refine⟨z_,?_⟩
  ((conv=>whnf);repeat((first|refine aF ?_|refine aT ?_);(first|refine rG Γ hm ?_|refine rD Γ hm z_ ?_);conv=>whnf))
  refine⟨fun h=>?_,fun h=>?_⟩
  ·have hne:(W.length:Int)≠3:=by simpa using h
   rw[if_pos (by exact hne)]at hres
   subst hres
   ((first|refine rG Γ hm ?_|refine rD Γ hm z_ ?_);(conv=>whnf);repeat((first|refine aF ?_|refine aT ?_);(first|refine rG Γ hm ?_|refine rD Γ hm z_ ?_);conv=>whnf))
   refine Ag 4 [Aa 0,Aa 0,Aa 0,Aa 0,.sl 1 Ak [],.sl 1 Ab []] E (.cons (.refl _) (.cons (.refl _) (.cons (.refl _) (.cons (.refl _) (.cons .nil (.cons .nil .nil)))))) ?_
   exact done E (.cons (.cell E E E E) (.cons .tmp .nil)) [] [Ao 900,Bo 901] (fun _ h=>h) E E ⟨Y,⟨.inl E,E,.inl E,E,Y⟩,E,E⟩
  have hle:(W.length:Int)=3:=by simpa using h
  rw[if_neg (by rw[hle];simp[Vf])]at hres
  rw[if_neg j_,if_pos j_]at hres
  have h01:(1:Int).toNat<W.length:=by show 1<_;omega
  have h02:(2:Int).toNat<W.length:=by show 2<_;omega
  have hw1:nth W 1=W[(1:Int).toNat]:=Am h01
  have hw2:nth W 2=W[(2:Int).toNat]:=Am h02
  have hz2:=hWs _ (List.getElem_mem h02)
  rw[hw1,hw2]at hres
  have q3:=Yq (W[(2:Int).toNat]'h02) 0 999999999
  obtain ⟨w1,hw1'⟩:∃ w1,W[(1:Int).toNat]'h01=w1:=⟨_,rfl⟩
  rw[hw1']at hres
  ((first|refine rG Γ hm ?_|refine rD Γ hm z_ ?_);(conv=>whnf);repeat((first|refine aF ?_|refine aT ?_);(first|refine rG Γ hm ?_|refine rD Γ hm z_ ?_);conv=>whnf))
  refine A3 n.domains.length (fun j=>∀ i,i<j→(Ca n (i:Int) == w1)=false) (fun j=>[(2,.ref 8 (Aj n) 0),(4,.ptr 4 0),(6,.ref 1 (.sl 1 Ai W) 0),(7,.ptr 7 0)]) (fun j=>[(4,.box [Aa 0,Aa 0,Aa 0,Aa 0,.val (.slice none 0 0),.val (.slice none 0 0)]),(7,.box [Aa 2,Aa 0,Aa j,Aa 0,.val (.slice none 0 0),.val (.slice none 0 0)]),Ao 900,Bo 901]) [] (fun i hi=>absurd hi q_)
   ⟨⟨rfl,rfl,rfl,rfl,rfl,rfl,rfl,rfl,trivial⟩,⟨.inl rfl,rfl,.inl rfl,rfl,.inl rfl,rfl,.inl rfl,rfl,trivial⟩,rfl,rfl⟩ ?_
  intro j hj hI
  ((first|refine rG Γ hm ?_|refine rD Γ hm z_ ?_);(conv=>whnf);repeat((first|refine aF ?_|refine aT ?_);(first|refine rG Γ hm ?_|refine rD Γ hm z_ ?_);conv=>whnf))
  refine⟨fun h=>?_,fun h=>?_⟩
  ·have hlt:j<n.domains.length:=qA h
   have q4:=Tx n hn hnm (j:Int)
   have hsome:=@Ab1 n w1 j hlt hI
   obtain ⟨td,htd⟩:∃ td,Ca n (j:Int)=td:=⟨_,rfl⟩
   rw[htd]at q4 hsome
   ((first|refine rG Γ hm ?_|refine rD Γ hm z_ ?_);(conv=>whnf);repeat((first|refine aF ?_|refine aT ?_);(first|refine rG Γ hm ?_|refine rD Γ hm z_ ?_);conv=>whnf))
   refine cD q4 F90 ?_
   ((first|refine rG Γ hm ?_|refine rD Γ hm z_ ?_);(conv=>whnf);repeat((first|refine aF ?_|refine aT ?_);(first|refine rG Γ hm ?_|refine rD Γ hm z_ ?_);conv=>whnf))
   refine⟨E,by decide,h01,?_⟩
   rw[hw1']
   ((conv=>whnf);repeat((first|refine aF ?_|refine aT ?_);(first|refine rG Γ hm ?_|refine rD Γ hm z_ ?_);conv=>whnf))
   cases htw:(td == w1)
   ·refine⟨z_,?_⟩
    ((conv=>whnf);repeat((first|refine aF ?_|refine aT ?_);(first|refine rG Γ hm ?_|refine rD Γ hm z_ ?_);conv=>whnf))
    refine iL ?_
    ((conv=>whnf);repeat((first|refine aF ?_|refine aT ?_);(first|refine rG Γ hm ?_|refine rD Γ hm z_ ?_);conv=>whnf))
    refine A1 [] hI q_ (fun i hi=>?_) ⟨⟨E,E,E,E,E,E,E,E,Y⟩,⟨.inl E,E,.inl E,E,.inl E,E,.inl E,E,Y⟩,E,E⟩
    rcases Nat.lt_or_ge i j with h2 | h2
    ·exact hI i h2
    ·obtain rfl:i=j:=by omega
     rw[htd];exact htw
   ·rw[hsome htw,if_neg q_]at hres
    refine⟨z_,?_⟩
    ((conv=>whnf);repeat((first|refine aF ?_|refine aT ?_);(first|refine rG Γ hm ?_|refine rD Γ hm z_ ?_);conv=>whnf))
    refine⟨fun h2=>absurd h2 (by simp;omega),fun _=>?_⟩
    ((first|refine rG Γ hm ?_|refine rD Γ hm z_ ?_);(conv=>whnf);repeat((first|refine aF ?_|refine aT ?_);(first|refine rG Γ hm ?_|refine rD Γ hm z_ ?_);conv=>whnf))
    refine⟨E,by decide,h02,?_⟩
    ((conv=>whnf);repeat((first|refine aF ?_|refine aT ?_);(first|refine rG Γ hm ?_|refine rD Γ hm z_ ?_);conv=>whnf))
    refine c0 q3 F124 ?_
    obtain ⟨⟨av,aok⟩,hav⟩:∃ p,numR (W[(2:Int).toNat]'h02) 0 999999999=p:=⟨_,rfl⟩
    rw[hav]at hres ⊢
    dsimp only at hres ⊢
    cases aok
    ·rw[if_pos rfl]at hres
     subst hres
     ((first|refine rG Γ hm ?_|refine rD Γ hm z_ ?_);(conv=>whnf);repeat((first|refine aF ?_|refine aT ?_);(first|refine rG Γ hm ?_|refine rD Γ hm z_ ?_);conv=>whnf))
     refine Ag 4 [Aa 0,Aa 0,Aa 0,Aa 0,.sl 1 Ak [],.sl 1 Ab []] E (.cons (.refl _) (.cons (.refl _) (.cons (.refl _) (.cons (.refl _) (.cons .nil (.cons .nil .nil)))))) ?_
     exact done E (.cons (.cell E E E E) (.cons .tmp .nil)) [] [Ao 900,Bo 901] (fun _ h=>h) E E ⟨Y,⟨.inl E,E,.inl E,E,Y⟩,E,E⟩
    ·rw[if_neg y_]at hres
     subst hres
     ((first|refine rG Γ hm ?_|refine rD Γ hm z_ ?_);(conv=>whnf);repeat((first|refine aF ?_|refine aT ?_);(first|refine rG Γ hm ?_|refine rD Γ hm z_ ?_);conv=>whnf))
     refine Ag 4 [Aa 2,Aa 0,Aa (j:Int),Aa av,.sl 1 Ak [],.sl 1 Ab []] E (.cons (.refl _) (.cons (.refl _) (.cons (.refl _) (.cons (.refl _) (.cons .nil (.cons .nil .nil)))))) ?_
     exact done E (.cons (.cell E E E E) (.cons .tmp .nil)) [] [Ao 900,Bo 901] (fun _ h=>h) E E ⟨Y,⟨.inl E,E,.inl E,E,Y⟩,E,E⟩
  ·have hje:j=n.domains.length:=qB h
   subst hje
   rw[if_pos (Tp hI)]at hres
   ((first|refine rG Γ hm ?_|refine rD Γ hm z_ ?_);(conv=>whnf);repeat((first|refine aF ?_|refine aT ?_);(first|refine rG Γ hm ?_|refine rD Γ hm z_ ?_);conv=>whnf))
   refine⟨z_,?_⟩
   ((conv=>whnf);repeat((first|refine aF ?_|refine aT ?_);(first|refine rG Γ hm ?_|refine rD Γ hm z_ ?_);conv=>whnf))
   refine⟨fun _=>?_,fun h2=>absurd h2 y_⟩
   subst hres
   ((first|refine rG Γ hm ?_|refine rD Γ hm z_ ?_);(conv=>whnf);repeat((first|refine aF ?_|refine aT ?_);(first|refine rG Γ hm ?_|refine rD Γ hm z_ ?_);conv=>whnf))
   refine Ag 4 [Aa 0,Aa 0,Aa 0,Aa 0,.sl 1 Ak [],.sl 1 Ab []] E (.cons (.refl _) (.cons (.refl _) (.cons (.refl _) (.cons (.refl _) (.cons .nil (.cons .nil .nil)))))) ?_
   exact done E (.cons (.cell E E E E) (.cons .tmp .nil)) [] [Ao 900,Bo 901] (fun _ h=>h) E E ⟨Y,⟨.inl E,E,.inl E,E,Y⟩,E,E⟩
 ·rw[if_neg j_]at hres
  ((first|refine rG Γ hm ?_|refine rD Γ hm z_ ?_);(conv=>whnf);repeat((first|refine aF ?_|refine aT ?_);(first|refine rG Γ hm ?_|refine rD Γ hm z_ ?_);conv=>whnf))
  (repeat (first | (refine⟨fun h=>False.elim (by first | (exact absurd h j_) | (simp at h;done) | (simp at h;omega)),fun _=>?_⟩;((first|refine rG Γ hm ?_|refine rD Γ hm z_ ?_);(conv=>whnf);repeat((first|refine aF ?_|refine aT ?_);(first|refine rG Γ hm ?_|refine rD Γ hm z_ ?_);conv=>whnf))) | (refine⟨fun _=>?_,fun h=>False.elim (by first | (exact absurd h j_) | (simp at h;done) | (simp at h;omega))⟩;((first|refine rG Γ hm ?_|refine rD Γ hm z_ ?_);(conv=>whnf);repeat((first|refine aF ?_|refine aT ?_);(first|refine rG Γ hm ?_|refine rD Γ hm z_ ?_);conv=>whnf)))))
  refine I8 (GoodX.glob Γ.toTy 901 E E E E E j_ j_) E z_ ?_
  ((first|refine rG Γ hm ?_|refine rD Γ hm z_ ?_);(conv=>whnf);repeat((first|refine aF ?_|refine aT ?_);(first|refine rG Γ hm ?_|refine rD Γ hm z_ ?_);conv=>whnf))
  refine⟨z_,?_⟩
  ((conv=>whnf);repeat((first|refine aF ?_|refine aT ?_);(first|refine rG Γ hm ?_|refine rD Γ hm z_ ?_);conv=>whnf))
  refine⟨fun h=>?_,fun h=>?_⟩
  ·have hne:(W.length:Int)≠3:=by simpa using h
   rw[if_pos (by exact hne)]at hres
   subst hres
   ((first|refine rG Γ hm ?_|refine rD Γ hm z_ ?_);(conv=>whnf);repeat((first|refine aF ?_|refine aT ?_);(first|refine rG Γ hm ?_|refine rD Γ hm z_ ?_);conv=>whnf))
   refine Ag 4 [Aa 0,Aa 0,Aa 0,Aa 0,.sl 1 Ak [],.sl 1 Ab []] E (.cons (.refl _) (.cons (.refl _) (.cons (.refl _) (.cons (.refl _) (.cons .nil (.cons .nil .nil)))))) ?_
   exact done E (.cons (.cell E E E E) (.cons .tmp .nil)) [] [Ao 900,Bo 901] (fun _ h=>h) E E ⟨Y,⟨.inl E,E,.inl E,E,Y⟩,E,E⟩
  have hle:(W.length:Int)=3:=by simpa using h
  rw[if_neg (by rw[hle];simp[Vf])]at hres
  rw[if_neg j_,if_pos j_]at hres
  have h01:(1:Int).toNat<W.length:=by show 1<_;omega
  have h02:(2:Int).toNat<W.length:=by show 2<_;omega
  have hw1:nth W 1=W[(1:Int).toNat]:=Am h01
  have hw2:nth W 2=W[(2:Int).toNat]:=Am h02
  have hz2:=hWs _ (List.getElem_mem h02)
  rw[hw1,hw2]at hres
  have q3:=Yq (W[(2:Int).toNat]'h02) 0 999999999
  obtain ⟨w1,hw1'⟩:∃ w1,W[(1:Int).toNat]'h01=w1:=⟨_,rfl⟩
  rw[hw1']at hres
  ((first|refine rG Γ hm ?_|refine rD Γ hm z_ ?_);(conv=>whnf);repeat((first|refine aF ?_|refine aT ?_);(first|refine rG Γ hm ?_|refine rD Γ hm z_ ?_);conv=>whnf))
  refine A3 n.domains.length (fun j=>∀ i,i<j→(Ca n (i:Int) == w1)=false) (fun j=>[(2,.ref 8 (Aj n) 0),(4,.ptr 4 0),(6,.ref 1 (.sl 1 Ai W) 0),(7,.ptr 7 0)]) (fun j=>[(4,.box [Aa 0,Aa 0,Aa 0,Aa 0,.val (.slice none 0 0),.val (.slice none 0 0)]),(7,.box [Aa 3,Aa 0,Aa j,Aa 0,.val (.slice none 0 0),.val (.slice none 0 0)]),Ao 900,Bo 901]) [] (fun i hi=>absurd hi q_)
   ⟨⟨rfl,rfl,rfl,rfl,rfl,rfl,rfl,rfl,trivial⟩,⟨.inl rfl,rfl,.inl rfl,rfl,.inl rfl,rfl,.inl rfl,rfl,trivial⟩,rfl,rfl⟩ ?_
  intro j hj hI
  ((first|refine rG Γ hm ?_|refine rD Γ hm z_ ?_);(conv=>whnf);repeat((first|refine aF ?_|refine aT ?_);(first|refine rG Γ hm ?_|refine rD Γ hm z_ ?_);conv=>whnf))
  refine⟨fun h=>?_,fun h=>?_⟩
  ·have hlt:j<n.domains.length:=qA h
   have q4:=Tx n hn hnm (j:Int)
   have hsome:=@Ab1 n w1 j hlt hI
   obtain ⟨td,htd⟩:∃ td,Ca n (j:Int)=td:=⟨_,rfl⟩
   rw[htd]at q4 hsome
   ((first|refine rG Γ hm ?_|refine rD Γ hm z_ ?_);(conv=>whnf);repeat((first|refine aF ?_|refine aT ?_);(first|refine rG Γ hm ?_|refine rD Γ hm z_ ?_);conv=>whnf))
   refine cD q4 F90 ?_
   ((first|refine rG Γ hm ?_|refine rD Γ hm z_ ?_);(conv=>whnf);repeat((first|refine aF ?_|refine aT ?_);(first|refine rG Γ hm ?_|refine rD Γ hm z_ ?_);conv=>whnf))
   refine⟨E,by decide,h01,?_⟩
   rw[hw1']
   ((conv=>whnf);repeat((first|refine aF ?_|refine aT ?_);(first|refine rG Γ hm ?_|refine rD Γ hm z_ ?_);conv=>whnf))
   cases htw:(td == w1)
   ·refine⟨z_,?_⟩
    ((conv=>whnf);repeat((first|refine aF ?_|refine aT ?_);(first|refine rG Γ hm ?_|refine rD Γ hm z_ ?_);conv=>whnf))
    refine iL ?_
    ((conv=>whnf);repeat((first|refine aF ?_|refine aT ?_);(first|refine rG Γ hm ?_|refine rD Γ hm z_ ?_);conv=>whnf))
    refine A1 [] hI q_ (fun i hi=>?_) ⟨⟨E,E,E,E,E,E,E,E,Y⟩,⟨.inl E,E,.inl E,E,.inl E,E,.inl E,E,Y⟩,E,E⟩
    rcases Nat.lt_or_ge i j with h2 | h2
    ·exact hI i h2
    ·obtain rfl:i=j:=by omega
     rw[htd];exact htw
   ·rw[hsome htw,if_neg q_]at hres
    refine⟨z_,?_⟩
    ((conv=>whnf);repeat((first|refine aF ?_|refine aT ?_);(first|refine rG Γ hm ?_|refine rD Γ hm z_ ?_);conv=>whnf))
    refine⟨fun h2=>absurd h2 (by simp;omega),fun _=>?_⟩
    ((first|refine rG Γ hm ?_|refine rD Γ hm z_ ?_);(conv=>whnf);repeat((first|refine aF ?_|refine aT ?_);(first|refine rG Γ hm ?_|refine rD Γ hm z_ ?_);conv=>whnf))
    refine⟨E,by decide,h02,?_⟩
    ((conv=>whnf);repeat((first|refine aF ?_|refine aT ?_);(first|refine rG Γ hm ?_|refine rD Γ hm z_ ?_);conv=>whnf))
    refine c0 q3 F124 ?_
    obtain ⟨⟨av,aok⟩,hav⟩:∃ p,numR (W[(2:Int).toNat]'h02) 0 999999999=p:=⟨_,rfl⟩
    rw[hav]at hres ⊢
    dsimp only at hres ⊢
    cases aok
    ·rw[if_pos rfl]at hres
     subst hres
     ((first|refine rG Γ hm ?_|refine rD Γ hm z_ ?_);(conv=>whnf);repeat((first|refine aF ?_|refine aT ?_);(first|refine rG Γ hm ?_|refine rD Γ hm z_ ?_);conv=>whnf))
     refine Ag 4 [Aa 0,Aa 0,Aa 0,Aa 0,.sl 1 Ak [],.sl 1 Ab []] E (.cons (.refl _) (.cons (.refl _) (.cons (.refl _) (.cons (.refl _) (.cons .nil (.cons .nil .nil)))))) ?_
     exact done E (.cons (.cell E E E E) (.cons .tmp .nil)) [] [Ao 900,Bo 901] (fun _ h=>h) E E ⟨Y,⟨.inl E,E,.inl E,E,Y⟩,E,E⟩
    ·rw[if_neg y_]at hres
     subst hres
     ((first|refine rG Γ hm ?_|refine rD Γ hm z_ ?_);(conv=>whnf);repeat((first|refine aF ?_|refine aT ?_);(first|refine rG Γ hm ?_|refine rD Γ hm z_ ?_);conv=>whnf))
     refine Ag 4 [Aa 3,Aa 0,Aa (j:Int),Aa av,.sl 1 Ak [],.sl 1 Ab []] E (.cons (.refl _) (.cons (.refl _) (.cons (.refl _) (.cons (.refl _) (.cons .nil (.cons .nil .nil)))))) ?_
     exact done E (.cons (.cell E E E E) (.cons .tmp .nil)) [] [Ao 900,Bo 901] (fun _ h=>h) E E ⟨Y,⟨.inl E,E,.inl E,E,Y⟩,E,E⟩
  ·have hje:j=n.domains.length:=qB h
   subst hje
   rw[if_pos (Tp hI)]at hres
   ((first|refine rG Γ hm ?_|refine rD Γ hm z_ ?_);(conv=>whnf);repeat((first|refine aF ?_|refine aT ?_);(first|refine rG Γ hm ?_|refine rD Γ hm z_ ?_);conv=>whnf))
   refine⟨z_,?_⟩
   ((conv=>whnf);repeat((first|refine aF ?_|refine aT ?_);(first|refine rG Γ hm ?_|refine rD Γ hm z_ ?_);conv=>whnf))
   refine⟨fun _=>?_,fun h2=>absurd h2 y_⟩
   subst hres
   ((first|refine rG Γ hm ?_|refine rD Γ hm z_ ?_);(conv=>whnf);repeat((first|refine aF ?_|refine aT ?_);(first|refine rG Γ hm ?_|refine rD Γ hm z_ ?_);conv=>whnf))
   refine Ag 4 [Aa 0,Aa 0,Aa 0,Aa 0,.sl 1 Ak [],.sl 1 Ab []] E (.cons (.refl _) (.cons (.refl _) (.cons (.refl _) (.cons (.refl _) (.cons .nil (.cons .nil .nil)))))) ?_
   exact done E (.cons (.cell E E E E) (.cons .tmp .nil)) [] [Ao 900,Bo 901] (fun _ h=>h) E E ⟨Y,⟨.inl E,E,.inl E,E,Y⟩,E,E⟩
 ·rw[if_neg j_]at hres
  ((first|refine rG Γ hm ?_|refine rD Γ hm z_ ?_);(conv=>whnf);repeat((first|refine aF ?_|refine aT ?_);(first|refine rG Γ hm ?_|refine rD Γ hm z_ ?_);conv=>whnf))
  (repeat (first | (refine⟨fun h=>False.elim (by first | (exact absurd h j_) | (simp at h;done) | (simp at h;omega)),fun _=>?_⟩;((first|refine rG Γ hm ?_|refine rD Γ hm z_ ?_);(conv=>whnf);repeat((first|refine aF ?_|refine aT ?_);(first|refine rG Γ hm ?_|refine rD Γ hm z_ ?_);conv=>whnf))) | (refine⟨fun _=>?_,fun h=>False.elim (by first | (exact absurd h j_) | (simp at h;done) | (simp at h;omega))⟩;((first|refine rG Γ hm ?_|refine rD Γ hm z_ ?_);(conv=>whnf);repeat((first|refine aF ?_|refine aT ?_);(first|refine rG Γ hm ?_|refine rD Γ hm z_ ?_);conv=>whnf)))))
  refine I8 (GoodX.glob Γ.toTy 901 E E E E E j_ j_) E z_ ?_
  ((first|refine rG Γ hm ?_|refine rD Γ hm z_ ?_);(conv=>whnf);repeat((first|refine aF ?_|refine aT ?_);(first|refine rG Γ hm ?_|refine rD Γ hm z_ ?_);conv=>whnf))
  refine⟨z_,?_⟩
  ((conv=>whnf);repeat((first|refine aF ?_|refine aT ?_);(first|refine rG Γ hm ?_|refine rD Γ hm z_ ?_);conv=>whnf))
  refine⟨fun h=>?_,fun h=>?_⟩
  ·have hne:(W.length:Int)≠1:=by simpa using h
   rw[if_pos (by exact hne)]at hres
   subst hres
   ((first|refine rG Γ hm ?_|refine rD Γ hm z_ ?_);(conv=>whnf);repeat((first|refine aF ?_|refine aT ?_);(first|refine rG Γ hm ?_|refine rD Γ hm z_ ?_);conv=>whnf))
   refine Ag 4 [Aa 0,Aa 0,Aa 0,Aa 0,.sl 1 Ak [],.sl 1 Ab []] E (.cons (.refl _) (.cons (.refl _) (.cons (.refl _) (.cons (.refl _) (.cons .nil (.cons .nil .nil)))))) ?_
   exact done E (.cons (.cell E E E E) (.cons .tmp .nil)) [] [Ao 900,Bo 901] (fun _ h=>h) E E ⟨Y,⟨.inl E,E,.inl E,E,Y⟩,E,E⟩
  have hle:(W.length:Int)=1:=by simpa using h
  rw[if_neg (by rw[hle];simp[Vf])]at hres
  rw[if_neg j_,if_neg j_,if_pos rfl]at hres
  subst hres
  ((first|refine rG Γ hm ?_|refine rD Γ hm z_ ?_);(conv=>whnf);repeat((first|refine aF ?_|refine aT ?_);(first|refine rG Γ hm ?_|refine rD Γ hm z_ ?_);conv=>whnf))
  refine Ag 4 [Aa 4,Aa 0,Aa 0,Aa 0,.sl 1 Ak [],.sl 1 Ab []] E (.cons (.refl _) (.cons (.refl _) (.cons (.refl _) (.cons (.refl _) (.cons .nil (.cons .nil .nil)))))) ?_
  exact done E (.cons (.cell E E E E) (.cons .tmp .nil)) [] [Ao 900,Bo 901] (fun _ h=>h) E E ⟨Y,⟨.inl E,E,.inl E,E,Y⟩,E,E⟩
 ·rw[if_neg j_]at hres
  ((first|refine rG Γ hm ?_|refine rD Γ hm z_ ?_);(conv=>whnf);repeat((first|refine aF ?_|refine aT ?_);(first|refine rG Γ hm ?_|refine rD Γ hm z_ ?_);conv=>whnf))
  (repeat (first | (refine⟨fun h=>False.elim (by first | (exact absurd h j_) | (simp at h;done) | (simp at h;omega)),fun _=>?_⟩;((first|refine rG Γ hm ?_|refine rD Γ hm z_ ?_);(conv=>whnf);repeat((first|refine aF ?_|refine aT ?_);(first|refine rG Γ hm ?_|refine rD Γ hm z_ ?_);conv=>whnf))) | (refine⟨fun _=>?_,fun h=>False.elim (by first | (exact absurd h j_) | (simp at h;done) | (simp at h;omega))⟩;((first|refine rG Γ hm ?_|refine rD Γ hm z_ ?_);(conv=>whnf);repeat((first|refine aF ?_|refine aT ?_);(first|refine rG Γ hm ?_|refine rD Γ hm z_ ?_);conv=>whnf)))))
  refine I8 (GoodX.glob Γ.toTy 901 E E E E E j_ j_) E z_ ?_
  ((first|refine rG Γ hm ?_|refine rD Γ hm z_ ?_);(conv=>whnf);repeat((first|refine aF ?_|refine aT ?_);(first|refine rG Γ hm ?_|refine rD Γ hm z_ ?_);conv=>whnf))
  refine⟨z_,?_⟩
  ((conv=>whnf);repeat((first|refine aF ?_|refine aT ?_);(first|refine rG Γ hm ?_|refine rD Γ hm z_ ?_);conv=>whnf))
  refine⟨fun h=>?_,fun h=>?_⟩
  ·have hne:(W.length:Int)≠2:=by simpa using h
   rw[if_pos (by exact hne)]at hres
   subst hres
   ((first|refine rG Γ hm ?_|refine rD Γ hm z_ ?_);(conv=>whnf);repeat((first|refine aF ?_|refine aT ?_);(first|refine rG Γ hm ?_|refine rD Γ hm z_ ?_);conv=>whnf))
   refine Ag 4 [Aa 0,Aa 0,Aa 0,Aa 0,.sl 1 Ak [],.sl 1 Ab []] E (.cons (.refl _) (.cons (.refl _) (.cons (.refl _) (.cons (.refl _) (.cons .nil (.cons .nil .nil)))))) ?_
   exact done E (.cons (.cell E E E E) (.cons .tmp .nil)) [] [Ao 900,Bo 901] (fun _ h=>h) E E ⟨Y,⟨.inl E,E,.inl E,E,Y⟩,E,E⟩
  have hle:(W.length:Int)=2:=by simpa using h
  rw[if_neg (by rw[hle];simp[Vf])]at hres
  rw[if_neg j_,if_neg j_,if_neg j_]at hres
  have h01:(1:Int).toNat<W.length:=by show 1<_;omega
  have hw1:nth W 1=W[(1:Int).toNat]:=Am h01
  have hz1:=hWs _ (List.getElem_mem h01)
  rw[hw1]at hres
  have q3:=Sb n hn (W[(1:Int).toNat]'h01) q_
  have hbe:=Ad1 n.links.length (W[(1:Int).toNat]'h01)
  ((first|refine rG Γ hm ?_|refine rD Γ hm z_ ?_);(conv=>whnf);repeat((first|refine aF ?_|refine aT ?_);(first|refine rG Γ hm ?_|refine rD Γ hm z_ ?_);conv=>whnf))
  refine⟨E,by decide,h01,?_⟩
  ((conv=>whnf);repeat((first|refine aF ?_|refine aT ?_);(first|refine rG Γ hm ?_|refine rD Γ hm z_ ?_);conv=>whnf))
  refine cD q3 F125 ?_
  rw[hbe.1]
  cases hok:Wm n.links.length (W[(1:Int).toNat]'h01)
  ·rw[hok,if_pos rfl]at hres
   ((first|refine rG Γ hm ?_|refine rD Γ hm z_ ?_);(conv=>whnf);repeat((first|refine aF ?_|refine aT ?_);(first|refine rG Γ hm ?_|refine rD Γ hm z_ ?_);conv=>whnf))
   refine⟨z_,?_⟩
   ((conv=>whnf);repeat((first|refine aF ?_|refine aT ?_);(first|refine rG Γ hm ?_|refine rD Γ hm z_ ?_);conv=>whnf))
   subst hres
   refine Ag 4 [Aa 0,Aa 0,Aa 0,Aa 0,.sl 1 Ak [],.sl 1 Ab []] E (.cons (.refl _) (.cons (.refl _) (.cons (.refl _) (.cons (.refl _) (.cons .nil (.cons .nil .nil)))))) ?_
   exact done E (.cons (.cell E E E E) (.cons .tmp .nil)) [] [Ao 900,Bo 901] (fun _ h=>h) E E ⟨Y,⟨.inl E,E,.inl E,E,Y⟩,E,E⟩
  ·rw[hok,if_neg y_]at hres
   rw[hbe.2 hok]
   subst hres
   ((first|refine rG Γ hm ?_|refine rD Γ hm z_ ?_);(conv=>whnf);repeat((first|refine aF ?_|refine aT ?_);(first|refine rG Γ hm ?_|refine rD Γ hm z_ ?_);conv=>whnf))
   refine⟨z_,?_⟩
   ((conv=>whnf);repeat((first|refine aF ?_|refine aT ?_);(first|refine rG Γ hm ?_|refine rD Γ hm z_ ?_);conv=>whnf))
   refine Ag 4 [Aa 5,Aa 0,Aa 0,Aa 0,.sl 1 Ak [],.sl 1 Ab (upL (W[(1:Int).toNat]'h01))] E (.cons (.refl _) (.cons (.refl _) (.cons (.refl _) (.cons (.refl _) (.cons .nil (.cons (.refl _) .nil)))))) ?_
   exact done E (.cons (.cell E E E E) (.cons .tmp .nil)) [] [Ao 900,Bo 901] (fun _ h=>h) E E ⟨Y,⟨.inl E,E,.inl E,E,Y⟩,E,E⟩
theorem Aaa (w:ByteArray):(upL w).length≤w.size:=by
 unfold upL
 split
 ·exact Nat.zero_le _
 ·rw[List.length_map];exact Nat.le_refl _
theorem any_at3 {α:Type} {p:α→Bool} {l:List α} {j:Nat} (hj:j<l.length) (h:p l[j]=true):l.any p=true:=List.any_eq_true.2 ⟨_,List.getElem_mem hj,h⟩
theorem Ae5 {α:Type} {p:α→Bool} {l:List α} {j:Nat} (hI:Dw (fun _ x=>!(p x)) l j) (hj:l.length≤j):l.any p=false:=by
 rw[List.any_eq_false]
 intro x hx
 obtain ⟨i,hi,rfl⟩:=List.getElem_of_mem hx
 have:=hI i hi q_
 simpa using this
def Ew (x:StepM):Bool:=decide (2000<x.bytes.length) || decide (60<x.up.length)
def great33B (l:List StepM):Bool:=decide (60<l.length) || l.any Ew
theorem Ag6 (l:List StepM):Sy.Spec Tryz.prog 12 [.sl 6 Bm l] [] (Ab (great33B l)) []:=cT F12 Tryz.ntmps12 fun F hF=>by
 have hres:=great33B.eq_1 l
 generalize great33B l=res at *
 conv=>whnf
 refine⟨fun h=>?_,fun h=>?_⟩
 ·rw[decide_eq_true (qA h),Bool.true_or]at hres
  subst hres
  refine oO ?_
  exact dN
 have hl:l.length≤60:=qB h
 rw[decide_eq_false q_,Bool.false_or]at hres
 refine oO ?_
 refine A3 l.length (fun j=>Dw (fun _ x=>!(Ew x)) l j) (fun j=>[(0,.sl 6 Bm l),(3,Aa j)]) (fun _=>[]) [] (Bb _ _) ⟨⟨E,E,E,E,Y⟩,Y,E,E⟩ ?_
 intro j hj hI
 refine oO ?_
 refine⟨fun h=>?_,fun h=>?_⟩
 ·have hlt:j<l.length:=qA h
  have hj0:((j:Nat):Int).toNat<l.length:=by simpa using hlt
  have hat:=fun h=>@any_at3 _ Ew l j hlt h
  have hnx:=fun h=>A8 (p:=fun _ x=>!(Ew x)) hI hlt h
  obtain ⟨x,hx⟩:∃ x,l[((j:Nat):Int).toNat]'hj0=x:=⟨_,rfl⟩
  have hx':l[j]=x:=hx
  rw[hx']at hat hnx
  refine oO ?_
  refine⟨E,by omega,hj0,?_⟩
  rw[hx]
  conv=>whnf
  refine⟨fun h=>?_,fun h=>?_⟩
  ·rw[hat (by rw[Ew,decide_eq_true (qA h),Bool.true_or])]at hres
   subst hres
   refine oT ?_
   exact dN
  have h1:=of_decide_eq_false h
  refine oO ?_
  refine⟨E,by omega,hj0,?_⟩
  rw[hx]
  conv=>whnf
  refine⟨fun h=>?_,fun h=>?_⟩
  ·rw[hat (by rw[Ew,decide_eq_true (by have:=of_decide_eq_true h;omega:60<x.up.length),Bool.or_true])]at hres
   subst hres
   refine oO ?_
   exact dN
  have h2:=of_decide_eq_false h
  refine oO ?_
  refine iW ?_
  exact A1 [] hI q_ (hnx (by rw[Ew,decide_eq_false q_,decide_eq_false q_];rfl)) ⟨⟨E,E,E,E,Y⟩,Y,E,E⟩
 ·have hje:j=l.length:=qB h
  subst hje
  rw[Ae5 hI (Nat.le_refl _)]at hres
  subst hres
  refine oO ?_
  exact dN
theorem Un {l:List StepM} (h:great33B l=false):l.length≤60∧∀ x∈l,x.bytes.length≤2000∧x.up.length≤60:=by
 simp only[great33B,Ew,Bool.or_eq_false_iff,decide_eq_false_iff_not,List.any_eq_false,Bool.or_eq_true,decide_eq_true_eq]at h
 refine⟨by omega,fun x hx=>?_⟩
 have:=h.2 x hx
 omega
def Bk (n:Net):Nat→List StepM→List ByteArray→List StepM × Int × Int
 | _,out,[]=>(out,0,0)
 | i,out,r::rs=>if (stepT n r).2=0 then Bk n (i+1) (out++[(stepT n r).1]) rs else ([],(i:Int)+1,(stepT n r).2)
def parseT (n:Net) (b:List UInt8):List StepM × Int × Int :=
 if Ac n=false then ([],0,2) else if (rowsT b).2≠0 then ([],0,(rowsT b).2) else Bk n 0 [] (rowsT b).1
theorem Jb:∀ (l cur:List UInt8),∀ w∈B8 cur l,w.size≤cur.length+l.length
 | [],cur,w,hw=>by
  rw[B8]at hw
  split at hw
  ·cases hw
  ·simp only[List.mem_singleton]at hw
   subst hw
   rw[Cf];simp
 | c::l,cur,w,hw=>by
  rw[B8]at hw
  split at hw
  ·rcases List.mem_cons.1 hw with rfl | hw
   ·rw[Cf];simp
   ·have:=Jb l [] w hw
    simp at this ⊢;omega
  ·have:=Jb l _ w hw
   simp at this ⊢;omega
theorem Ql (b:List UInt8):(∀ w∈(rowsT b).1,w.size≤b.length)∧(rowsT b).1.length≤400∧(0≤(rowsT b).2∧(rowsT b).2≤3):=by
 unfold rowsT
 split
 ·exact⟨fun w hw=>(by cases hw),j_,j_⟩
 split
 ·exact⟨fun w hw=>(by cases hw),j_,j_⟩
 ·rename_i h1 h2
  refine⟨fun w hw=>?_,by dsimp only;omega,by dsimp only;omega⟩
  have:=Jb b [] w hw
  simpa using this
theorem Aar (n:Net) (s:ByteArray):0≤(stepT n s).2∧(stepT n s).2≤31:=by
 unfold stepT
 repeat' (first | split | (show _∧_;dsimp only;omega))
theorem Mt (n:Net):∀ (rs:List ByteArray) (i:Nat) (out:List StepM),(0≤(Bk n i out rs).2.2∧(Bk n i out rs).2.2≤31)∧(Bk n i out rs).1.length≤out.length+rs.length
 | [],i,out=>by simp[Bk]
 | r::rs,i,out=>by
  rw[Bk]
  split
  ·have:=Mt n rs (i+1) (out++[(stepT n r).1])
   refine⟨this.1,?_⟩
   have h2:=this.2
   simp only[List.length_append,List.length_cons,List.length_nil]at h2 ⊢
   omega
  ·exact⟨Aar n r,by simp⟩
theorem Eo (n:Net) (hn:n.Fin) (hnm:Hc n) (b:List UInt8) (hbl:b.length<100000) :
  Sy.Spec Tryz.prog 16 [Aj n,.sl 1 Ak b] [Ao 900,Bo 901] (.tup [.sl 6 Bm (parseT n b).1,Aa (parseT n b).2.1,Aa (parseT n b).2.2]) [Ao 900,Bo 901]:=cT F16 Tryz.ntmps16 fun F hF=>by
 have hres:=parseT.eq_1 n b
 generalize parseT n b=res at *
 have hr:=Bd n hn
 have q0:=Aeq b q_
 have hrf:=Ql b
 generalize rowsT b=rt at *
 obtain ⟨rows,re⟩:=rt
 dsimp only at hres q0 hrf
 obtain ⟨hrs,hrl,hre⟩:=hrf
 ((conv=>whnf);repeat((first|refine aF ?_|refine aT ?_);(first|refine rG Γ hm ?_|refine rD Γ hm z_ ?_);conv=>whnf))
 refine c0 hr F25 ?_
 cases hb:Ac n
 ·rw[if_pos hb]at hres
  subst hres
  ((first|refine rG Γ hm ?_|refine rD Γ hm z_ ?_);(conv=>whnf);repeat((first|refine aF ?_|refine aT ?_);(first|refine rG Γ hm ?_|refine rD Γ hm z_ ?_);conv=>whnf))
  refine Ch 4 6 Bm E ?_
  ((first|refine rG Γ hm ?_|refine rD Γ hm z_ ?_);(conv=>whnf);repeat((first|refine aF ?_|refine aT ?_);(first|refine rG Γ hm ?_|refine rD Γ hm z_ ?_);conv=>whnf))
  exact done E (.cons .tmp (.cons .tmp (.cons .tmp .nil))) [] [Ao 900,Bo 901] (fun _ h=>h) E E ⟨Y,⟨.inl E,E,.inl E,E,Y⟩,E,E⟩
 rw[if_neg (by simp[hb])]at hres
 ((first|refine rG Γ hm ?_|refine rD Γ hm z_ ?_);(conv=>whnf);repeat((first|refine aF ?_|refine aT ?_);(first|refine rG Γ hm ?_|refine rD Γ hm z_ ?_);conv=>whnf))
 refine c0 q0 F36 ?_
 refine A6 2 8 (Aj n) E E E ?_
 ((first|refine rG Γ hm ?_|refine rD Γ hm z_ ?_);(conv=>whnf);repeat((first|refine aF ?_|refine aT ?_);(first|refine rG Γ hm ?_|refine rD Γ hm z_ ?_);conv=>whnf))
 refine⟨fun h=>?_,fun h=>?_⟩
 ·have h1:re≠0:=by simpa using h
  rw[if_pos h1]at hres
  subst hres
  ((first|refine rG Γ hm ?_|refine rD Γ hm z_ ?_);(conv=>whnf);repeat((first|refine aF ?_|refine aT ?_);(first|refine rG Γ hm ?_|refine rD Γ hm z_ ?_);conv=>whnf))
  refine Ch 4 6 Bm E ?_
  ((first|refine rG Γ hm ?_|refine rD Γ hm z_ ?_);(conv=>whnf);repeat((first|refine aF ?_|refine aT ?_);(first|refine rG Γ hm ?_|refine rD Γ hm z_ ?_);conv=>whnf))
  exact done E (.cons .tmp (.cons .tmp (.cons .tmp .nil))) [] [Ao 900,Bo 901] (fun _ h=>h) E E ⟨Y,⟨.inl E,E,.inl E,E,Y⟩,E,E⟩
 have h1:re=0:=by simpa using h
 rw[if_neg (by simp[h1])]at hres
 ((first|refine rG Γ hm ?_|refine rD Γ hm z_ ?_);(conv=>whnf);repeat((first|refine aF ?_|refine aT ?_);(first|refine rG Γ hm ?_|refine rD Γ hm z_ ?_);conv=>whnf))
 refine Cb 4 1000 6 Bm E E ?_
 refine A3 rows.length (fun j=>Bk n 0 [] rows=Bk n j ((rows.take j).map (fun r=>(stepT n r).1)) (rows.drop j)) (fun j=>[(2,.ref 8 (Aj n) 0),(4,.osl 1000),(23,.sl 1 Ai rows),(24,Aa rows.length),(25,Aa j)])
  (fun j=>[(1000,.row 6 Bm ((rows.take j).map (fun r=>(stepT n r).1))),Ao 900,Bo 901]) [] rfl
  ⟨⟨rfl,rfl,rfl,rfl,rfl,rfl,rfl,rfl,rfl,rfl,trivial⟩,⟨.inl rfl,rfl,.inl rfl,rfl,.inl rfl,rfl,trivial⟩,rfl,rfl⟩ ?_
 intro j hj hI
 have hll:((rows.take j).map (fun r=>(stepT n r).1)).length=j:=by rw[List.length_map,List.length_take];omega
 ((first|refine rG Γ hm ?_|refine rD Γ hm z_ ?_);(conv=>whnf);repeat((first|refine aF ?_|refine aT ?_);(first|refine rG Γ hm ?_|refine rD Γ hm z_ ?_);conv=>whnf))
 refine⟨fun h=>?_,fun h=>?_⟩
 ·have hlt:j<rows.length:=qA h
  have hj0:((j:Nat):Int).toNat<rows.length:=by simpa using hlt
  have hdr:rows.drop j=rows[j]::rows.drop (j+1):=List.drop_eq_getElem_cons hlt
  have hsucc:(rows.take (j+1)).map (fun r=>(stepT n r).1)=(rows.take j).map (fun r=>(stepT n r).1)++[(stepT n rows[j]).1]:=by rw[List.take_succ_eq_append_getElem hlt,List.map_append];rfl
  have hsz:=hrs _ (List.getElem_mem hlt)
  have hI0:=hI
  rw[hdr,Bk]at hI
  rw[← hsucc]at hI
  obtain ⟨r,hx⟩:∃ r,rows[((j:Nat):Int).toNat]'hj0=r:=⟨_,rfl⟩
  have hx':rows[j]=r:=hx
  rw[hx']at hsucc hI hsz
  have q:=Adt n hn hb hnm r q_
  obtain ⟨out,ho⟩:∃ out,(rows.take j).map (fun r=>(stepT n r).1)=out:=⟨_,rfl⟩
  rw[ho]at hsucc hll ⊢
  obtain ⟨⟨x,e⟩,hxe⟩:∃ p,stepT n r=p:=⟨_,rfl⟩
  rw[hxe]at hsucc hI q
  dsimp only at hsucc hI q
  ((first|refine rG Γ hm ?_|refine rD Γ hm z_ ?_);(conv=>whnf);repeat((first|refine aF ?_|refine aT ?_);(first|refine rG Γ hm ?_|refine rD Γ hm z_ ?_);conv=>whnf))
  refine⟨E,by omega,hj0,?_⟩
  rw[hx]
  ((conv=>whnf);repeat((first|refine aF ?_|refine aT ?_);(first|refine rG Γ hm ?_|refine rD Γ hm z_ ?_);conv=>whnf))
  refine Aw (Ad [(900,900),(901,901)] E F37 q E ⟨E,E,Y⟩ E ⟨.inl E,.inl E,Y⟩) E E ?_
  ((first|refine rG Γ hm ?_|refine rD Γ hm z_ ?_);(conv=>whnf);repeat((first|refine aF ?_|refine aT ?_);(first|refine rG Γ hm ?_|refine rD Γ hm z_ ?_);conv=>whnf))
  refine⟨fun h2=>?_,fun h2=>?_⟩
  ·have h3:e≠0:=by simpa using h2
   rw[if_neg h3]at hI
   rw[hI]at hres
   subst hres
   ((first|refine rG Γ hm ?_|refine rD Γ hm z_ ?_);(conv=>whnf);repeat((first|refine aF ?_|refine aT ?_);(first|refine rG Γ hm ?_|refine rD Γ hm z_ ?_);conv=>whnf))
   refine iL ?_
   ((conv=>whnf);repeat((first|refine aF ?_|refine aT ?_);(first|refine rG Γ hm ?_|refine rD Γ hm z_ ?_);conv=>whnf))
   refine Ch 4 6 Bm E ?_
   exact done E (.cons .tmp (.cons .tmp (.cons .tmp .nil))) [] [Ao 900,Bo 901] (fun _ h=>h) E E ⟨Y,⟨.inl E,E,.inl E,E,Y⟩,E,E⟩
  ·have h3:e=0:=by simpa using h2
   rw[if_pos h3]at hI
   ((first|refine rG Γ hm ?_|refine rD Γ hm z_ ?_);(conv=>whnf);repeat((first|refine aF ?_|refine aT ?_);(first|refine rG Γ hm ?_|refine rD Γ hm z_ ?_);conv=>whnf))
   refine Aw (Al Γ.toTy 45 E E E E E (.row E) (.lit (e:=Bm) (l:=[x]) E E) y_ (by simp;omega) (by simp;omega)) E E ?_
   ((first|refine rG Γ hm ?_|refine rD Γ hm z_ ?_);(conv=>whnf);repeat((first|refine aF ?_|refine aT ?_);(first|refine rG Γ hm ?_|refine rD Γ hm z_ ?_);conv=>whnf))
   refine iL ?_
   ((conv=>whnf);repeat((first|refine aF ?_|refine aT ?_);(first|refine rG Γ hm ?_|refine rD Γ hm z_ ?_);conv=>whnf))
   exact A1 [(1000,45)] hI0 q_ hI ⟨⟨E,E,E,E,E,E,E,E,E,E,Y⟩,⟨.inl (congrArg (Ob.row 6 Bm) hsucc),E,.inl E,E,.inl E,E,Y⟩,E,E⟩
 ·have hje:j=rows.length:=qB h
  subst hje
  rw[List.drop_length,Bk]at hI
  rw[hI]at hres
  generalize (rows.take rows.length).map (fun r=>(stepT n r).1)=out at *
  subst hres
  refine Ae 1000 E ?_
  ((first|refine rG Γ hm ?_|refine rD Γ hm z_ ?_);(conv=>whnf);repeat((first|refine aF ?_|refine aT ?_);(first|refine rG Γ hm ?_|refine rD Γ hm z_ ?_);conv=>whnf))
  exact done E (.cons .tmp (.cons .tmp (.cons .tmp .nil))) [] [Ao 900,Bo 901] (fun _ h=>h) E E ⟨Y,⟨.inl E,E,.inl E,E,Y⟩,E,E⟩
def netM:Net:=⟨[⟨0,0,⟨#[97]⟩,0,0⟩],[⟨0,0,10,0,-1,⟨#[112]⟩,[]⟩],[],[⟨0,10,0,-1,0,[]⟩],[],[],[],[]⟩
theorem finM:netM.Fin:=by
 constructor<;>first | (unfold Aq;decide) | (intro x hx;unfold Aq;simp only[netM,List.mem_cons,List.not_mem_nil,or_false]at hx;first | (subst hx;decide) | exact hx.elim)
theorem Abe:Hc netM:=by
 refine⟨fun d hd=>?_,fun p hp=>?_⟩
 ·simp only[netM,List.mem_cons,List.not_mem_nil,or_false]at hd
  subst hd
  decide
 ·simp only[netM,List.mem_cons,List.not_mem_nil,or_false]at hp
  subst hp
  decide
def Aac:List UInt8:=[105,110,106,101,99,116,32,97,46,112,32,102,102,10,112,105,99,107,32,97,47,49,48,32,48]
def Aab:List UInt8:=[116,105,99,107,10,119,104,97,116]
def Afl:List UInt8:=[105,110,106,101,99,116,32,97,46,112,32,102,102,10,112,105,99,107,32,97,47,49,48,32,48,10]
def V7:List StepM:=[⟨1,0,0,0,[255],[]⟩,⟨2,0,0,0,[],[]⟩]
theorem Af2:parseT netM Aac=(V7,0,0):=by kernel_rfl
theorem Af1:parseT netM Aab=([],2,22):=by kernel_rfl
theorem Aid:printT netM V7=(Afl,0):=by kernel_rfl
theorem Aff:Sy.Spec Tryz.prog 10 [] [Ao 900,Bo 901] (Ab true) [Ao 900,Bo 901]:=cT F10 Tryz.ntmps10 fun F hF=>by
 have q1:=Eo netM finM Abe Aac j_
 have q2:=Io netM finM Abe V7 j_ (fun x hx=>by
  simp only[V7,List.mem_cons,List.not_mem_nil,or_false]at hx
  rcases hx with rfl | rfl<;>exact⟨by unfold El;decide,by decide,by decide⟩)
 have q3:=Eo netM finM Abe Aab j_
 rw[Af2]at q1
 rw[Aid]at q2
 rw[Af1]at q3
 dsimp only at q1 q2 q3
 ((conv=>whnf);repeat((first|refine aF ?_|refine aT ?_);(first|refine rG Γ hm ?_|refine rD Γ hm z_ ?_);conv=>whnf))
 refine Ku 11 (e:=Ar) (l:=netM.devices) E E ?_
 refine Ae 11 E ?_
 refine Ku 13 (e:=Sf) (l:=netM.ports) E E ?_
 refine Z6 13 (e':=Au) (l':=netM.ports) E E (fun M w i h1 h2 v hv=>?_) ?_
 ·show RdD M w (Au netM.ports[i]) v
  have hv:RdD M w (Sf netM.ports[i]) v:=hv
  refine Aa6 (netM.ports[i]) ?_ hv
  exact(by decide:∀ p∈netM.ports,p.tagged=[]) _ (List.getElem_mem _)
 refine Ae 13 E ?_
 refine Ku 15 (e:=Xb) (l:=netM.domains) E E ?_
 refine Z6 15 (e':=Af) (l':=netM.domains) E E (fun M w i h1 h2 v hv=>?_) ?_
 ·show RdD M w (Af netM.domains[i]) v
  have hv:RdD M w (Xb netM.domains[i]) v:=hv
  refine Vv (netM.domains[i]) ?_ hv
  exact(by decide:∀ p∈netM.domains,p.peers=[]) _ (List.getElem_mem _)
 refine Ae 15 E ?_
 refine Aw (If Γ.toTy E E E E E E E) E E ?_
 refine Ku 19 (e:=Ak) (l:=Aac) E E ?_
 refine Ae 19 E ?_
 refine G_vw 18 (Aj netM) (.agg (.cons (.refl _) (.cons (.refl _) (.cons .nil (.cons (.refl _) (.cons .nil (.cons .nil (.cons .nil (.cons .nil .nil))))))))) ?_
 ((first|refine rG Γ hm ?_|refine rD Γ hm z_ ?_);(conv=>whnf);repeat((first|refine aF ?_|refine aT ?_);(first|refine rG Γ hm ?_|refine rD Γ hm z_ ?_);conv=>whnf))
 refine Aw (Ad [(900,900),(901,901)] E F16 q1 E ⟨E,E,Y⟩ E ⟨.inl E,.inl E,Y⟩) E E ?_
 ((first|refine rG Γ hm ?_|refine rD Γ hm z_ ?_);(conv=>whnf);repeat((first|refine aF ?_|refine aT ?_);(first|refine rG Γ hm ?_|refine rD Γ hm z_ ?_);conv=>whnf))
 refine G_vw 26 (Aj netM) (.agg (.cons (.refl _) (.cons (.refl _) (.cons .nil (.cons (.refl _) (.cons .nil (.cons .nil (.cons .nil (.cons .nil .nil))))))))) ?_
 refine Aw (Ad [(900,900)] E F14 q2 E ⟨E,Y⟩ E ⟨.inl E,Y⟩) E E ?_
 ((first|refine rG Γ hm ?_|refine rD Γ hm z_ ?_);(conv=>whnf);repeat((first|refine aF ?_|refine aT ?_);(first|refine rG Γ hm ?_|refine rD Γ hm z_ ?_);conv=>whnf))
 refine Aw (If Γ.toTy E E E E E E E) E E ?_
 refine Ku 33 (e:=Ak) (l:=Aab) E E ?_
 refine Ae 33 E ?_
 refine G_vw 32 (Aj netM) (.agg (.cons (.refl _) (.cons (.refl _) (.cons .nil (.cons (.refl _) (.cons .nil (.cons .nil (.cons .nil (.cons .nil .nil))))))))) ?_
 ((first|refine rG Γ hm ?_|refine rD Γ hm z_ ?_);(conv=>whnf);repeat((first|refine aF ?_|refine aT ?_);(first|refine rG Γ hm ?_|refine rD Γ hm z_ ?_);conv=>whnf))
 refine Aw (Ad [(900,900),(901,901)] E F16 q3 E ⟨E,E,Y⟩ E ⟨.inl E,.inl E,Y⟩) E E ?_
 ((first|refine rG Γ hm ?_|refine rD Γ hm z_ ?_);(conv=>whnf);repeat((first|refine aF ?_|refine aT ?_);(first|refine rG Γ hm ?_|refine rD Γ hm z_ ?_);conv=>whnf))
 repeat (first | (refine⟨rfl,by decide,by decide,?_⟩;((conv=>whnf);repeat((first|refine aF ?_|refine aT ?_);(first|refine rG Γ hm ?_|refine rD Γ hm z_ ?_);conv=>whnf))) | (refine Aw (Cp Γ.toTy (bs:=Afl) rfl rfl rfl rfl rfl rfl rfl .sl) rfl rfl ?_;((first|refine rG Γ hm ?_|refine rD Γ hm z_ ?_);(conv=>whnf);repeat((first|refine aF ?_|refine aT ?_);(first|refine rG Γ hm ?_|refine rD Γ hm z_ ?_);conv=>whnf))) | (refine⟨fun _=>?_,fun h=>absurd h j_⟩;((first|refine rG Γ hm ?_|refine rD Γ hm z_ ?_);(conv=>whnf);repeat((first|refine aF ?_|refine aT ?_);(first|refine rG Γ hm ?_|refine rD Γ hm z_ ?_);conv=>whnf))) | (refine⟨fun h=>absurd h j_,fun _=>?_⟩;((first|refine rG Γ hm ?_|refine rD Γ hm z_ ?_);(conv=>whnf);repeat((first|refine aF ?_|refine aT ?_);(first|refine rG Γ hm ?_|refine rD Γ hm z_ ?_);conv=>whnf))))
 exact done E (.cons .tmp .nil) [] [Ao 900,Bo 901] (fun _ h=>h) E E ⟨Y,⟨.inl E,E,.inl E,E,Y⟩,E,E⟩
theorem Afo (n:Net) (s:ByteArray):(stepT n s).1.up.length≤s.size:=by
 have hd:(nth (A2 32 s) 1).size≤s.size:=by
  by_cases h:1<(A2 32 s).length
  ·rw[Am (l:=A2 32 s) (i:=1) h]
   exact Md 32 s _ (List.getElem_mem h)
  ·have:nth (A2 32 s) 1=default:=by
    simp[nth,List.getElem?_eq_none (by omega:(A2 32 s).length≤1)]
   rw[this];exact Nat.zero_le _
 have hu:=Aaa (nth (A2 32 s) 1)
 unfold stepT
 split
 ·exact Nat.zero_le _
 split
 ·exact Nat.zero_le _
 split
 ·split
  ·exact Nat.zero_le _
  split
  ·exact Nat.zero_le _
  ·exact Nat.zero_le _
 split
 ·split
  ·exact Nat.zero_le _
  split
  ·exact Nat.zero_le _
  ·exact Nat.zero_le _
 split
 ·exact Nat.zero_le _
 split
 ·exact Nat.zero_le _
 ·exact Nat.le_trans hu hd
theorem Sz (n:Net) (k:Nat):∀ (rs:List ByteArray) (i:Nat) (out:List StepM),(∀ x∈out,x.up.length≤k)→(∀ r∈rs,r.size≤k)→∀ x∈(Bk n i out rs).1,x.up.length≤k
 | [],i,out,h,_,x,hx=>by rw[Bk]at hx;exact h x hx
 | r::rs,i,out,h,hr,x,hx=>by
  rw[Bk]at hx
  split at hx
  ·refine Sz n k rs (i+1) _ (fun y hy=>?_) (fun y hy=>hr y (by simp[hy])) x hx
   simp only[List.mem_append,List.mem_singleton]at hy
   rcases hy with hy | rfl
   ·exact h y hy
   ·exact Nat.le_trans (Afo n r) (hr r y_)
  ·cases hx
theorem Wh (n:Net) (b:List UInt8):(parseT n b).1.length≤400∧∀ x∈(parseT n b).1,x.up.length≤b.length:=by
 have h:=Ql b
 unfold parseT
 split
 ·exact⟨by simp,fun x hx=>(by cases hx)⟩
 split
 ·exact⟨by simp,fun x hx=>(by cases hx)⟩
 ·have h1:=(Mt n (rowsT b).1 0 []).2
  refine⟨by simp at h1 ⊢;omega,Sz n b.length _ _ _ (fun x hx=>(by cases hx)) h.1⟩
end Go.Sy.YtjenpnjajjplkaaGreatDoor
namespace Go.Sy
open Go.ChangeShapes Go.WideShapes Go.ChangeAt Go.RowKit
theorem Y3 {P:Program} {w:World}:∀ {laid:List (String × DataW Unit)} {ps:List MemPlace},DataW.LaidVars P w laid ps→∀ {n:String} {d:DataW Unit},(n,d)∈laid →
  ∃ g t cs fuel p,P.globalNamed n=some g∧(P.globals[g]?).map (·.type)=some t∧w.var? P n=some cs∧DataW.trod (fun _=>()) P w 0 (fun _=>true) false fuel t cs.toList=some (d,p)
 | [],_,_,_,_,h=>by cases h
 | (n,d)::r,ps,⟨g,t,cs,fuel,p,q,e1,e2,e3,e4,hr,_⟩,m,d',h=>by
  rcases List.mem_cons.1 h with h | h
  ·cases h
   exact⟨g,t,cs,fuel,p,e1,e2,e3,e4⟩
  ·exact Y3 hr h
theorem Vq {P:Program} {W:World} {laid:List (String × DataW Unit)} (h:laidMetH P laid W) (hp:(laid.all fun x=>x.2.handleName?.isNone)=true) {α:Type} (f:α→DataW Unit) (val:α→Value) {n:String} {l:List α} (hx:(n,.agg (l.map f))∈laid) (hl:l≠[])
  {g:Nat} {t et:TypeId} (hg:P.globalNamed n=some g) (ht:(P.globals[g]?).map (·.type)=some t) (hu:P.underlying t=some (.array l.length et)) (hc:P.cellsOf et=1)
  (hT:∀ (a:α) (fuel:Nat) (cs:List Value) (x:DataW Unit × List MemPlace),DataW.trod (fun _=>()) P W 0 (fun _=>true) false fuel et cs=some x→x.1=f a→cs=[val a]) (hv:∀ a,(val a).oneCell'=true) (k:Nat) :
  ObOK κ0 W k (.glob l.length (.agg ((l.map val).map .val)) g):=by
 rw[MakeChecks.laidMetH_plain _ _ _ hp]at h
 obtain ⟨ps,hlv,_,_⟩:=h
 obtain ⟨g',t',cs,fuel,p,hg',ht',hvv,hd⟩:=Y3 hlv hx
 obtain rfl:=Option.some.inj (hg.symm.trans hg')
 obtain rfl:=Option.some.inj (ht.symm.trans ht')
 obtain ⟨xs,m,_,ex,hcl,hxl,hel⟩:=DataW.trod_array hu hd
 have e3:xs.map (·.1)=l.map f:=(DataW.agg.inj (Prod.mk.inj ex).1).symm
 have hcell:∀ j,j<l.length→W.cell? ⟨g,j,none⟩=(l.map val)[j]?:=fun j hj=>by
  have hE:=hel j hj
  rw[hc,Nat.mul_one,List.getElem?_eq_getElem q_]at hE
  have e4:(xs.map (·.1))[j]? = (l.map f)[j]?:=by rw[e3]
  rw[List.getElem?_map,List.getElem?_map,List.getElem?_eq_getElem (by omega:j<xs.length),List.getElem?_eq_getElem hj]at e4
  simp only[Option.map_some,Option.some.injEq]at e4
  have e5:=hT l[j] m _ _ hE e4
  rw[World.var?_cell hg hvv j]
  have h0:((cs.toList.drop j).take 1)[0]? = some (val l[j]):=by rw[e5];rfl
  rw[List.getElem?_map,List.getElem?_eq_getElem hj]
  simpa using h0
 have hpos:=List.length_pos_iff.2 hl
 have h0:=hcell 0 hpos
 rw[List.getElem?_eq_getElem (by rw[List.length_map];exact hpos)]at h0
 have hgl:g<W.heap.size:=World.block_lt_of_cell? W ⟨g,0,none⟩ h0
 have:=Aiw (W:=W) (k:=k) (g:=g) (l.map val) (fun c hc=>by
  obtain ⟨a,_,rfl⟩:=List.mem_map.1 hc
  exact hv a) hgl (fun j hj=>hcell j (by rw[List.length_map]at hj;exact hj))
 rw[List.length_map]at this
 exact this
theorem V5 {P:Program} {W:World} {et:TypeId} {k:IntKind} (he:P.underlying et=some (.int k)) (a:Int) (fuel:Nat) (cs:List Value) (x:DataW Unit × List MemPlace) (h:DataW.trod (fun _=>()) P W 0 (fun _=>true) false fuel et cs=some x) (hx:x.1=.lit (.int k a)) :
  cs=[.int k a]:=by
 obtain ⟨n,e1,e2,_⟩:=DataW.trod_int he h
 rw[e2]at hx
 simp only[DataW.lit.injEq,Lit.int.injEq,true_and]at hx
 rw[e1,hx]
theorem V4 {P:Program} {W:World} {et:TypeId} (he:P.underlying et=some .string) (a:List UInt8) (fuel:Nat) (cs:List Value) (x:DataW Unit × List MemPlace) (h:DataW.trod (fun _=>()) P W 0 (fun _=>true) false fuel et cs=some x) (hx:x.1=.lit (.string a)) :
  cs=[.string ⟨a.toArray⟩]:=by
 obtain ⟨s,e1,e2,_⟩:=DataW.trod_string he h
 rw[e2]at hx
 simp only[DataW.lit.injEq,Lit.string.injEq]at hx
 rw[e1,← hx]
end Go.Sy
namespace Go.Sy.YtjenpnjajjplkaaGreatDoor
open Go.Proofs
set_option maxRecDepth 100000
theorem Z9 {W:World} {laid:List (String × DataW Unit)} (h:laidMetH Tryz.prog laid W) (hp:(laid.all fun x=>x.2.handleName?.isNone)=true)
  (hx : ("paling/machine.verbs", .agg ([[], [105, 110, 106, 101, 99, 116], [112, 105, 99, 107], [100, 114, 111, 112], [116, 105, 99, 107], [108, 105, 110, 107, 115]].map fun s => .lit (.string s))) ∈ laid) : ObOK κ0 W 900 (Ao 900).2 :=
 Vq h hp (fun s=>.lit (.string s)) (fun s:List UInt8=>.string ⟨s.toArray⟩) hx y_ (t:=201) z_ z_ Tryz.underlying201 (et:=9) z_ (V4 Tryz.underlying9) (fun _=>rfl) 900
theorem Aeo {W:World} {laid:List (String × DataW Unit)} (h:laidMetH Tryz.prog laid W) (hp:(laid.all fun x=>x.2.handleName?.isNone)=true)
  (hx : ("paling/machine.many", .agg ([0, 3, 3, 3, 1, 2].map fun z => .lit (.int .i64 z))) ∈ laid) : ObOK κ0 W 901 (Bo 901).2 :=
 Vq h hp (fun z=>.lit (.int .i64 z)) (fun z:Int=>.int .i64 z) hx y_ (t:=207) z_ z_ Tryz.underlying207 (et:=3) z_ (V5 Tryz.underlying3) (fun _=>rfl) 901
theorem Uk {W:World} {laid:List (String × DataW Unit)} (h:laidMetH Tryz.prog laid W) (hp:(laid.all fun x=>x.2.handleName?.isNone)=true)
  (h1 : ("paling/machine.verbs", .agg ([[], [105, 110, 106, 101, 99, 116], [112, 105, 99, 107], [100, 114, 111, 112], [116, 105, 99, 107], [108, 105, 110, 107, 115]].map fun s => .lit (.string s))) ∈ laid)
  (h2 : ("paling/machine.many", .agg ([0, 3, 3, 3, 1, 2].map fun z => .lit (.int .i64 z))) ∈ laid) : Obs.ok κ0 W [Ao 900, Bo 901] := by
 intro p hp'
 simp only[List.mem_cons,List.not_mem_nil,or_false]at hp'
 rcases hp' with rfl | rfl
 ·exact Z9 h hp h1
 ·exact Aeo h hp h2
end Go.Sy.YtjenpnjajjplkaaGreatDoor
namespace Go.Sy.YtjenpnjajjplkaaGreatDoor
open Go.Proofs
attribute [local irreducible] Go.Sy.G Go.Sy.DR
set_option maxRecDepth 20000
set_option maxHeartbeats 4000000
structure Hop where
 (kind port domain addr:Int)
instance:Inhabited Hop:=⟨⟨0,0,0,0⟩⟩
def Ajl (n:Net) (d:Int):Prop:=(0≤d∧d<n.domains.length)∧Ac n=true
instance (n:Net) (d:Int):Decidable (Ajl n d):=inferInstanceAs (Decidable (_∧_))
def Ww (n:Net) (d p:Int):Option Hop:=if (linkDomT n p (nth n.domains d).vlan).2=true then some ⟨1,p,(linkDomT n p (nth n.domains d).vlan).1,0⟩ else none
def Wq (p:Int):Hop:=⟨2,0,p,0⟩
def Ajh (n:Net) (d:Int):List Hop:=(Tc n d).filterMap (Ww n d)++(nth n.domains d).peers.map Wq
def Hy (n:Net) (d:Int):List Hop:=if Ajl n d then Ajh n d else []
structure Lead where
 (to domain addr:Int)
instance:Inhabited Lead:=⟨⟨0,0,0⟩⟩
def Agu (n:Net) (irb:Int) (i:Nat):Option Lead:=if (Z1 n irb i).2=true then some ⟨i,(nth n.irbs i).domain,(Z1 n irb i).1⟩ else none
def leadsL (n:Net) (irb:Int) (j:Nat):List Lead:=(List.range j).filterMap (Agu n irb)
def Hd (n:Net) (d:Int):List Lead:=if (0≤d∧d<n.domains.length)∧0≤(nth n.domains d).irb∧Ac n=true then leadsL n (nth n.domains d).irb n.irbs.length else []
structure Fnd where
 (domain kind:Int) (hop:Hop) (ahead:Int)
instance:Inhabited Fnd:=⟨⟨0,0,default,0⟩⟩
structure Srch where
 (m0 m1:List Bool) (list:List Fnd)
def L2 (S:Srch) (d k:Int):Bool:=if k=0 then nth S.m0 d else nth S.m1 d
def Jt (S:Srch) (d k:Int) (h:Hop) (ahead:Int):Srch :=
 if k=0 then ⟨S.m0.set d.toNat true,S.m1,S.list++[⟨d,k,h,ahead⟩]⟩ else ⟨S.m0,S.m1.set d.toNat true,S.list++[⟨d,k,h,ahead⟩]⟩
def Cu (S:Srch) (d k:Int) (h:Hop) (ahead:Int):Srch:=if L2 S d k=true then S else Jt S d k h ahead
structure Srch.OK (n:Net) (S:Srch):Prop where
 l0:S.m0.length=n.domains.length
 l1:S.m1.length=n.domains.length
 at_:∀ f∈S.list,(0≤f.domain∧f.domain.toNat<n.domains.length)∧(f.kind=0∨f.kind=1)
 len:S.list.length≤S.m0.count true+S.m1.count true
theorem count_set {l:List Bool} {i:Nat} (h:i<l.length) (hi:l[i]=false):(l.set i true).count true=l.count true+1:=by
 rw[List.count_set h,hi]
 simp
theorem Srch.OK.meet {n:Net} {S:Srch} (h:S.OK n) {d k:Int} (hd:0≤d∧d.toNat<n.domains.length) (hk:k=0∨k=1) (hp:Hop) (a:Int):(Cu S d k hp a).OK n:=by
 rw[Cu]
 split
 ·exact h
 rename_i hmt
 have h0:d.toNat<S.m0.length:=by rw[h.l0];exact hd.2
 have h1:d.toNat<S.m1.length:=by rw[h.l1];exact hd.2
 rcases hk with rfl | rfl
 ·rw[L2,if_pos rfl,Am h0]at hmt
  rw[Jt,if_pos rfl]
  refine⟨by simp[h.l0],h.l1,fun f hf=>?_,?_⟩
  ·rcases List.mem_append.1 hf with hf | hf
   ·exact h.at_ f hf
   ·rw[List.mem_singleton]at hf
    subst hf
    exact⟨hd,.inl E⟩
  ·rw[count_set h0 (by simpa using hmt),List.length_append,List.length_singleton]
   have:=h.len
   show _≤_+S.m1.count true
   omega
 ·rw[L2,if_neg j_,Am h1]at hmt
  rw[Jt,if_neg j_]
  refine⟨h.l0,by simp[h.l1],fun f hf=>?_,?_⟩
  ·rcases List.mem_append.1 hf with hf | hf
   ·exact h.at_ f hf
   ·rw[List.mem_singleton]at hf
    subst hf
    exact⟨hd,.inr E⟩
  ·rw[count_set h1 (by simpa using hmt),List.length_append,List.length_singleton]
   have:=h.len
   show _≤S.m0.count true+_
   omega
theorem Tv {n:Net} (h:Ac n=true) {i:Nat} (hi:i<n.ports.length) {v:Int} (hv:Co n.ports[i] v=true):0≤Bz n n.ports[i].dev v∧(Bz n n.ports[i].dev v).toNat<n.domains.length:=by
 have hp:=Ab4 h hi
 simp only[Ic,Bool.and_eq_true,Bool.not_eq_true']at hp
 simp only[Co,Bool.and_eq_true,bne_iff_ne,Bool.or_eq_true,beq_iff_eq]at hv
 have h0:0≤Bz n n.ports[i].dev v:=by
  rcases hv.2 with h1 | h1
  ·have h2:=hp.1.2
   have h3:=hp.1.1.1.1.1.1.1.2
   rw[h1]at hv ⊢
   have h4:decide (0<n.ports[i].native)=true:=by
    simp only[decide_eq_true_eq]at h3 ⊢
    omega
   rw[h4]at h2
   simpa [Ct] using h2
  ·have h2:=hp.1.1.2
   obtain ⟨x,hx,e⟩:=List.any_eq_true.1 h1
   obtain ⟨j,hj,rfl⟩:=List.mem_iff_getElem.1 hx
   have h3:=allB_iff.1 h2 j hj
   simp only[beq_iff_eq]at e
   rw[e]at h3
   simpa [Ct] using h3
 refine⟨h0,?_⟩
 have:=M6 (fun d:Domain=>d.dev == n.ports[i].dev && d.vlan == v) n.domains
 have e:Bz n n.ports[i].dev v=Bc (fun d:Domain=>d.dev == n.ports[i].dev && d.vlan == v) n.domains:=rfl
 omega
theorem Kd {n:Net} {i v:Int} (h:(linkDomT n i v).2=true):0≤(linkDomT n i v).1∧(linkDomT n i v).1.toNat<n.domains.length:=by
 unfold linkDomT at h ⊢
 split at h
 ·rename_i hc
  rw[if_pos hc]
  have hth:=Ol hc
  unfold crossT at hc hth ⊢
  split at hc
  ·rename_i h1
   rw[if_pos h1]at hth ⊢
   have hb:=(Jc h1.1).2.1
   have h2:=h1.2.2
   rw[Sj]at h2 ⊢
   rw[Oi,if_pos hb]
   dsimp only at hth ⊢
   rw[Am hth.2]at h2 ⊢
   refine Tv hb hth.2 ?_
   simp only[Co,Bool.and_eq_true,bne_iff_ne,Bool.or_eq_true,beq_iff_eq]
   refine⟨h2,?_⟩
   split
   ·exact .inl E
   ·rename_i h3
    rw[if_neg h3]at h2
    split
    ·rename_i h4
     exact .inr h4
    ·rename_i h4
     rw[if_neg h4]at h2
     exact absurd E h2
  ·cases hc
 ·cases h
theorem Ahf {n:Net} (h:Ac n=true) {i:Nat} (hi:i<n.domains.length) {p:Int} (hp:p∈n.domains[i].peers):0≤p∧p.toNat<n.domains.length:=by
 simp only[Ac,Bool.and_eq_true]at h
 have h1:=allB_iff.1 h.1.1.1.1.1.1.2 i hi
 obtain ⟨j,hj,rfl⟩:=List.mem_iff_getElem.1 hp
 have h2:=allB_iff.1 h1 j hj
 simp only[Lm,Ah,Bool.and_eq_true,decide_eq_true_eq]at h2
 omega
theorem Kh {n:Net} {d:Int} {h:Hop} (hh:h∈Hy n d):0≤h.domain∧h.domain.toNat<n.domains.length:=by
 rw[Hy]at hh
 split at hh
 ·rename_i hd
  have hk:d.toNat<n.domains.length:=by have:=hd.1;omega
  rw[Ajh,Am hk]at hh
  rcases List.mem_append.1 hh with hh | hh
  ·obtain ⟨p,_,hp⟩:=List.mem_filterMap.1 hh
   rw[Ww]at hp
   split at hp
   ·rename_i hl
    simp only[Option.some.injEq]at hp
    subst hp
    exact Kd hl
   ·cases hp
  ·obtain ⟨p,hp,rfl⟩:=List.mem_map.1 hh
   exact Ahf hd.2 hk hp
 ·cases hh
theorem Lz {n:Net} {d:Int} {q:Lead} (hq:q∈Hd n d):0≤q.domain∧q.domain.toNat<n.domains.length:=by
 rw[Hd]at hq
 split at hq
 ·rename_i hc
  obtain ⟨i,hi,hp⟩:=List.mem_filterMap.1 hq
  rw[Agu]at hp
  split at hp
  ·simp only[Option.some.injEq]at hp
   subst hp
   have hi':((i:Nat):Int).toNat<n.irbs.length:=by simpa using hi
   show 0≤(nth n.irbs i).domain∧_
   rw[Am hi']
   exact(Zp hc.2.2 hi').1
  ·cases hp
 ·cases hq
end Go.Sy.YtjenpnjajjplkaaGreatDoor
namespace Go.Sy.YtjenpnjajjplkaaGreatDoor
open Go.Proofs
attribute [local irreducible] Go.Sy.G Go.Sy.DR
set_option maxRecDepth 20000
set_option maxHeartbeats 8000000
def ext1 (S:Srch) (k i:Int) (l:List Hop):Srch:=l.foldl (fun S h=>Cu S h.domain k h i) S
def ext2 (S:Srch) (i:Int) (l:List Lead):Srch:=l.foldl (fun S q=>Cu S q.domain 1 ⟨3,0,q.domain,q.addr⟩ i) S
def Tt (n:Net) (S:Srch) (i:Int):Srch :=
 if (nth S.list i).kind=0 then ext2 (ext1 S 0 i (Hy n (nth S.list i).domain)) i (Hd n (nth S.list i).domain) else ext1 S 1 i (Hy n (nth S.list i).domain)
theorem Srch.OK.ext1 {n:Net} {k i:Int} (hk:k=0∨k=1):∀ {l:List Hop} {S:Srch},S.OK n→(∀ h∈l,0≤h.domain∧h.domain.toNat<n.domains.length)→(ext1 S k i l).OK n
 | [],S,h,_=>h
 | x::l,S,h,hl=>Srch.OK.ext1 hk (l:=l) (h.meet (hl x y_) hk x i) (fun y hy=>hl y (by simp[hy]))
theorem Srch.OK.ext2 {n:Net} {i:Int}:∀ {l:List Lead} {S:Srch},S.OK n→(∀ h∈l,0≤h.domain∧h.domain.toNat<n.domains.length)→(ext2 S i l).OK n
 | [],S,h,_=>h
 | x::l,S,h,hl=>Srch.OK.ext2 (l:=l) (h.meet (hl x y_) (.inr rfl) _ i) (fun y hy=>hl y (by simp[hy]))
theorem Srch.OK.ext {n:Net} {S:Srch} (h:S.OK n) (i:Int):(Tt n S i).OK n:=by
 rw[Tt]
 split
 ·exact(h.ext1 (.inl E) (fun x hx=>Kh hx)).ext2 (fun x hx=>Lz hx)
 ·exact h.ext1 (.inr E) (fun x hx=>Kh hx)
def backC (l:List Fnd) (i:Int):List Hop :=
 if _h:0≤i∧(nth l i).ahead<i then (nth l i).hop::backC l (nth l i).ahead else []
 termination_by (i+1).toNat
 decreasing_by omega
def Ec (l:List Fnd) (i:Int):List Hop:=(backC l i).reverse
def Backs (l:List Fnd):Prop:=∀ i (h:i<l.length),-1≤l[i].ahead∧l[i].ahead<i
theorem Backs.snoc {l:List Fnd} (h:Backs l) {f:Fnd} (hf:-1≤f.ahead∧f.ahead<l.length):Backs (l++[f]):=fun i hi=>by
 by_cases hl:i<l.length
 ·rw[List.getElem_append_left hl]
  exact h i hl
 ·have:i=l.length:=by simp at hi;omega
  subst this
  simpa using hf
theorem Backs.meet {S:Srch} (h:Backs S.list) (d k:Int) (hp:Hop) {a:Int} (ha:-1≤a∧a<S.list.length):Backs (Cu S d k hp a).list∧S.list.length≤(Cu S d k hp a).list.length:=by
 rw[Cu]
 split
 ·exact⟨h,Nat.le_refl _⟩
 ·rw[Jt]
  split
  ·exact⟨h.snoc ha,by simp⟩
  ·exact⟨h.snoc ha,by simp⟩
theorem Backs.ext1 {k i:Int}:∀ {l:List Hop} {S:Srch},Backs S.list→(-1≤i∧i<S.list.length)→Backs (ext1 S k i l).list∧S.list.length≤(ext1 S k i l).list.length
 | [],S,h,_=>⟨h,Nat.le_refl _⟩
 | x::l,S,h,hi=>by
  obtain ⟨h1,h2⟩:=h.meet x.domain k x hi
  obtain ⟨h3,h4⟩:=Backs.ext1 (k:=k) (i:=i) (l:=l) h1 ⟨hi.1,by omega⟩
  exact⟨h3,Nat.le_trans h2 h4⟩
theorem Backs.ext2 {i:Int}:∀ {l:List Lead} {S:Srch},Backs S.list→(-1≤i∧i<S.list.length)→Backs (ext2 S i l).list∧S.list.length≤(ext2 S i l).list.length
 | [],S,h,_=>⟨h,Nat.le_refl _⟩
 | x::l,S,h,hi=>by
  obtain ⟨h1,h2⟩:=h.meet x.domain 1 ⟨3,0,x.domain,x.addr⟩ hi
  obtain ⟨h3,h4⟩:=Backs.ext2 (i:=i) (l:=l) h1 ⟨hi.1,by omega⟩
  exact⟨h3,Nat.le_trans h2 h4⟩
theorem Backs.ext {n:Net} {S:Srch} (h:Backs S.list) {i:Int} (hi:0≤i∧i<S.list.length):Backs (Tt n S i).list∧S.list.length≤(Tt n S i).list.length:=by
 rw[Tt]
 split
 ·obtain ⟨h1,h2⟩:=h.ext1 (k:=0) (i:=i) (l:=Hy n (nth S.list i).domain) ⟨by omega,hi.2⟩
  obtain ⟨h3,h4⟩:=h1.ext2 (i:=i) (l:=Hd n (nth S.list i).domain) ⟨by omega,by omega⟩
  exact⟨h3,Nat.le_trans h2 h4⟩
 ·exact h.ext1 ⟨by omega,hi.2⟩
end Go.Sy.YtjenpnjajjplkaaGreatDoor
namespace Go.Sy.YtjenpnjajjplkaaGreatDoor
open Go.Proofs
def Z5 (n:Net) (h:Hop):Prop:=(0≤h.domain∧h.domain.toNat<n.domains.length)∧0≤h.addr∧h.addr<4294967296
theorem Afb {n:Net} {irb to e:Int} (he:e<4294967296):∀ {x:Int},0≤x→0≤(addrGo n irb to e x).1∧(addrGo n irb to e x).1<4294967296:=by
 intro x
 induction x using addrGo.induct n irb to e with
 | case1 x h1 h2=>intro h0;rw[addrGo,if_pos h1,if_pos h2];exact⟨h0,by simp only;omega⟩
 | case2 x h1 h2 h3=>intro h0;rw[addrGo,if_pos h1,if_neg h2,if_pos h3];decide
 | case3 x h1 h2 h3 h4 ih=>intro h0;rw[addrGo,if_pos h1,if_neg h2,if_neg h3,if_pos h4];exact ih q_
 | case4 x h1 h2 h3 h4=>intro h0;rw[addrGo,if_pos h1,if_neg h2,if_neg h3,if_neg h4];decide
 | case5 x h1=>intro h0;rw[addrGo,if_neg h1];decide
theorem Ahv {n:Net} (hu:D0 n) (irb to:Int):0≤(Z1 n irb to).1∧(Z1 n irb to).1<4294967296:=by
 rw[Z1]
 split
 ·rename_i hc
  have hk:to.toNat<n.irbs.length:=by omega
  rw[Am hk]
  have hui:=hu _ (List.getElem_mem hk)
  exact Afb (Agv _ _ hui).2 (Aey _ _ hui).1
 ·decide
theorem Y9 {n:Net} {d:Int} {h:Hop} (hh:h∈Hy n d):Z5 n h:=by
 refine⟨Kh hh,?_⟩
 rw[Hy]at hh
 split at hh
 ·rcases List.mem_append.1 hh with hh | hh
  ·obtain ⟨p,_,hp⟩:=List.mem_filterMap.1 hh
   rw[Ww]at hp
   split at hp
   ·simp only[Option.some.injEq]at hp
    subst hp
    exact⟨by simp,by simp⟩
   ·cases hp
  ·obtain ⟨p,hp,rfl⟩:=List.mem_map.1 hh
   exact⟨by simp[Wq],by simp[Wq]⟩
 ·cases hh
theorem Wc {n:Net} (hu:D0 n) {d:Int} {q:Lead} (hq:q∈Hd n d):0≤q.addr∧q.addr<4294967296:=by
 rw[Hd]at hq
 split at hq
 ·obtain ⟨i,hi,hp⟩:=List.mem_filterMap.1 hq
  rw[Agu]at hp
  split at hp
  ·simp only[Option.some.injEq]at hp
   subst hp
   exact Ahv hu _ _
  ·cases hp
 ·cases hq
def HopsOK (n:Net) (l:List Fnd):Prop:=∀ f∈l,Z5 n f.hop
theorem HopsOK.meet {n:Net} {S:Srch} (h:HopsOK n S.list) (d k:Int) {hp:Hop} (hh:Z5 n hp) (a:Int):HopsOK n (Cu S d k hp a).list:=by
 rw[Cu]
 split
 ·exact h
 ·rw[Jt]
  split<;>(intro f hf;rcases List.mem_append.1 hf with hf | hf;exact h f hf;rw[List.mem_singleton]at hf;subst hf;exact hh)
theorem HopsOK.ext1 {n:Net} {k i:Int}:∀ {l:List Hop} {S:Srch},HopsOK n S.list→(∀ h∈l,Z5 n h)→HopsOK n (ext1 S k i l).list
 | [],S,h,_=>h
 | x::l,S,h,hl=>HopsOK.ext1 (l:=l) (h.meet x.domain k (hl x y_) i) (fun y hy=>hl y (by simp[hy]))
theorem HopsOK.ext2 {n:Net} {i:Int}:∀ {l:List Lead} {S:Srch},HopsOK n S.list→(∀ q∈l,Z5 n ⟨3,0,q.domain,q.addr⟩)→HopsOK n (ext2 S i l).list
 | [],S,h,_=>h
 | x::l,S,h,hl=>HopsOK.ext2 (l:=l) (h.meet x.domain 1 (hl x y_) i) (fun y hy=>hl y (by simp[hy]))
theorem HopsOK.ext {n:Net} (hu:D0 n) {S:Srch} (h:HopsOK n S.list) (i:Int):HopsOK n (Tt n S i).list:=by
 rw[Tt]
 split
 ·exact(h.ext1 (fun x hx=>Y9 hx)).ext2 (fun q hq=>⟨Lz hq,Wc hu hq⟩)
 ·exact h.ext1 (fun x hx=>Y9 hx)
end Go.Sy.YtjenpnjajjplkaaGreatDoor
namespace Go.Sy.YtjenpnjajjplkaaGreatDoor
open Go.Proofs
attribute [local irreducible] Go.Sy.G Go.Sy.DR
set_option maxRecDepth 20000
set_option maxHeartbeats 8000000
structure WayD where
 (hops:List Hop) (routed:Bool)
instance:Inhabited WayD:=⟨⟨[],false⟩⟩
end Go.Sy.YtjenpnjajjplkaaGreatDoor
namespace Go.Sy.YtjenpnjajjplkaaGreatDoor
open Go.Proofs
theorem S8 {α:Type} [Inhabited α] {l m:List α} {i:Int} (h:i.toNat<l.length):nth (l++m) i=nth l i:=by
 rw[nth,nth,List.getElem?_append_left h]
theorem Jq {l m:List Fnd} (hB:Backs l):∀ (k:Nat) (i:Int),i<k→i<l.length→backC (l++m) i=backC l i:=by
 intro k
 induction k with
 | zero =>
  intro i hi hl
  rw[backC,dif_neg (fun h=>by omega),backC,dif_neg (fun h=>by omega)]
 | succ k ih =>
  intro i hi hl
  by_cases h0:0≤i
  ·have hk:i.toNat<l.length:=by omega
   have hb:=hB i.toNat hk
   rw[backC,S8 hk,backC.eq_1 l i,Am hk,dif_pos ⟨h0,by omega⟩,dif_pos ⟨h0,by omega⟩]
   rw[ih _ q_ q_]
  ·rw[backC,dif_neg (fun h=>h0 h.1),backC,dif_neg (fun h=>h0 h.1)]
theorem Hj {l m:List Fnd} (hB:Backs l) {i:Int} (h:i<l.length):Ec (l++m) i=Ec l i:=by
 rw[Ec,Ec,Jq hB (i+1).toNat i q_ h]
theorem T7 {l:List Fnd} (hB:Backs l) {f:Fnd} (hf:-1≤f.ahead∧f.ahead<l.length):Ec (l++[f]) l.length=Ec l f.ahead++[f.hop]:=by
 have e:nth (l++[f]) (l.length:Int)=f:=by
  rw[Am (l:=l++[f]) (i:=(l.length:Int)) y_]
  simp
 rw[Ec,backC,e,dif_pos ⟨by omega,by omega⟩,List.reverse_cons,Jq hB (f.ahead+1).toNat _ q_ q_]
 rfl
structure Met (n:Net) (S:Srch):Prop where
 ok:S.OK n
 bk:Backs S.list
 dom:∀ f∈S.list,f.hop.domain=f.domain
 m:∀ d:Int,0≤d∧d.toNat<n.domains.length→∀ k:Int,(k=0∨k=1)→(L2 S d k=true↔∃ f∈S.list,f.domain=d∧f.kind=k)
theorem Ys {l:List Bool} {a b:Nat} (hb:b<l.length):(l.set a true)[b]? = if a=b then some true else l[b]?:=by
 rw[List.getElem?_set]
 split
 ·rename_i h;subst h;simp[hb]
 ·rfl
theorem Abg {n:Net} {S:Srch} (hS:S.OK n) {d k:Int} (hd:0≤d∧d.toNat<n.domains.length) (hk:k=0∨k=1) (h:Hop) (a:Int) (d2 k2:Int) (hd2:0≤d2∧d2.toNat<n.domains.length) (hk2:k2=0∨k2=1) :
  L2 (Jt S d k h a) d2 k2=true↔L2 S d2 k2=true∨(d2=d∧k2=k):=by
 have h0:d2.toNat<S.m0.length:=by rw[hS.l0];exact hd2.2
 have h1:d2.toNat<S.m1.length:=by rw[hS.l1];exact hd2.2
 have e:(d.toNat=d2.toNat)↔d2=d:=by omega
 rcases hk with rfl | rfl<;>rcases hk2 with rfl | rfl
 ·rw[Jt,if_pos rfl,L2,if_pos rfl,L2,if_pos rfl,nth,nth,Ys h0]
  by_cases h:d2=d
  ·rw[if_pos (e.2 h)];simp[h]
  ·rw[if_neg (fun x=>h (e.1 x))];simp[h]
 ·rw[Jt,if_pos rfl,L2,if_neg j_,L2,if_neg j_]
  simp
 ·rw[Jt,if_neg j_,L2,if_pos rfl,L2,if_pos rfl]
  simp
 ·rw[Jt,if_neg j_,L2,if_neg j_,L2,if_neg j_,nth,nth,Ys h1]
  by_cases h:d2=d
  ·rw[if_pos (e.2 h)];simp[h]
  ·rw[if_neg (fun x=>h (e.1 x))];simp[h]
theorem L3 (S:Srch) (d k:Int) (h:Hop) (a:Int):(Jt S d k h a).list=S.list++[⟨d,k,h,a⟩]:=by
 rw[Jt];split<;>rfl
theorem Met.meet {n:Net} {S:Srch} (hS:Met n S) {d k:Int} (hd:0≤d∧d.toNat<n.domains.length) (hk:k=0∨k=1) {h:Hop} (hh:h.domain=d) {a:Int} (ha:-1≤a∧a<S.list.length):Met n (Cu S d k h a) where
 ok:=hS.ok.meet hd hk h a
 bk:=(hS.bk.meet d k h ha).1
 dom:=by
  rw[Cu]
  split
  ·exact hS.dom
  ·rw[L3]
   intro f hf
   rcases List.mem_append.1 hf with h1 | h1
   ·exact hS.dom f h1
   ·rw[List.mem_singleton.1 h1];exact hh
 m:=by
  rw[Cu]
  split
  ·exact hS.m
  ·intro d2 hd2 k2 hk2
   rw[Abg hS.ok hd hk h a d2 k2 hd2 hk2,hS.m d2 hd2 k2 hk2,L3]
   constructor
   ·rintro (⟨f,hf,h1⟩ | ⟨rfl,rfl⟩)
    ·exact⟨f,List.mem_append_left _ hf,h1⟩
    ·exact⟨_,List.mem_append_right _ (List.mem_singleton.2 E),E,E⟩
   ·rintro ⟨f,hf,h1,h2⟩
    rcases List.mem_append.1 hf with h3 | h3
    ·exact .inl ⟨f,h3,h1,h2⟩
    ·rw[List.mem_singleton.1 h3]at h1 h2
     exact .inr ⟨h1.symm,h2.symm⟩
def Succ (n:Net) (x y:Int × Int):Prop:=(∃ h∈Hy n x.1,y=(h.domain,x.2))∨(x.2=0∧∃ q∈Hd n x.1,y=(q.domain,1))
def Ahw (n:Net) (p:Int) (x:Int × Int):Prop:=∃ v∈(nth n.ports p).native::(nth n.ports p).tagged,v≠0∧x=(Oi n (nth n.ports p).dev v,0)
inductive Walk (n:Net) (p:Int):Nat→Int × Int→Prop
 | start {x:Int × Int}:Ahw n p x→Walk n p 0 x
 | step {k:Nat} {x y:Int × Int}:Walk n p k x→Succ n x y→Walk n p (k+1) y
inductive HWay (n:Net) (p:Int):List Hop→Int × Int→Prop
 | start {d:Int}:Ahw n p (d,0)→HWay n p [⟨0,0,d,0⟩] (d,0)
 | hop {l:List Hop} {x:Int × Int} {h:Hop}:HWay n p l x→h∈Hy n x.1→HWay n p (l++[h]) (h.domain,x.2)
 | lead {l:List Hop} {x:Int × Int} {q:Lead}:HWay n p l x→x.2=0→q∈Hd n x.1→HWay n p (l++[⟨3,0,q.domain,q.addr⟩]) (q.domain,1)
theorem HWay.walk {n:Net} {p:Int} {l:List Hop} {x:Int × Int} (h:HWay n p l x):∃ k,l.length=k+1∧Walk n p k x:=by
 induction h with
 | start hs=>exact⟨0,rfl,.start hs⟩
 | hop _ hh ih =>
  obtain ⟨k,h1,h2⟩:=ih
  exact⟨k+1,by rw[List.length_append,h1];rfl,.step h2 (.inl ⟨_,hh,E⟩)⟩
 | lead _ h0 hq ih =>
  obtain ⟨k,h1,h2⟩:=ih
  exact⟨k+1,by rw[List.length_append,h1];rfl,.step h2 (.inr ⟨h0,_,hq,E⟩)⟩
def lnC (l:List Fnd) (i:Int):Nat:=(backC l i).length
theorem Kw {l m:List Fnd} (hB:Backs l) {i:Int} (h:i<l.length):lnC (l++m) i=lnC l i:=by
 rw[lnC,Jq hB (i+1).toNat i q_ h,lnC]
theorem Agr {l:List Fnd} (hB:Backs l) {f:Fnd} (hf:-1≤f.ahead∧f.ahead<l.length):lnC (l++[f]) (l.length:Int)=lnC l f.ahead+1:=by
 have:=congrArg List.length (T7 hB hf)
 rw[List.length_append,List.length_singleton]at this
 simpa [Ec,lnC] using this
theorem S9 {l m:List Fnd} {b:Nat} (h:b<l.length):nth (l++m) (b:Int)=nth l (b:Int):=S8 (by simpa using h)
theorem S7 (l:List Fnd) (f:Fnd):nth (l++[f]) (l.length:Int)=f:=by
 rw[Am (l:=l++[f]) (i:=(l.length:Int)) y_];simp
structure BI (n:Net) (p:Int) (S:Srch) (a:Int):Prop where
 met:Met n S
 mono:∀ b c:Nat,b≤c→c<S.list.length→lnC S.list b≤lnC S.list c
 bnd:∀ b:Nat,b<S.list.length→lnC S.list b≤lnC S.list a+1
 walk:∀ b:Nat,b<S.list.length→HWay n p (Ec S.list b) ((nth S.list b).domain,(nth S.list b).kind)
def HasB (l:List Fnd) (x:Int × Int) (m:Nat):Prop:=∃ b:Nat,b<l.length∧(nth l (b:Int)).domain=x.1∧(nth l (b:Int)).kind=x.2∧lnC l (b:Int)≤m
theorem HasB.app {l e:List Fnd} (hB:Backs l) {x:Int × Int} {m:Nat}:HasB l x m→HasB (l++e) x m:=fun ⟨b,h1,h2,h3,h4⟩ =>
 ⟨b,by rw[List.length_append];omega,by rw[S9 h1];exact h2,by rw[S9 h1];exact h3,by rw[Kw hB q_];exact h4⟩
theorem BI.meet {n:Net} {p:Int} {S:Srch} {a:Int} (h:BI n p S a) (ha:-1≤a∧a<S.list.length) {d k:Int} (hd:0≤d∧d.toNat<n.domains.length) (hk:k=0∨k=1) {hp:Hop} (hh:hp.domain=d) (hw:HWay n p (Ec S.list a++[hp]) (d,k)) :
  BI n p (Cu S d k hp a) a∧HasB (Cu S d k hp a).list (d,k) (lnC S.list a+1)∧∃ e,(Cu S d k hp a).list=S.list++e:=by
 have hm:=h.met.meet hd hk hh ha
 have hB:=h.met.bk
 cases hb:L2 S d k with
 | true =>
  have e:Cu S d k hp a=S:=by rw[Cu,if_pos hb]
  rw[e]
  refine⟨h,?_,[],by simp⟩
  obtain ⟨f,hf,f1,f2⟩:=(h.met.m d hd k hk).1 hb
  obtain ⟨b,hbl,rfl⟩:=List.getElem_of_mem hf
  have e2:nth S.list (b:Int)=S.list[b]:=Am (l:=S.list) (i:=((b:Nat):Int)) hbl
  exact⟨b,hbl,by rw[e2];exact f1,by rw[e2];exact f2,h.bnd b hbl⟩
 | false =>
  have e:(Cu S d k hp a).list=S.list++[⟨d,k,hp,a⟩]:=by rw[Cu,if_neg (by rw[hb];decide),L3]
  have hlast:=Agr hB (f:=⟨d,k,hp,a⟩) ha
  have hla:lnC (S.list++[⟨d,k,hp,a⟩]) a=lnC S.list a:=Kw hB ha.2
  have hlen:(S.list++[(⟨d,k,hp,a⟩:Fnd)]).length=S.list.length+1:=by simp
  dsimp only at hlast
  have hcase:∀ b:Nat,b<(S.list++[(⟨d,k,hp,a⟩:Fnd)]).length→(b<S.list.length∧lnC (S.list++[⟨d,k,hp,a⟩]) (b:Int)=lnC S.list (b:Int))∨(b=S.list.length∧lnC (S.list++[⟨d,k,hp,a⟩]) (b:Int)=lnC S.list a+1):=fun b hb=>by
   by_cases hl:b<S.list.length
   ·exact .inl ⟨hl,Kw hB q_⟩
   ·have:b=S.list.length:=by omega
    subst this
    exact .inr ⟨E,hlast⟩
  refine⟨⟨hm,?_,?_,?_⟩,?_,[⟨d,k,hp,a⟩],e⟩
  ·rw[e]
   intro b c hbc hc
   rcases hcase c hc with ⟨c1,c2⟩ | ⟨c1,c2⟩<;>rcases hcase b q_ with ⟨b1,b2⟩ | ⟨b1,b2⟩
   ·rw[c2,b2];exact h.mono b c hbc c1
   ·omega
   ·rw[c2,b2];exact h.bnd b b1
   ·rw[c2,b2];exact Nat.le_refl _
  ·rw[e]
   intro b hb
   rw[hla]
   rcases hcase b hb with ⟨b1,b2⟩ | ⟨b1,b2⟩
   ·rw[b2];exact h.bnd b b1
   ·rw[b2];exact Nat.le_refl _
  ·rw[e]
   intro b hb
   rcases hcase b hb with ⟨b1,_⟩ | ⟨b1,_⟩
   ·rw[Hj hB q_,S9 b1];exact h.walk b b1
   ·subst b1
    rw[T7 hB (f:=⟨d,k,hp,a⟩) ha,S7]
    exact hw
  ·rw[e]
   exact⟨S.list.length,by omega,by rw[S7],by rw[S7],by rw[hlast];exact Nat.le_refl _⟩
theorem BI.ext1 {n:Net} {p:Int} {a k:Int} (hk:k=0∨k=1):∀ {l:List Hop} {S:Srch},BI n p S a→(-1≤a∧a<S.list.length)→(∀ h∈l,(0≤h.domain∧h.domain.toNat<n.domains.length)∧HWay n p (Ec S.list a++[h]) (h.domain,k)) →
  BI n p (Go.Sy.YtjenpnjajjplkaaGreatDoor.ext1 S k a l) a∧(∀ h∈l,HasB (Go.Sy.YtjenpnjajjplkaaGreatDoor.ext1 S k a l).list (h.domain,k) (lnC S.list a+1))∧∃ e,(Go.Sy.YtjenpnjajjplkaaGreatDoor.ext1 S k a l).list=S.list++e
 | [],S,h,_,_=>⟨h,fun _ hx=>(by cases hx),[],by simp[Go.Sy.YtjenpnjajjplkaaGreatDoor.ext1]⟩
 | x::l,S,h,ha,hl=>by
  obtain ⟨x1,x2⟩:=hl x y_
  obtain ⟨m1,m2,e,m3⟩:=h.meet ha x1 hk (hp:=x) rfl x2
  have hla:lnC (Cu S x.domain k x a).list a=lnC S.list a:=by rw[m3];exact Kw h.met.bk ha.2
  have hba:Ec (Cu S x.domain k x a).list a=Ec S.list a:=by rw[m3];exact Hj h.met.bk ha.2
  obtain ⟨i1,i2,e2,i3⟩:=BI.ext1 hk (l:=l) m1 ⟨ha.1,by rw[m3,List.length_append];omega⟩ (fun y hy=>by rw[hba];exact hl y (by simp[hy]))
  refine⟨i1,fun y hy=>?_,e++e2,?_⟩
  ·rcases List.mem_cons.1 hy with rfl | hy
   ·show HasB (Go.Sy.YtjenpnjajjplkaaGreatDoor.ext1 (Cu S y.domain k y a) k a l).list _ _
    rw[i3]
    exact m2.app m1.met.bk
   ·have:=i2 y hy
    rw[hla]at this
    exact this
  ·show (Go.Sy.YtjenpnjajjplkaaGreatDoor.ext1 (Cu S x.domain k x a) k a l).list=_
   rw[i3,m3,List.append_assoc]
theorem BI.ext2 {n:Net} {p:Int} {a:Int}:∀ {l:List Lead} {S:Srch},BI n p S a→(-1≤a∧a<S.list.length)→(∀ h∈l,(0≤h.domain∧h.domain.toNat<n.domains.length)∧HWay n p (Ec S.list a++[⟨3,0,h.domain,h.addr⟩]) (h.domain,1)) →
  BI n p (Go.Sy.YtjenpnjajjplkaaGreatDoor.ext2 S a l) a∧(∀ h∈l,HasB (Go.Sy.YtjenpnjajjplkaaGreatDoor.ext2 S a l).list (h.domain,1) (lnC S.list a+1))∧∃ e,(Go.Sy.YtjenpnjajjplkaaGreatDoor.ext2 S a l).list=S.list++e
 | [],S,h,_,_=>⟨h,fun _ hx=>(by cases hx),[],by simp[Go.Sy.YtjenpnjajjplkaaGreatDoor.ext2]⟩
 | x::l,S,h,ha,hl=>by
  obtain ⟨x1,x2⟩:=hl x y_
  obtain ⟨m1,m2,e,m3⟩:=h.meet ha x1 (.inr rfl) (hp:=⟨3,0,x.domain,x.addr⟩) rfl x2
  have hla:lnC (Cu S x.domain 1 ⟨3,0,x.domain,x.addr⟩ a).list a=lnC S.list a:=by rw[m3];exact Kw h.met.bk ha.2
  have hba:Ec (Cu S x.domain 1 ⟨3,0,x.domain,x.addr⟩ a).list a=Ec S.list a:=by rw[m3];exact Hj h.met.bk ha.2
  obtain ⟨i1,i2,e2,i3⟩:=BI.ext2 (l:=l) m1 ⟨ha.1,by rw[m3,List.length_append];omega⟩ (fun y hy=>by rw[hba];exact hl y (by simp[hy]))
  refine⟨i1,fun y hy=>?_,e++e2,?_⟩
  ·rcases List.mem_cons.1 hy with rfl | hy
   ·show HasB (Go.Sy.YtjenpnjajjplkaaGreatDoor.ext2 (Cu S y.domain 1 ⟨3,0,y.domain,y.addr⟩ a) a l).list _ _
    rw[i3]
    exact m2.app m1.met.bk
   ·have:=i2 y hy
    rw[hla]at this
    exact this
  ·show (Go.Sy.YtjenpnjajjplkaaGreatDoor.ext2 (Cu S x.domain 1 ⟨3,0,x.domain,x.addr⟩ a) a l).list=_
   rw[i3,m3,List.append_assoc]
theorem BI.ext {n:Net} {p:Int} {S:Srch} {i:Nat} (h:BI n p S (i:Int)) (hi:i<S.list.length) :
  BI n p (Tt n S (i:Int)) (i:Int)∧(∀ y,Succ n ((nth S.list (i:Int)).domain,(nth S.list (i:Int)).kind) y→HasB (Tt n S (i:Int)).list y (lnC S.list (i:Int)+1))∧∃ e,(Tt n S (i:Int)).list=S.list++e:=by
 have hw:=h.walk i hi
 have ha:-1≤(i:Int)∧(i:Int)<S.list.length:=⟨by omega,by omega⟩
 have hkk:=(h.met.ok.at_ _ (show nth S.list (i:Int)∈S.list by rw[Am (l:=S.list) (i:=(i:Int)) (by simpa using hi)];exact List.getElem_mem _)).2
 rw[Tt]
 by_cases h0:(nth S.list (i:Int)).kind=0
 ·rw[if_pos h0]
  obtain ⟨i1,i2,e,i3⟩:=h.ext1 (k:=0) (.inl rfl) (l:=Hy n (nth S.list (i:Int)).domain) ha (fun x hx=>⟨Kh hx,by have:=HWay.hop hw (h:=x) hx;dsimp only at this;rw[h0]at this;exact this⟩)
  have hba:Ec (Go.Sy.YtjenpnjajjplkaaGreatDoor.ext1 S 0 (i:Int) (Hy n (nth S.list (i:Int)).domain)).list (i:Int)=Ec S.list (i:Int):=by rw[i3];exact Hj h.met.bk ha.2
  have hla:lnC (Go.Sy.YtjenpnjajjplkaaGreatDoor.ext1 S 0 (i:Int) (Hy n (nth S.list (i:Int)).domain)).list (i:Int)=lnC S.list (i:Int):=by rw[i3];exact Kw h.met.bk ha.2
  obtain ⟨j1,j2,e2,j3⟩:=i1.ext2 (l:=Hd n (nth S.list (i:Int)).domain) ⟨ha.1,by rw[i3,List.length_append];omega⟩ (fun x hx=>⟨Lz hx,by rw[hba];exact HWay.lead hw h0 hx⟩)
  refine⟨j1,?_,e++e2,by rw[j3,i3,List.append_assoc]⟩
  rintro y (⟨x,hx,rfl⟩ | ⟨_,q,hq,rfl⟩)
  ·have:=i2 x hx
   rw[j3]
   rw[h0]
   exact this.app i1.met.bk
  ·have:=j2 q hq
   rw[hla]at this
   exact this
 ·have h1:(nth S.list (i:Int)).kind=1:=hkk.resolve_left h0
  rw[if_neg h0]
  obtain ⟨i1,i2,e,i3⟩:=h.ext1 (k:=1) (.inr rfl) (l:=Hy n (nth S.list (i:Int)).domain) ha (fun x hx=>⟨Kh hx,by have:=HWay.hop hw (h:=x) hx;dsimp only at this;rw[h1]at this;exact this⟩)
  refine⟨i1,?_,e,i3⟩
  rintro y (⟨x,hx,rfl⟩ | ⟨h2,_⟩)
  ·rw[h1]
   exact i2 x hx
  ·exact absurd h2 h0
structure SI (n:Net) (p to:Int) (S:Srch) (i:Nat):Prop where
 met:Met n S
 mono:∀ b c:Nat,b≤c→c<S.list.length→lnC S.list b≤lnC S.list c
 bnd:i<S.list.length→∀ b:Nat,b<S.list.length→lnC S.list b≤lnC S.list i+1
 walk:∀ b:Nat,b<S.list.length→HWay n p (Ec S.list b) ((nth S.list b).domain,(nth S.list b).kind)
 succ:∀ j:Nat,j<i→j<S.list.length→∀ y,Succ n ((nth S.list (j:Int)).domain,(nth S.list (j:Int)).kind) y→HasB S.list y (lnC S.list (j:Int)+1)
 start:∀ y,Ahw n p y→HasB S.list y 1
 goal:∀ j:Nat,j<i→j<S.list.length→inB (Tc n (nth S.list (j:Int)).domain) to=false
theorem SI.far {n:Net} {p to:Int} {S:Srch} {i M:Nat} (h:SI n p to S i) (hP:∀ b:Nat,b<S.list.length→lnC S.list (b:Int)≤M→b<i):∀ (m:Nat) (x:Int × Int),Walk n p m x→m≤M→HasB S.list x (m+1)
 | 0,x,hw,_=>by
  cases hw with
  | start hs=>exact h.start x hs
 | m+1,x,hw,hm=>by
  cases hw with
  | step hw hs =>
   rename_i y
   obtain ⟨b,b1,b2,b3,b4⟩:=h.far hP m y hw q_
   obtain ⟨c,c1,c2,c3,c4⟩:=h.succ b (hP b b1 q_) b1 x (by rw[b2,b3];exact hs)
   exact⟨c,c1,c2,c3,by omega⟩
theorem SI.none {n:Net} {p to:Int} {S:Srch} {i M:Nat} (h:SI n p to S i) (hP:∀ b:Nat,b<S.list.length→lnC S.list (b:Int)≤M→b<i) {m:Nat} {x:Int × Int} (hw:Walk n p m x) (hg:inB (Tc n x.1) to=true):M≤m:=by
 by_cases hm:m<M
 ·obtain ⟨b,b1,b2,b3,b4⟩:=h.far hP m x hw q_
  have:=h.goal b (hP b b1 q_) b1
  rw[b2,hg]at this
  cases this
 ·omega
def emptyN:Net:=⟨[],[],[],[],[],[],[],[]⟩
def fitsB (n:Net) (l:LineM) (k:Int):Bool:=l.kind == k && (B4 l && Ac n)
def A7 (n:Net) (s:ByteArray):Int:=Bc (fun d:Device=>d.name == s) n.devices
def Jx (n:Net) (dev:Int) (s:ByteArray):Int:=Bc (fun p:Port=>p.dev == dev && p.name == s) n.ports
def V2 (n:Net) (dev:Int) (s:ByteArray):Int:=Bc (fun v:Vrf=>v.dev == dev && v.name == s) n.vrfs
def putDevice (n:Net) (l:LineM):Net × Int :=
 if fitsB n l 1=false then (emptyN,2) else if n.devices.any (fun d=>d.name == l.dev || d.mac == l.mac)=true then (emptyN,30) else if n.devices.length=8 then (emptyN,3)
 else ({ n with devices:=n.devices++[⟨l.row,l.num,l.dev,l.mac,0⟩] },0)
def Bh (dev:Int) (ds:List Domain) (v:Int):List Domain:=if 0<v∧ds.any (fun d=>d.dev == dev && d.vlan == v)=false then ds++[⟨dev,v,0,-1,0,[]⟩] else ds
def As (dev:Int) (ds:List Domain) (l:List Int):List Domain:=l.foldl (Bh dev) ds
def putPort (n:Net) (l:LineM):Net × Int :=
 if fitsB n l 2=false then (emptyN,2) else if A7 n l.dev<0 then (emptyN,31) else if 0≤Jx n (A7 n l.dev) l.port then (emptyN,30) else if n.ports.length=40 then (emptyN,3)
 else if 48<(As (A7 n l.dev) n.domains (l.vlan::l.tagged)).length then (emptyN,3)
 else ({ n with ports:=n.ports++[⟨l.row,A7 n l.dev,l.vlan,l.cost,-1,l.port,l.tagged⟩],domains:=As (A7 n l.dev) n.domains (l.vlan::l.tagged) },0)
def endI (n:Net) (dev port:ByteArray):Int:=if A7 n dev<0 then -1 else Jx n (A7 n dev) port
def Cd (l:List Port) (i k:Int):List Port:=l.set i.toNat { nth l i with link:=k }
def putLink (n:Net) (l:LineM):Net × Int :=
 if fitsB n l 3=false then (emptyN,2) else
 let a:=endI n l.dev l.port
 let b:=endI n l.peer l.far
 if a<0∨b<0 then (emptyN,31) else if (nth n.ports a).dev=(nth n.ports b).dev∨0≤(nth n.ports a).link∨0≤(nth n.ports b).link then (emptyN,33) else if n.links.length=20 then (emptyN,3)
 else ({ n with ports:=Cd (Cd n.ports a n.links.length) b n.links.length,links:=n.links++[⟨l.row,a,b⟩] },0)
def W8 (n:Net) (d mac:Int):Int:=Bc (fun s:Static=>s.domain == d && s.mac == mac) n.statics
def putStatic (n:Net) (l:LineM):Net × Int :=
 if fitsB n l 4=false then (emptyN,2) else
 let dev:=A7 n l.dev
 let port:=Jx n dev l.port
 let dom:=Bz n dev l.vlan
 if dev<0∨port<0 then (emptyN,31) else if dom<0∨Co (nth n.ports port) l.vlan=false then (emptyN,32) else if 0≤W8 n dom l.mac then (emptyN,30) else if n.statics.length=64 then (emptyN,3)
 else ({ n with statics:=n.statics++[⟨l.row,dom,port,l.mac⟩] },0)
def Cm (n:Net) (a:Int):Int:=Bc (fun d:Device=>d.vtep == a) n.devices
def Is (n:Net) (dev vni:Int):Int:=Bc (fun d:Domain=>d.dev == dev && (d.vni == vni && vni != 0)) n.domains
def Dl (n:Net) (dev vni:Int):Int:=Bc (fun f:Flood=>f.dev == dev && f.vni == vni) n.floods
def begT (n:Net) (l:LineM) (k:Int):Int × Int:=if fitsB n l k=false then (0,2) else if A7 n l.dev<0 then (0,31) else (A7 n l.dev,0)
def Ht (l:List Device) (i a:Int):List Device:=l.set i.toNat { nth l i with vtep:=a }
def putVtep (n:Net) (l:LineM):Net × Int :=
 if (begT n l 5).2≠0 then (emptyN,(begT n l 5).2) else
 let dev:=(begT n l 5).1
 if (nth n.devices dev).vtep≠0∨0≤Cm n l.addr then (emptyN,30) else ({ n with devices:=Ht n.devices dev l.addr },0)
def putVni (n:Net) (l:LineM):Net × Int :=
 if (begT n l 6).2≠0 then (emptyN,(begT n l 6).2) else
 let dev:=(begT n l 6).1
 let at_:=Bz n dev l.vlan
 if (nth n.devices dev).vtep=0 then (emptyN,35) else if at_<0 then (emptyN,32) else if (nth n.domains at_).vni≠0∨0≤Is n dev l.num then (emptyN,30)
 else ({ n with domains:=n.domains.set at_.toNat { nth n.domains at_ with vni:=l.num,row:=l.row } },0)
def putFlood (n:Net) (l:LineM):Net × Int :=
 if (begT n l 7).2≠0 then (emptyN,(begT n l 7).2) else
 let dev:=(begT n l 7).1
 if Is n dev l.num<0 then (emptyN,31) else if 0≤Dl n dev l.num then (emptyN,30) else if inB l.addrs (nth n.devices dev).vtep=true then (emptyN,36) else if n.floods.length=48 then (emptyN,3)
 else ({ n with floods:=n.floods++[⟨l.row,dev,l.num,l.addrs⟩] },0)
def putVrf (n:Net) (l:LineM):Net × Int :=
 if (begT n l 8).2≠0 then (emptyN,(begT n l 8).2) else
 let dev:=(begT n l 8).1
 if 0≤V2 n dev l.name then (emptyN,30) else if n.vrfs.length=16 then (emptyN,3)
 else ({ n with vrfs:=n.vrfs++[⟨l.row,dev,l.name,l.imports,l.exports⟩] },0)
def O4 (a bits x:Int):Bool:=decide (0≤bits) && (decide (bits≤32) && Ea a bits == Ea x bits)
def clashB (n:Net) (dev a bits:Int) (x:Irb):Bool:=x.addr == a || ((nth n.vrfs x.vrf).dev != dev && (O4 x.addr x.bits a || O4 a bits x.addr))
def putIrb (n:Net) (l:LineM):Net × Int :=
 if (begT n l 9).2≠0 then (emptyN,(begT n l 9).2) else
 let dev:=(begT n l 9).1
 let vrf:=V2 n dev l.name
 let at_:=Bz n dev l.vlan
 if vrf<0 then (emptyN,31) else if at_<0 then (emptyN,32) else if 0≤(nth n.domains at_).irb∨n.irbs.any (clashB n dev l.addr l.bits)=true then (emptyN,37)
 else ({ n with domains:=n.domains.set at_.toNat { nth n.domains at_ with irb:=n.irbs.length },irbs:=n.irbs++[⟨l.row,at_,vrf,l.addr,l.bits⟩] },0)
def putT (n:Net) (l:LineM):Net × Int :=
 if l.kind=1 then putDevice n l else if l.kind=2 then putPort n l else if l.kind=3 then putLink n l else if l.kind=4 then putStatic n l else if l.kind=5 then putVtep n l
 else if l.kind=6 then putVni n l else if l.kind=7 then putFlood n l else if l.kind=8 then putVrf n l else if l.kind=9 then putIrb n l else (emptyN,2)
def agreeA (n:Net) (f:Flood) (a:Int):Bool :=
 let dev:=Cm n a
 decide (0≤dev) && (a != 0 && (decide (0≤Is n dev f.vni) && (decide (0≤Dl n dev f.vni) &&
  (inB (nth n.floods (Dl n dev f.vni)).addrs (nth n.devices f.dev).vtep && f.addrs.all fun b=>b == a || inB (nth n.floods (Dl n dev f.vni)).addrs b))))
def agreesB (n:Net) (f:Flood):Bool:=decide (0≤Is n f.dev f.vni) && f.addrs.all (agreeA n f)
def peersT (n:Net) (d:Domain):List Int:=if d.vni≠0∧0≤Dl n d.dev d.vni then (nth n.floods (Dl n d.dev d.vni)).addrs.map (fun a=>Is n (Cm n a) d.vni) else []
def A5 (n:Net):Net:={ n with domains:=n.domains.map fun d=>{ d with peers:=peersT n d } }
def meshNT (n:Net):Net × Int × Int :=
 if Ac n=false then (emptyN,0,2) else match n.floods.find? (fun f=>!(agreesB n f)) with
 | some f=>(emptyN,f.row,36)
 | none=>if Ac (A5 n)=false then (emptyN,0,36) else (A5 n,0,0)
def Bw (f:List Int):Prop:=∀ i (h:i<f.length),0≤f[i]∧f[i]≤i
def Xu:Nat→List Int→Int→List Int × Int
 | 0,f,i=>(f,i)
 | k+1,f,i=>if nth f i=i then (f,i) else Xu k (f.set i.toNat (nth f (nth f i))) (nth f (nth f i))
def E3 (f:List Int) (i:Int):List Int × Int:=Xu (i.toNat+1) f i
def Lu (f:List Int) (a b:Int):List Int × Bool :=
 let x:=E3 f a
 let y:=E3 x.1 b
 (y.1.set (max x.2 y.2).toNat (min x.2 y.2),x.2 != y.2)
def H6 (k:Nat):List Int:=(List.range k).map fun i:Nat=>(i:Int)
def B7 (n:Net) (f:List Int) (i:Int) (v:Int):List Int:=if (linkDomT n i v).2=true then (Lu f (Bz n (nth n.ports i).dev v) (linkDomT n i v).1).1 else f
def Dr (n:Net) (f:List Int) (i:Nat):List Int:=((nth n.ports i).tagged++[(nth n.ports i).native]).foldl (fun f v=>B7 n f i v) f
def Kx (n:Net) (f:List Int):List Int:=(List.range n.ports.length).foldl (Dr n) f
def Uj:Int→List Int→Int
 | m,[]=>m
 | m,x::l=>Uj (min m x) l
def Yv (l:List Int):Int:=Uj (nth l 0) (l.drop 1)
def Je (n:Net):List Int→Nat→List Domain→Int × Bool
 | _,_,[]=>(0,false)
 | f,i,d::r=>if d.peers=[] then Je n f (i+1) r else
  let x:=Lu f i ((n.domains.length:Int)+min (i:Int) (Yv d.peers))
  if x.2=false then (d.row,true) else Je n x.1 (i+1) r
def loopT (n:Net):Int × Bool:=if Ac n=false then (0,false) else Je n (Kx n (H6 (2 * n.domains.length))) 0 n.domains
def finishT (n:Net):Net × Int × Int:=if (meshNT n).2.2≠0 then meshNT n else if (loopT (meshNT n).1).2=true then (emptyN,(loopT (meshNT n).1).1,38) else ((meshNT n).1,0,0)
def Bn:Net→List LineM→Net × Int × Int
 | n,[]=>finishT n
 | n,l::r=>if (putT n l).2≠0 then (emptyN,l.row,(putT n l).2) else Bn (putT n l).1 r
def B6 (l:List LineM):Net × Int × Int:=Bn emptyN l
theorem Da {α:Type} [Inhabited α] (l:List α) (x:α) {i:Int} (h:i.toNat<l.length):nth (l++[x]) i=nth l i:=by
 rw[nth,nth,List.getElem?_append_left h]
theorem Cj {α:Type} [Inhabited α] (l:List α) (x:α):nth (l++[x]) (l.length:Int)=x:=by
 rw[nth,Int.toNat_natCast,List.getElem?_append_right (Nat.le_refl _),Nat.sub_self];rfl
theorem place_iff {i:Int} {k:Nat}:Ah i k=true↔0≤i∧i<k:=by simp[Ah]
theorem C2 {α:Type} [Inhabited α] (l:List α) (x:α) {i:Int} {j:Nat} (h:i.toNat≠j):nth (l.set j x) i=nth l i:=by
 rw[nth,nth,List.getElem?_set_ne (fun e=>h e.symm)]
theorem Mv {α:Type} [Inhabited α] (l:List α) (x:α) {j:Nat} (h:j<l.length):nth (l.set j x) (j:Int)=x:=by
 rw[nth,Int.toNat_natCast,List.getElem?_set_self h];rfl
theorem De {α:Type} [Inhabited α] (l:List α) {i:Int} {j:Nat} (h:i.toNat=j):nth l i=nth l (j:Int):=by
 rw[nth,nth,h,Int.toNat_natCast]
theorem Ig {α:Type} [Inhabited α] (l:List α) (i:Nat) (h:i<l.length):l[i]=nth l (i:Int):=(Am (i:=(i:Int)) h).symm
structure NetR (n:Net):Prop where
 few:Zj n=true
 bare:∀ i:Nat,i<n.domains.length→Kq n i (nth n.domains i)=true
 peers:∀ i:Nat,i<n.domains.length→Il n i (nth n.domains i)=true
 port:∀ i:Nat,i<n.ports.length→Ic n i (nth n.ports i)=true
 link:∀ i:Nat,i<n.links.length→Qu n i (nth n.links i)=true
 static:∀ i:Nat,i<n.statics.length→H9 n (nth n.statics i)=true
 flood:∀ i:Nat,i<n.floods.length→H1 n (nth n.floods i)=true
 vrf:∀ i:Nat,i<n.vrfs.length→Xo n (nth n.vrfs i)=true
 irb:∀ i:Nat,i<n.irbs.length→Um n i (nth n.irbs i)=true
theorem T9 {α:Type} [Inhabited α] {p:Nat→α→Bool} {l:List α}:Dj p l=true↔∀ i:Nat,i<l.length→p i (nth l i)=true:=by
 rw[allB_iff]
 constructor
 ·intro h i hi
  rw[← Ig l i hi];exact h i hi
 ·intro h i hi
  rw[Ig l i hi];exact h i hi
theorem netR_iff {n:Net}:Ac n=true↔NetR n:=by
 simp only[Ac,Bool.and_eq_true,T9]
 constructor
 ·rintro ⟨⟨⟨⟨⟨⟨⟨⟨a,b⟩,c⟩,d⟩,e⟩,f⟩,g⟩,h⟩,i⟩
  exact⟨a,b,c,d,e,f,g,h,i⟩
 ·rintro ⟨a,b,c,d,e,f,g,h,i⟩
  exact⟨⟨⟨⟨⟨⟨⟨⟨a,b⟩,c⟩,d⟩,e⟩,f⟩,g⟩,h⟩,i⟩
theorem peerB_iff {n:Net} {i:Nat} {d:Domain} {k:Int}:Lm n i d k=true↔Ah k n.domains.length=true∧k≠i∧Ah (nth n.domains k).dev n.devices.length=true∧(nth n.domains k).dev≠d.dev∧(nth n.domains k).vni=d.vni∧d.vni≠0∧Hp n (nth n.domains k)=true∧Hp n d=true∧inB (nth n.domains k).peers i=true:=by
 simp only[Lm,Bool.and_eq_true,bne_iff_ne,beq_iff_eq,ne_eq]
 constructor
 ·rintro ⟨⟨⟨⟨⟨⟨⟨⟨a,b⟩,c⟩,d⟩,e⟩,f⟩,g⟩,h⟩,i⟩
  exact⟨a,b,c,d,e,f,g,h,i⟩
 ·rintro ⟨a,b,c,d,e,f,g,h,i⟩
  exact⟨⟨⟨⟨⟨⟨⟨⟨a,b⟩,c⟩,d⟩,e⟩,f⟩,g⟩,h⟩,i⟩
theorem Ep {n m:Net} {i:Nat} {d e:Domain} (hd:e.peers=d.peers) (h:Il n i d=true) (hp:∀ k,Lm n i d k=true→Lm m i e k=true):Il m i e=true:=by
 rw[Il,hd]
 rw[Il]at h
 rw[T9]at h ⊢
 intro j hj
 have:=h j hj
 rw[Bool.and_eq_true]at this ⊢
 exact⟨hp _ this.1,this.2⟩
theorem bareB_iff {n:Net} {i:Nat} {d:Domain}:Kq n i d=true↔Ah d.dev n.devices.length=true∧(1≤d.vlan∧d.vlan≤4094)∧(0≤d.vni∧d.vni≤16777215)∧(d.irb=-1∨Ah d.irb n.irbs.length=true∧(nth n.irbs d.irb).domain=i)∧Bz n d.dev d.vlan=i:=by
 simp only[Kq,Bool.and_eq_true,Bool.or_eq_true,decide_eq_true_eq,beq_iff_eq]
 constructor
 ·rintro ⟨⟨⟨⟨⟨⟨a,b⟩,c⟩,d⟩,e⟩,f⟩,g⟩
  exact⟨a,⟨b,c⟩,⟨d,e⟩,f,g⟩
 ·rintro ⟨a,⟨b,c⟩,⟨d,e⟩,f,g⟩
  exact⟨⟨⟨⟨⟨⟨a,b⟩,c⟩,d⟩,e⟩,f⟩,g⟩
theorem portB_iff {n:Net} {i:Nat} {p:Port}:Ic n i p=true↔Ah p.dev n.devices.length=true∧(0≤p.native∧p.native≤4094)∧Li p.tagged 4094=true∧inB p.tagged p.native=false∧¬ (p.native=0∧p.tagged=[])∧(∀ v∈p.tagged,0≤Bz n p.dev v) ∧
  (0<p.native→0≤Bz n p.dev p.native)∧(p.link=-1∨Ah p.link n.links.length=true∧((nth n.links p.link).a=i∨(nth n.links p.link).b=i)):=by
 have e:Dj (fun _ v=>decide (0≤Bz n p.dev v)) p.tagged=true↔∀ v∈p.tagged,0≤Bz n p.dev v:=by
  rw[allB_iff]
  simp only[decide_eq_true_eq]
  constructor
  ·intro h v hv
   obtain ⟨j,hj,rfl⟩:=List.mem_iff_getElem.1 hv
   exact h j hj
  ·intro h j hj
   exact h _ (List.getElem_mem hj)
 simp only[Ic,Ct]
 simp only[Bool.and_eq_true,Bool.or_eq_true,e,Bool.not_eq_eq_eq_not,Bool.not_true,Bool.and_eq_false_imp,decide_eq_true_eq,decide_eq_false_iff_not,beq_iff_eq,Li,List.length_eq_zero_iff]
 constructor
 ·rintro ⟨⟨⟨⟨⟨⟨⟨⟨a,b⟩,c⟩,d⟩,e⟩,f⟩,g⟩,h⟩,i⟩
  refine⟨a,⟨b,c⟩,d,e,fun x=>f x.1 x.2,g,fun x=>?_,i⟩
  simpa using h x
 ·rintro ⟨a,⟨b,c⟩,d,e,f,g,h,i⟩
  refine⟨⟨⟨⟨⟨⟨⟨⟨a,b⟩,c⟩,d⟩,e⟩,fun x y=>f ⟨x,y⟩⟩,g⟩,fun x=>?_⟩,i⟩
  simpa using h x
theorem linkB_iff {n:Net} {i:Nat} {l:Link}:Qu n i l=true↔Ah l.a n.ports.length=true∧Ah l.b n.ports.length=true∧(nth n.ports l.a).dev≠(nth n.ports l.b).dev∧(nth n.ports l.a).link=i∧(nth n.ports l.b).link=i:=by
 simp only[Qu,Bool.and_eq_true,bne_iff_ne,beq_iff_eq,ne_eq,and_assoc]
theorem staticB_iff {n:Net} {s:Static}:H9 n s=true↔Ah s.domain n.domains.length=true∧Ah s.port n.ports.length=true∧(nth n.ports s.port).dev=(nth n.domains s.domain).dev∧Co (nth n.ports s.port) (nth n.domains s.domain).vlan=true:=by
 simp only[H9,Bool.and_eq_true,beq_iff_eq,and_assoc]
theorem irbB_iff {n:Net} {i:Nat} {x:Irb}:Um n i x=true↔Ah x.domain n.domains.length=true∧Ah x.vrf n.vrfs.length=true∧(nth n.domains x.domain).dev=(nth n.vrfs x.vrf).dev∧(nth n.domains x.domain).irb=i∧1≤x.bits∧x.bits≤30:=by
 simp only[Um,Bool.and_eq_true,beq_iff_eq,decide_eq_true_eq,and_assoc]
theorem floodB_iff {n:Net} {f:Flood}:H1 n f=true↔Ah f.dev n.devices.length=true∧f.addrs.length≤16:=by simp[H1]
theorem vrfB_iff {n:Net} {v:Vrf}:Xo n v=true↔Ah v.dev n.devices.length=true∧Li v.imports 65535=true∧Li v.exports 65535=true:=by simp[Xo,and_assoc]
theorem few_iff {n:Net}:Zj n=true↔n.devices.length≤8∧n.ports.length≤40∧n.links.length≤20∧n.domains.length≤48∧n.statics.length≤64∧n.floods.length≤48∧n.vrfs.length≤16∧n.irbs.length≤48:=by
 simp[Zj,and_assoc]
theorem C6 {i:Int} {k m:Nat} (h:Ah i k=true) (hkm:k≤m):Ah i m=true:=by
 rw[place_iff]at h ⊢;omega
theorem Xg {n:Net} (h:NetR n) (x:Device) (hx:n.devices.length<8):NetR { n with devices:=n.devices++[x] }:=by
 have hp:∀ {i:Int},Ah i n.devices.length=true→Ah i (n.devices++[x]).length=true:=fun h=>C6 h y_
 have hv:∀ d:Domain,Ah d.dev n.devices.length=true→Hp { n with devices:=n.devices++[x] } d=Hp n d:=fun d hd=>by
  have:=place_iff.1 hd
  simp only[Hp]
  rw[Da _ _ q_]
 refine⟨?_,fun i hi=>?_,fun i hi=>?_,fun i hi=>?_,h.link,h.static,fun i hi=>?_,fun i hi=>?_,h.irb⟩
 ·have:=few_iff.1 h.few
  exact few_iff.2 (by simp only[List.length_append,List.length_singleton];omega)
 ·have:=bareB_iff.1 (h.bare i hi)
  exact bareB_iff.2 ⟨hp this.1,this.2⟩
 ·have hb:=(bareB_iff.1 (h.bare i hi)).1
  refine Ep E (h.peers i hi) fun k hk=>?_
  obtain ⟨a,b,c,d,e,f,g,q,r⟩:=peerB_iff.1 hk
  exact peerB_iff.2 ⟨a,b,hp c,d,e,f,(hv _ c).trans g,(hv _ hb).trans q,r⟩
 ·have:=portB_iff.1 (h.port i hi)
  exact portB_iff.2 ⟨hp this.1,this.2⟩
 ·have:=floodB_iff.1 (h.flood i hi)
  exact floodB_iff.2 ⟨hp this.1,this.2⟩
 ·have:=vrfB_iff.1 (h.vrf i hi)
  exact vrfB_iff.2 ⟨hp this.1,this.2⟩
theorem V8 {n:Net} (h:NetR n) (x:Static) (hx:H9 n x=true) (hl:n.statics.length<64):NetR { n with statics:=n.statics++[x] }:=by
 refine⟨?_,h.bare,h.peers,h.port,h.link,fun i hi=>?_,h.flood,h.vrf,h.irb⟩
 ·have:=few_iff.1 h.few
  exact few_iff.2 (by simp only[List.length_append,List.length_singleton];omega)
 ·simp only[List.length_append,List.length_singleton]at hi
  by_cases e:i<n.statics.length
  ·rw[show nth (n.statics++[x]) (i:Int)=nth n.statics (i:Int) from Da _ _ e]
   exact h.static i e
  ·rw[show i=n.statics.length by omega,Cj]
   exact hx
theorem Zf {n:Net} (h:NetR n) (x:Flood) (hx:H1 n x=true) (hl:n.floods.length<48):NetR { n with floods:=n.floods++[x] }:=by
 refine⟨?_,h.bare,h.peers,h.port,h.link,h.static,fun i hi=>?_,h.vrf,h.irb⟩
 ·have:=few_iff.1 h.few
  exact few_iff.2 (by simp only[List.length_append,List.length_singleton];omega)
 ·simp only[List.length_append,List.length_singleton]at hi
  by_cases e:i<n.floods.length
  ·rw[show nth (n.floods++[x]) (i:Int)=nth n.floods (i:Int) from Da _ _ e]
   exact h.flood i e
  ·rw[show i=n.floods.length by omega,Cj]
   exact hx
theorem Adg {n:Net} (h:NetR n) (x:Vrf) (hx:Xo n x=true) (hl:n.vrfs.length<16):NetR { n with vrfs:=n.vrfs++[x] }:=by
 refine⟨?_,h.bare,h.peers,h.port,h.link,h.static,h.flood,fun i hi=>?_,fun i hi=>?_⟩
 ·have:=few_iff.1 h.few
  exact few_iff.2 (by simp only[List.length_append,List.length_singleton];omega)
 ·simp only[List.length_append,List.length_singleton]at hi
  by_cases e:i<n.vrfs.length
  ·rw[show nth (n.vrfs++[x]) (i:Int)=nth n.vrfs (i:Int) from Da _ _ e]
   exact h.vrf i e
  ·rw[show i=n.vrfs.length by omega,Cj]
   exact hx
 ·obtain ⟨a,b,c,d,e⟩:=irbB_iff.1 (h.irb i hi)
  have hb:=place_iff.1 b
  exact irbB_iff.2 ⟨a,C6 b y_,by rw[show nth (n.vrfs++[x]) (nth n.irbs (i:Int)).vrf=nth n.vrfs (nth n.irbs (i:Int)).vrf from Da _ _ q_];exact c,d,e⟩
theorem Z8 {n:Net} (h:NetR n) (j:Nat) (a:Int) (ha:a≠0):NetR { n with devices:=n.devices.set j { nth n.devices j with vtep:=a } }:=by
 have hp:(n.devices.set j { nth n.devices j with vtep:=a }).length=n.devices.length:=List.length_set
 have hv:∀ d:Domain,Hp n d=true→Hp { n with devices:=n.devices.set j { nth n.devices j with vtep:=a } } d=true:=fun d hd=>by
  simp only[Hp,bne_iff_ne,ne_eq]at hd ⊢
  by_cases e:d.dev.toNat=j
  ·by_cases hl:j<n.devices.length
   ·have:nth (n.devices.set j { nth n.devices j with vtep:=a }) d.dev={ nth n.devices j with vtep:=a }:=by
     rw[nth,e,List.getElem?_set_self hl];rfl
    rw[this];exact ha
   ·rw[List.set_eq_of_length_le q_];exact hd
  ·rw[C2 _ _ e];exact hd
 refine⟨?_,fun i hi=>?_,fun i hi=>?_,fun i hi=>?_,h.link,h.static,fun i hi=>?_,fun i hi=>?_,h.irb⟩
 ·have:=few_iff.1 h.few
  exact few_iff.2 (by rw[hp];exact this)
 ·have:=bareB_iff.1 (h.bare i hi)
  exact bareB_iff.2 ⟨by rw[hp];exact this.1,this.2⟩
 ·refine Ep E (h.peers i hi) fun k hk=>?_
  obtain ⟨a,b,c,d,e,f,g,q,r⟩:=peerB_iff.1 hk
  exact peerB_iff.2 ⟨a,b,by rw[hp];exact c,d,e,f,hv _ g,hv _ q,r⟩
 ·have:=portB_iff.1 (h.port i hi)
  exact portB_iff.2 ⟨by rw[hp];exact this.1,this.2⟩
 ·have:=floodB_iff.1 (h.flood i hi)
  exact floodB_iff.2 ⟨by rw[hp];exact this.1,this.2⟩
 ·have:=vrfB_iff.1 (h.vrf i hi)
  exact vrfB_iff.2 ⟨by rw[hp];exact this.1,this.2⟩
theorem Tj {α:Type} (p:α→Bool) (l:List α) (j:Nat) (x:α) (h:∀ y,l[j]? = some y→p x=p y):Bc p (l.set j x)=Bc p l:=by
 have e:(l.set j x).findIdx? p=l.findIdx? p:=by
  induction l generalizing j with
  | nil=>rfl
  | cons z l ih =>
   cases j with
   | zero =>
    rw[List.set_cons_zero,List.findIdx?_cons,List.findIdx?_cons,h z rfl]
   | succ j =>
    rw[List.set_cons_succ,List.findIdx?_cons,List.findIdx?_cons,ih j (fun y hy=>h y (by simpa using hy))]
 rw[Bc,Bc,e]
theorem Zr {n:Net} {j:Nat} (hj:j<n.domains.length) (x:Domain) (h1:x.dev=(nth n.domains j).dev) (h2:x.vlan=(nth n.domains j).vlan) (m:Net) (hm:m.domains=n.domains.set j x) (dev vlan:Int):Bz m dev vlan=Bz n dev vlan:=by
 rw[Bz,hm,Tj _ _ _ _ (fun y hy=>?_)]
 ·rfl
 ·rw[List.getElem?_eq_getElem hj]at hy
  simp only[Option.some.injEq]at hy
  rw[Ig _ _ hj]at hy
  rw[← hy,h1,h2]
theorem Dz {α:Type} [Inhabited α] (l:List α) (x:α) (j:Nat) (i:Int) (f:α→Int) (hf:f x=f (nth l j)) (hj:j<l.length):f (nth (l.set j x) i)=f (nth l i):=by
 by_cases e:i.toNat=j
 ·have:nth (l.set j x) i=x:=by rw[nth,e,List.getElem?_set_self hj];rfl
  have h2:nth l i=nth l (j:Int):=De _ e
  rw[this,h2,hf]
 ·rw[C2 _ _ e]
theorem Adh {n:Net} (h:NetR n) (j:Nat) (hj:j<n.domains.length) (h0:(nth n.domains j).vni=0) (v r:Int) (hv:0≤v∧v≤16777215):NetR { n with domains:=n.domains.set j { nth n.domains j with vni:=v,row:=r } }:=by
 have hl:(n.domains.set j { nth n.domains j with vni:=v,row:=r }).length=n.domains.length:=List.length_set
 have hdom:=Zr (n:=n) hj { nth n.domains j with vni:=v,row:=r } rfl rfl { n with domains:=n.domains.set j { nth n.domains j with vni:=v,row:=r } } rfl
 have hdev:=fun i=>Dz n.domains { nth n.domains j with vni:=v,row:=r } j i Domain.dev rfl hj
 have hvl:=fun i=>Dz n.domains { nth n.domains j with vni:=v,row:=r } j i Domain.vlan rfl hj
 have hir:=fun i=>Dz n.domains { nth n.domains j with vni:=v,row:=r } j i Domain.irb rfl hj
 have hne:∀ i:Nat,i≠j→nth (n.domains.set j { nth n.domains j with vni:=v,row:=r }) (i:Int)=nth n.domains (i:Int):=fun i hi=>C2 _ _ (by rw[Int.toNat_natCast];exact hi)
 refine⟨?_,fun i hi=>?_,fun i hi=>?_,fun i hi=>?_,h.link,fun i hi=>?_,h.flood,h.vrf,fun i hi=>?_⟩
 ·have:=few_iff.1 h.few
  exact few_iff.2 (by rw[hl];exact this)
 ·rw[hl]at hi
  obtain ⟨a,b,c,d,e⟩:=bareB_iff.1 (h.bare i hi)
  refine bareB_iff.2 ⟨by rw[hdev];exact a,by rw[hvl];exact b,?_,by rw[hir];exact d,by rw[hdom,hdev,hvl];exact e⟩
  by_cases ij:i=j
  ·subst ij
   show 0≤(nth (n.domains.set i { nth n.domains i with vni:=v,row:=r }) (i:Int)).vni∧(nth (n.domains.set i { nth n.domains i with vni:=v,row:=r }) (i:Int)).vni≤_
   rw[Mv _ _ hj];exact hv
  ·rw[hne i ij];exact c
 ·rw[hl]at hi
  have hpi:=h.peers i hi
  by_cases ij:i=j
  ·subst ij
   rw[Mv _ _ hj]
   have:(nth n.domains (i:Int)).peers=[]:=by
    cases hp:(nth n.domains (i:Int)).peers with
    | nil=>rfl
    | cons k r =>
     rw[Il,hp,T9]at hpi
     have:=hpi 0 y_
     rw[Bool.and_eq_true]at this
     exact absurd h0 (peerB_iff.1 this.1).2.2.2.2.2.1
   rw[Il]
   dsimp only
   rw[this]
   rfl
  ·rw[hne i ij]
   refine Ep E hpi fun k hk=>?_
   obtain ⟨a,b,c,d,e,f,g,q,rr⟩:=peerB_iff.1 hk
   have hk:=place_iff.1 a
   have kj:k.toNat≠j:=fun kj=>by
    have:nth n.domains k=nth n.domains (j:Int):=De _ kj
    rw[this,h0]at e
    exact f e.symm
   have hkn:nth (n.domains.set j { nth n.domains j with vni:=v,row:=r }) k=nth n.domains k:=C2 _ _ kj
   exact peerB_iff.2 ⟨by rw[hl];exact a,b,by rw[hkn];exact c,by rw[hkn];exact d,by rw[hkn];exact e,f,by rw[hkn];exact g,q,by rw[hkn];exact rr⟩
 ·obtain ⟨a,b,c,d,e,f,g,q⟩:=portB_iff.1 (h.port i hi)
  exact portB_iff.2 ⟨a,b,c,d,e,fun v hv=>by rw[hdom];exact f v hv,fun hv=>by rw[hdom];exact g hv,q⟩
 ·obtain ⟨a,b,c,d⟩:=staticB_iff.1 (h.static i hi)
  exact staticB_iff.2 ⟨by rw[hl];exact a,b,by rw[hdev];exact c,by rw[hvl];exact d⟩
 ·obtain ⟨a,b,c,d,e⟩:=irbB_iff.1 (h.irb i hi)
  exact irbB_iff.2 ⟨by rw[hl];exact a,b,by rw[hdev];exact c,by rw[hir];exact d,e⟩
theorem Aeu {n:Net} (h:NetR n) (j:Nat) (hj:j<n.domains.length) (h0:(nth n.domains j).irb<0) (x:Irb) (hx:x.domain=j) (hv:Ah x.vrf n.vrfs.length=true) (hd:(nth n.domains j).dev=(nth n.vrfs x.vrf).dev) (hb:1≤x.bits∧x.bits≤30) :
  NetR { n with domains:=n.domains.set j { nth n.domains j with irb:=n.irbs.length },irbs:=n.irbs++[x] }:=by
 have hl:(n.domains.set j { nth n.domains j with irb:=n.irbs.length }).length=n.domains.length:=List.length_set
 have hdom:=Zr (n:=n) hj { nth n.domains j with irb:=n.irbs.length } rfl rfl { n with domains:=n.domains.set j { nth n.domains j with irb:=n.irbs.length },irbs:=n.irbs++[x] } rfl
 have hdev:=fun i=>Dz n.domains { nth n.domains j with irb:=n.irbs.length } j i Domain.dev rfl hj
 have hvl:=fun i=>Dz n.domains { nth n.domains j with irb:=n.irbs.length } j i Domain.vlan rfl hj
 have hvn:=fun i=>Dz n.domains { nth n.domains j with irb:=n.irbs.length } j i Domain.vni rfl hj
 have hpe:∀ i,(nth (n.domains.set j { nth n.domains j with irb:=n.irbs.length }) i).peers=(nth n.domains i).peers:=fun i=>by
  by_cases e:i.toNat=j
  ·have:nth (n.domains.set j { nth n.domains j with irb:=n.irbs.length }) i={ nth n.domains j with irb:=n.irbs.length }:=by rw[nth,e,List.getElem?_set_self hj];rfl
   have h2:nth n.domains i=nth n.domains (j:Int):=De _ e
   rw[this,h2]
  ·rw[C2 _ _ e]
 have hne:∀ i:Nat,i≠j→nth (n.domains.set j { nth n.domains j with irb:=n.irbs.length }) (i:Int)=nth n.domains (i:Int):=fun i hi=>C2 _ _ (by rw[Int.toNat_natCast];exact hi)
 have hself:nth (n.domains.set j { nth n.domains j with irb:=n.irbs.length }) (j:Int)={ nth n.domains j with irb:=n.irbs.length }:=Mv _ _ hj
 have hfew:n.irbs.length<48:=by
  have hf:=few_iff.1 h.few
  refine Nat.lt_of_lt_of_le ?_ hf.2.2.2.1
  have inj:∀ a b:Nat,a<n.irbs.length→b<n.irbs.length→(nth n.irbs (a:Int)).domain=(nth n.irbs (b:Int)).domain→a=b:=fun a b ha hb e=>by
   have h1:=(irbB_iff.1 (h.irb a ha)).2.2.2.1
   have h2:=(irbB_iff.1 (h.irb b hb)).2.2.2.1
   rw[e,h2]at h1
   omega
  have hsub:((List.range n.irbs.length).map fun a:Nat=>(nth n.irbs (a:Int)).domain.toNat).length≤((List.range n.domains.length).erase j).length:=by
   refine List.Nodup.length_le_of_subset ?_ ?_
   ·rw[List.nodup_iff_pairwise_ne,List.pairwise_map]
    refine List.Pairwise.imp_of_mem ?_ List.pairwise_lt_range
    intro a b ha hb hab e
    have ha:=List.mem_range.1 ha
    have hb:=List.mem_range.1 hb
    have p1:=place_iff.1 (irbB_iff.1 (h.irb a ha)).1
    have p2:=place_iff.1 (irbB_iff.1 (h.irb b hb)).1
    have:=inj a b ha hb q_
    omega
   ·intro y hy
    obtain ⟨a,ha,rfl⟩:=List.mem_map.1 hy
    have ha:=List.mem_range.1 ha
    have p1:=place_iff.1 (irbB_iff.1 (h.irb a ha)).1
    have p2:=(irbB_iff.1 (h.irb a ha)).2.2.2.1
    rw[List.mem_erase_of_ne]
    ·exact List.mem_range.2 q_
    ·intro e
     have:nth n.domains (nth n.irbs (a:Int)).domain=nth n.domains (j:Int):=De _ e
     rw[this]at p2
     omega
  rw[List.length_map,List.length_range,List.length_erase_of_mem (List.mem_range.2 hj),List.length_range]at hsub
  omega
 refine⟨?_,fun i hi=>?_,fun i hi=>?_,fun i hi=>?_,h.link,fun i hi=>?_,h.flood,h.vrf,fun i hi=>?_⟩
 ·have:=few_iff.1 h.few
  exact few_iff.2 (by rw[hl];simp only[List.length_append,List.length_singleton];omega)
 ·rw[hl]at hi
  obtain ⟨a,b,c,d,e⟩:=bareB_iff.1 (h.bare i hi)
  refine bareB_iff.2 ⟨by rw[hdev];exact a,by rw[hvl];exact b,by rw[hvn];exact c,?_,by rw[hdom,hdev,hvl];exact e⟩
  by_cases ij:i=j
  ·subst ij
   rw[hself]
   refine .inr ⟨place_iff.2 (by simp;omega),?_⟩
   show (nth (n.irbs++[x]) (n.irbs.length:Int)).domain=_
   rw[Cj,hx]
  ·rw[hne i ij]
   rcases d with d | ⟨d1,d2⟩
   ·exact .inl d
   ·have:=place_iff.1 d1
    exact .inr ⟨C6 d1 y_,by rw[show nth (n.irbs++[x]) (nth n.domains (i:Int)).irb=nth n.irbs (nth n.domains (i:Int)).irb from Da _ _ q_];exact d2⟩
 ·rw[hl]at hi
  refine Ep (hpe _) (h.peers i hi) fun k hk=>?_
  obtain ⟨a,b,c,d,e,f,g,q,r⟩:=peerB_iff.1 hk
  have hvt:∀ k,Hp { n with domains:=n.domains.set j { nth n.domains j with irb:=n.irbs.length },irbs:=n.irbs++[x] } (nth (n.domains.set j { nth n.domains j with irb:=n.irbs.length }) k)=Hp n (nth n.domains k):=fun k=>by
   simp only[Hp];rw[hdev]
  exact peerB_iff.2 ⟨by rw[hl];exact a,b,by rw[hdev];exact c,by rw[hdev,hdev];exact d,by rw[hvn,hvn];exact e,by rw[hvn];exact f,(hvt k).trans g,(hvt i).trans q,by rw[hpe];exact r⟩
 ·obtain ⟨a,b,c,d,e,f,g,q⟩:=portB_iff.1 (h.port i hi)
  exact portB_iff.2 ⟨a,b,c,d,e,fun v hv=>by rw[hdom];exact f v hv,fun hv=>by rw[hdom];exact g hv,q⟩
 ·obtain ⟨a,b,c,d⟩:=staticB_iff.1 (h.static i hi)
  exact staticB_iff.2 ⟨by rw[hl];exact a,b,by rw[hdev];exact c,by rw[hvl];exact d⟩
 ·simp only[List.length_append,List.length_singleton]at hi
  by_cases e:i<n.irbs.length
  ·rw[show nth (n.irbs++[x]) (i:Int)=nth n.irbs (i:Int) from Da _ _ e]
   obtain ⟨a,b,c,d,e⟩:=irbB_iff.1 (h.irb i e)
   have pa:=place_iff.1 a
   have hdj:(nth n.irbs (i:Int)).domain.toNat≠j:=fun e=>by
    have:nth n.domains (nth n.irbs (i:Int)).domain=nth n.domains (j:Int):=De _ e
    rw[this]at d
    omega
   have hk:nth (n.domains.set j { nth n.domains j with irb:=n.irbs.length }) (nth n.irbs (i:Int)).domain=nth n.domains (nth n.irbs (i:Int)).domain:=C2 _ _ hdj
   exact irbB_iff.2 ⟨by rw[hl];exact a,b,by rw[hk];exact c,by rw[hk];exact d,e⟩
  ·rw[show i=n.irbs.length by omega,Cj]
   refine irbB_iff.2 ⟨by rw[hl];exact place_iff.2 q_,hv,?_,?_,hb⟩
   ·rw[hx,hself];exact hd
   ·rw[hx,hself]
theorem H5 (a b:ByteArray):(a == b)=true↔a=b:=by
 cases a
 cases b
 rename_i x y
 show (x == y)=true↔_
 rw[beq_iff_eq]
 simp
theorem Ac9 {n:Net} (hr:Ac n=true) {d:Int} (hd:0≤d∧d.toNat<n.domains.length):Bz n (nth n.domains d).dev (nth n.domains d).vlan=d:=by
 rw[Am hd.2,(bareB_iff.1 (Ajk hr hd.2)).2.2.2.2]
 exact Int.toNat_of_nonneg hd.1
inductive Path (n:Net):Nat→Int→Int→Prop
 | nil (d:Int):Path n 0 d d
 | snoc {k:Nat} {d e:Int} {h:Hop}:Path n k d e→h∈Hy n e→Path n (k+1) d h.domain
theorem Path.cons {n:Net} {d:Int} {h:Hop} (hh:h∈Hy n d):∀ {k:Nat} {e:Int},Path n k h.domain e→Path n (k+1) d e:=by
 intro k e hp
 generalize hx:h.domain=x at hp
 induction hp with
 | nil=>subst hx;exact .snoc (.nil d) hh
 | snoc _ hg ih=>exact .snoc (ih hx) hg
theorem idxI_nonneg {α:Type} {p:α→Bool} {l:List α}:0≤Bc p l↔l.any p=true:=by
 rw[List.any_eq_true]
 constructor
 ·intro h
  cases hf:l.findIdx? p with
  | none=>simp only[Bc,hf]at h;omega
  | some i =>
   rw[List.findIdx?_eq_some_iff_getElem]at hf
   obtain ⟨h1,h2,_⟩:=hf
   exact⟨l[i],List.getElem_mem h1,h2⟩
 ·rintro ⟨x,hx,hp⟩
  cases hf:l.findIdx? p with
  | none =>
   rw[List.findIdx?_eq_none_iff]at hf
   rw[hf x hx]at hp;cases hp
  | some i=>simp only[Bc,hf];omega
theorem Ev {α:Type} [Inhabited α] {p:α→Bool} {l:List α} (h:0≤Bc p l):(Bc p l).toNat<l.length∧p (nth l (Bc p l))=true:=by
 cases hf:l.findIdx? p with
 | none=>simp only[Bc,hf]at h;omega
 | some i =>
  have e:Bc p l=i:=by simp only[Bc,hf]
  rw[List.findIdx?_eq_some_iff_getElem]at hf
  obtain ⟨h1,h2,_⟩:=hf
  rw[e,Int.toNat_natCast]
  refine⟨h1,?_⟩
  rw[← Ig l i h1];exact h2
theorem M7 {α:Type} (p:α→Bool) (l e:List α) (h:0≤Bc p l):Bc p (l++e)=Bc p l:=by
 cases hf:l.findIdx? p with
 | none=>simp only[Bc,hf]at h;omega
 | some i =>
  have:(l++e).findIdx? p=some i:=by rw[List.findIdx?_append,hf];rfl
  simp only[Bc,hf,this]
theorem Kz {α:Type} (p:α→Bool) (l:List α) (x:α) (h:l.any p=false) (hx:p x=true):Bc p (l++[x])=l.length:=by
 refine Cg (j:=l.length) y_ (fun i hi hij=>?_) ?_
 ·rw[List.getElem_append_left hij]
  rw[List.any_eq_false]at h
  have:=h l[i] (List.getElem_mem hij)
  simpa using this
 ·rw[List.getElem_append_right (Nat.le_refl _)]
  simpa using hx
theorem Xa {n:Net} (h:NetR n) (dev v:Int) (hd:Ah dev n.devices.length=true) (hv:1≤v∧v≤4094) (ha:n.domains.any (fun d=>d.dev == dev && d.vlan == v)=false) (m:Net) (hm:m={ n with domains:=n.domains++[⟨dev,v,0,-1,0,[]⟩] }) (hl:n.domains.length<48):NetR m:=by
 subst hm
 have hn:∀ {i:Int},i.toNat<n.domains.length→nth (n.domains++[(⟨dev,v,0,-1,0,[]⟩:Domain)]) i=nth n.domains i:=fun h=>Da _ _ h
 have hnn:∀ {i:Nat},i<n.domains.length→nth (n.domains++[(⟨dev,v,0,-1,0,[]⟩:Domain)]) (i:Int)=nth n.domains (i:Int):=fun h=>Da _ _ h
 have hdm:∀ a b,0≤Bz n a b→Bz { n with domains:=n.domains++[⟨dev,v,0,-1,0,[]⟩] } a b=Bz n a b:=fun a b h=>M7 _ _ _ h
 refine⟨?_,fun i hi=>?_,fun i hi=>?_,fun i hi=>?_,h.link,fun i hi=>?_,h.flood,h.vrf,fun i hi=>?_⟩
 ·have:=few_iff.1 h.few
  exact few_iff.2 (by simp only[List.length_append,List.length_singleton];omega)
 ·simp only[List.length_append,List.length_singleton]at hi
  by_cases e:i<n.domains.length
  ·rw[hnn e]
   obtain ⟨a,b,c,d,f⟩:=bareB_iff.1 (h.bare i e)
   exact bareB_iff.2 ⟨a,b,c,d,by rw[hdm _ _ q_];exact f⟩
  ·rw[show i=n.domains.length by omega,Cj]
   refine bareB_iff.2 ⟨hd,hv,⟨Int.le_refl _,by show (0:Int)≤_;decide⟩,.inl E,?_⟩
   exact Kz _ _ _ ha y_
 ·simp only[List.length_append,List.length_singleton]at hi
  by_cases e:i<n.domains.length
  ·rw[hnn e]
   refine Ep E (h.peers i e) fun k hk=>?_
   obtain ⟨a,b,c,d,f,g,o,q,r⟩:=peerB_iff.1 hk
   have ha:=place_iff.1 a
   exact peerB_iff.2 ⟨C6 a y_,b,by rw[hn q_];exact c,by rw[hn q_];exact d,by rw[hn q_];exact f,g,by rw[hn q_];exact o,q,by rw[hn q_];exact r⟩
  ·rw[show i=n.domains.length by omega,Cj]
   rfl
 ·obtain ⟨a,b,c,d,e,f,g,q⟩:=portB_iff.1 (h.port i hi)
  exact portB_iff.2 ⟨a,b,c,d,e,fun v hv=>by rw[hdm _ _ (f v hv)];exact f v hv,fun hv=>by rw[hdm _ _ (g hv)];exact g hv,q⟩
 ·obtain ⟨a,b,c,d⟩:=staticB_iff.1 (h.static i hi)
  have pa:=place_iff.1 a
  have e1:=hn (i:=(nth n.statics (i:Int)).domain) q_
  exact staticB_iff.2 ⟨C6 a y_,b,c.trans (congrArg Domain.dev e1).symm,by have:=d;rw[← congrArg Domain.vlan e1]at this;exact this⟩
 ·obtain ⟨a,b,c,d,e⟩:=irbB_iff.1 (h.irb i hi)
  have pa:=place_iff.1 a
  have e1:=hn (i:=(nth n.irbs (i:Int)).domain) q_
  exact irbB_iff.2 ⟨C6 a y_,b,(congrArg Domain.dev e1).trans c,(congrArg Domain.irb e1).trans d,e⟩
theorem Q8 (dev:Int):∀ (l:List Int) (ds:List Domain),ds.length≤(As dev ds l).length
 | [],ds=>Nat.le_refl _
 | v::l,ds=>by
  refine Nat.le_trans ?_ (Q8 dev l (Bh dev ds v))
  rw[Bh]
  split<;>simp
theorem Ly {dev:Int}:∀ (l:List Int) (n:Net),NetR n→Ah dev n.devices.length=true→(∀ v∈l,v≤4094)→(As dev n.domains l).length≤48→NetR { n with domains:=As dev n.domains l }∧∀ v∈l,0<v→0≤Bz { n with domains:=As dev n.domains l } dev v
 | [],n,h,_,_,_=>⟨h,fun v hv=>by cases hv⟩
 | v::l,n,h,hd,hv,hl=>by
  have hlen:=Q8 dev l (Bh dev n.domains v)
  have e:As dev n.domains (v::l)=As dev (Bh dev n.domains v) l:=rfl
  rw[e]at hl ⊢
  have h1:NetR { n with domains:=Bh dev n.domains v }∧(0<v→0≤Bz { n with domains:=Bh dev n.domains v } dev v):=by
   rw[Bh]at hlen ⊢
   split
   ·rename_i hc
    rw[if_pos hc]at hlen
    refine⟨Xa h dev v hd ⟨by omega,hv v y_⟩ hc.2 _ E ?_,fun _=>?_⟩
    ·have hl':=hl
     rw[Bh,if_pos hc]at hl'
     simp only[List.length_append,List.length_singleton]at hlen
     omega
    ·rw[Bz,Kz _ _ _ hc.2 y_];omega
   ·rename_i hc
    refine⟨h,fun h0=>?_⟩
    have:n.domains.any (fun d=>d.dev == dev && d.vlan == v)=true:=by
     cases ha:n.domains.any (fun d=>d.dev == dev && d.vlan == v)
     ·exact absurd ⟨h0,ha⟩ hc
     ·rfl
    exact idxI_nonneg.2 this
  obtain ⟨r1,r2⟩:=Ly l { n with domains:=Bh dev n.domains v } h1.1 hd (fun x hx=>hv x (by simp[hx])) hl
  refine⟨r1,fun x hx h0=>?_⟩
  rcases List.mem_cons.1 hx with rfl | hx
  ·have h2:=h1.2 h0
   have:∀ (l:List Int) (ds:List Domain),0≤Bc (fun d:Domain=>d.dev == dev && d.vlan == x) ds→0≤Bc (fun d:Domain=>d.dev == dev && d.vlan == x) (As dev ds l):=by
    intro l
    induction l with
    | nil=>exact fun ds h=>h
    | cons y l ih =>
     intro ds h
     refine ih (Bh dev ds y) ?_
     rw[Bh]
     split
     ·rw[M7 _ _ _ h];exact h
     ·exact h
   exact this l _ h2
  ·exact r2 x hx h0
theorem Aa3 {n:Net} (h:NetR n) (p:Port) (hp:Ic n n.ports.length p=true) (hl:n.ports.length<40):NetR { n with ports:=n.ports++[p] }:=by
 have hn:∀ {i:Int},i.toNat<n.ports.length→nth (n.ports++[p]) i=nth n.ports i:=fun h=>Da _ _ h
 refine⟨?_,h.bare,h.peers,fun i hi=>?_,fun i hi=>?_,fun i hi=>?_,h.flood,h.vrf,h.irb⟩
 ·have:=few_iff.1 h.few
  exact few_iff.2 (by simp only[List.length_append,List.length_singleton];omega)
 ·simp only[List.length_append,List.length_singleton]at hi
  by_cases e:i<n.ports.length
  ·have e1:nth (n.ports++[p]) (i:Int)=nth n.ports (i:Int):=hn (i:=(i:Int)) e
   rw[e1];exact h.port i e
  ·rw[show i=n.ports.length by omega,Cj];exact hp
 ·obtain ⟨a,b,c,d,e⟩:=linkB_iff.1 (h.link i hi)
  have pa:=place_iff.1 a
  have pb:=place_iff.1 b
  have e1:=hn (i:=(nth n.links (i:Int)).a) q_
  have e2:=hn (i:=(nth n.links (i:Int)).b) q_
  exact linkB_iff.2 ⟨C6 a y_,C6 b y_,fun x=>c ((congrArg Port.dev e1).symm.trans (x.trans (congrArg Port.dev e2))),(congrArg Port.link e1).trans d,(congrArg Port.link e2).trans e⟩
 ·obtain ⟨a,b,c,d⟩:=staticB_iff.1 (h.static i hi)
  have pb:=place_iff.1 b
  have e1:=hn (i:=(nth n.statics (i:Int)).port) q_
  exact staticB_iff.2 ⟨a,C6 b y_,(congrArg Port.dev e1).trans c,by have:=d;rw[← e1]at this;exact this⟩
theorem Abm {n:Net} (h:NetR n) (a b:Nat) (ha:a<n.ports.length) (hb:b<n.ports.length) (hd:(nth n.ports a).dev≠(nth n.ports b).dev) (h1:(nth n.ports a).link<0) (h2:(nth n.ports b).link<0) (row:Int) (hl:n.links.length<20) :
  NetR { n with ports:=Cd (Cd n.ports a n.links.length) b n.links.length,links:=n.links++[⟨row,a,b⟩] }:=by
 have hab:a≠b:=fun e=>hd (by rw[e])
 have hlen:(Cd (Cd n.ports a n.links.length) b n.links.length).length=n.ports.length:=by simp[Cd]
 have hi1:∀ i:Int,i.toNat≠a→i.toNat≠b→nth (Cd (Cd n.ports a n.links.length) b n.links.length) i=nth n.ports i:=fun i x y=>by
  rw[Cd,Int.toNat_natCast,C2 _ _ y,Cd,Int.toNat_natCast,C2 _ _ x]
 have hia:∀ i:Int,i.toNat=a→nth (Cd (Cd n.ports a n.links.length) b n.links.length) i={ nth n.ports a with link:=n.links.length }:=fun i x=>by
  rw[Cd,Int.toNat_natCast,C2 _ _ q_,Cd,Int.toNat_natCast,nth,x,List.getElem?_set_self ha]
  rfl
 have hib:∀ i:Int,i.toNat=b→nth (Cd (Cd n.ports a n.links.length) b n.links.length) i={ nth n.ports b with link:=n.links.length }:=fun i x=>by
  have e:nth (Cd n.ports a n.links.length) (b:Int)=nth n.ports b:=by rw[Cd,Int.toNat_natCast,C2 _ _ (by rw[Int.toNat_natCast];omega)]
  rw[Cd,Int.toNat_natCast,e,nth,x,List.getElem?_set_self (by rw[Cd,List.length_set];exact hb)]
  rfl
 have same:∀ {β:Type} (f:Port→β),(∀ p k,f { p with link:=k }=f p)→∀ i:Int,f (nth (Cd (Cd n.ports a n.links.length) b n.links.length) i)=f (nth n.ports i):=fun f hf i=>by
  by_cases x:i.toNat=a
  ·rw[hia i x,hf,nth,nth,x,Int.toNat_natCast]
  ·by_cases y:i.toNat=b
   ·rw[hib i y,hf,nth,nth,y,Int.toNat_natCast]
   ·rw[hi1 i x y]
 have sd:=same Port.dev (fun _ _=>rfl)
 have sn:=same Port.native (fun _ _=>rfl)
 have st:=same Port.tagged (fun _ _=>rfl)
 have sm:=same (fun p v=>Co p v) (fun _ _=>rfl)
 refine⟨?_,h.bare,h.peers,fun i hi=>?_,fun i hi=>?_,fun i hi=>?_,h.flood,h.vrf,h.irb⟩
 ·have:=few_iff.1 h.few
  exact few_iff.2 (by rw[hlen];simp only[List.length_append,List.length_singleton];omega)
 ·rw[hlen]at hi
  obtain ⟨c1,c2,c3,c4,c5,c6,c7,c8⟩:=portB_iff.1 (h.port i hi)
  refine portB_iff.2 ⟨by rw[sd];exact c1,by rw[sn];exact c2,by rw[st];exact c3,by rw[st,sn];exact c4,by rw[sn,st];exact c5,by rw[st,sd];exact c6,by rw[sn,sd];exact c7,?_⟩
  have nl:nth (n.links++[(⟨row,a,b⟩:Link)]) (n.links.length:Int)=⟨row,a,b⟩:=Cj _ _
  by_cases x:i=a
  ·rw[hia i (by rw[Int.toNat_natCast];exact x)]
   refine .inr ⟨place_iff.2 (by simp;omega),.inl ?_⟩
   show (nth (n.links++[(⟨row,a,b⟩:Link)]) (n.links.length:Int)).a=_
   rw[nl,x]
  ·by_cases y:i=b
   ·rw[hib i (by rw[Int.toNat_natCast];exact y)]
    refine .inr ⟨place_iff.2 (by simp;omega),.inr ?_⟩
    show (nth (n.links++[(⟨row,a,b⟩:Link)]) (n.links.length:Int)).b=_
    rw[nl,y]
   ·rw[hi1 i (by rw[Int.toNat_natCast];exact x) (by rw[Int.toNat_natCast];exact y)]
    rcases c8 with c8 | ⟨d1,d2⟩
    ·exact .inl c8
    ·have pd:=place_iff.1 d1
     exact .inr ⟨C6 d1 y_,by rw[show nth (n.links++[(⟨row,a,b⟩:Link)]) (nth n.ports (i:Int)).link=nth n.links (nth n.ports (i:Int)).link from Da _ _ q_];exact d2⟩
 ·simp only[List.length_append,List.length_singleton]at hi
  by_cases e:i<n.links.length
  ·rw[show nth (n.links++[(⟨row,a,b⟩:Link)]) (i:Int)=nth n.links (i:Int) from Da _ _ e]
   obtain ⟨c1,c2,c3,c4,c5⟩:=linkB_iff.1 (h.link i e)
   have off:∀ k:Int,(nth n.ports k).link=(i:Int)→nth (Cd (Cd n.ports a n.links.length) b n.links.length) k=nth n.ports k:=fun k hk=>by
    refine hi1 k (fun x=>?_) (fun x=>?_)
    ·have:nth n.ports k=nth n.ports (a:Int):=De _ x
     rw[this]at hk;omega
    ·have:nth n.ports k=nth n.ports (b:Int):=De _ x
     rw[this]at hk;omega
   exact linkB_iff.2 ⟨by rw[hlen];exact c1,by rw[hlen];exact c2,by rw[sd,sd];exact c3,by rw[off _ c4];exact c4,by rw[off _ c5];exact c5⟩
  ·rw[show i=n.links.length by omega,Cj]
   refine linkB_iff.2 ⟨by rw[hlen];exact place_iff.2 ⟨by show (0:Int)≤(a:Int);omega,by show (a:Int)<_;omega⟩,by rw[hlen];exact place_iff.2 ⟨by show (0:Int)≤(b:Int);omega,by show (b:Int)<_;omega⟩,by rw[sd,sd];exact hd,?_,?_⟩
   ·rw[hia (a:Int) (Int.toNat_natCast a)]
   ·rw[hib (b:Int) (Int.toNat_natCast b)]
 ·obtain ⟨c1,c2,c3,c4⟩:=staticB_iff.1 (h.static i hi)
  refine staticB_iff.2 ⟨c1,by rw[hlen];exact c2,by rw[sd];exact c3,?_⟩
  have:=sm (nth n.statics (i:Int)).port
  exact(congrFun this _).trans c4
theorem I2 {n:Net} {l:LineM} {k:Int} (h:¬ fitsB n l k=false):l.kind=k∧(Ay l).2=true∧NetR n:=by
 have h:fitsB n l k=true:=by simpa using h
 simp only[fitsB,B4,Bool.and_eq_true,beq_iff_eq]at h
 exact⟨h.1,h.2.1.1,netR_iff.1 h.2.2⟩
theorem Hn {n:Net} {l:LineM} {k:Int} (h:¬ (begT n l k).2≠0):l.kind=k∧(Ay l).2=true∧NetR n∧0≤A7 n l.dev∧(A7 n l.dev).toNat<n.devices.length∧(begT n l k).1=A7 n l.dev:=by
 rw[begT]at h ⊢
 split at h
 ·simp at h
 ·rename_i h1
  rw[if_neg h1]
  split at h
  ·simp at h
  ·rename_i h2
   rw[if_neg h2]
   obtain ⟨a,b,c⟩:=I2 h1
   exact⟨a,b,c,by omega,(Ev (p:=fun d:Device=>d.name == l.dev) (by show 0≤A7 n l.dev;omega)).1,E⟩
theorem Aej {l:List Int} {v:Int}:inB l v=l.contains v:=by
 induction l with
 | nil=>rfl
 | cons x l ih =>
  rw[inB,List.any_cons,List.contains_cons]
  rw[inB]at ih
  rw[ih]
  congr 1
  exact Bool.beq_comm
theorem Ad2 {n:Net} {l:LineM} (h:(putT n l).2=0):NetR (putT n l).1:=by
 rw[putT]at h ⊢
 by_cases k1:l.kind=1
 ·rw[if_pos k1]at h ⊢
  rw[putDevice]at h ⊢
  repeat' split at h
  all_goals (try (simp at h;done))
  rename_i h1 h2 h3
  rw[if_neg h1,if_neg h2,if_neg h3]
  obtain ⟨_,_,hr⟩:=I2 h1
  have:=few_iff.1 hr.few
  exact Xg hr _ q_
 rw[if_neg k1]at h ⊢
 by_cases k2:l.kind=2
 ·rw[if_pos k2]at h ⊢
  rw[putPort]at h ⊢
  repeat' split at h
  all_goals (try (simp at h;done))
  rename_i h1 h2 h3 h4 h5
  rw[if_neg h1,if_neg h2,if_neg h3,if_neg h4,if_neg h5]
  obtain ⟨_,hu,hr⟩:=I2 h1
  have hf:=few_iff.1 hr.few
  simp only[Ay,if_neg k1,if_pos k2,Bool.and_eq_true]at hu
  obtain ⟨u1,u2,u3,u4,u5⟩:=hu
  have hv:=within_iff.1 u3
  have hp:=(Ev (p:=fun d:Device=>d.name == l.dev) (l:=n.devices) (by show 0≤A7 n l.dev;omega)).1
  have hpl:Ah (A7 n l.dev) n.devices.length=true:=place_iff.2 ⟨by omega,by have:(A7 n l.dev).toNat<n.devices.length:=hp;omega⟩
  have htag:∀ v∈l.tagged,1≤v∧v≤4094:=fun v hv=>by
   rcases listOK_iff.1 u4 with e | e
   ·rw[e]at hv;cases hv
   ·exact(rising_iff.1 e).2.1 v hv
  obtain ⟨r1,r2⟩:=Ly (l.vlan::l.tagged) n hr hpl (fun v hv=>by
   rcases List.mem_cons.1 hv with rfl | hv
   ·omega
   ·exact(htag v hv).2) q_
  refine Aa3 r1 _ (portB_iff.2 ⟨hpl,hv,u4,?_,?_,fun v hv=>r2 v (by simp[hv]) (by have:=htag v hv;omega),fun h0=>r2 _ y_ h0,.inl E⟩) (by show n.ports.length<40;omega)
  ·simp only[membersB,Bool.and_eq_true,Bool.not_eq_eq_eq_not,Bool.not_true]at u5
   rw[Aej];exact u5.2
  ·rintro ⟨e1,e2⟩
   dsimp only at e1 e2
   simp[membersB,e1,e2]at u5
 rw[if_neg k2]at h ⊢
 by_cases k3:l.kind=3
 ·rw[if_pos k3]at h ⊢
  rw[putLink]at h ⊢
  dsimp only at h ⊢
  repeat' split at h
  all_goals (try (simp at h;done))
  rename_i h1 h2 h3 h4
  rw[if_neg h1,if_neg h2,if_neg h3,if_neg h4]
  obtain ⟨_,hu,hr⟩:=I2 h1
  have hf:=few_iff.1 hr.few
  have hend:∀ d p,0≤endI n d p→(endI n d p).toNat<n.ports.length:=fun d p h=>by
   rw[endI]at h ⊢
   split at h
   ·omega
   ·rename_i hx
    rw[if_neg hx]
    exact(Ev h).1
  have ha:=hend l.dev l.port q_
  have hb:=hend l.peer l.far q_
  generalize endI n l.dev l.port=a at *
  generalize endI n l.peer l.far=b at *
  obtain ⟨a,rfl⟩:∃ k:Nat,a=k:=⟨a.toNat,by omega⟩
  obtain ⟨b,rfl⟩:∃ k:Nat,b=k:=⟨b.toNat,by omega⟩
  rw[Int.toNat_natCast]at ha hb
  simp only[not_or]at h3
  exact Abm hr a b ha hb h3.1 q_ q_ l.row q_
 rw[if_neg k3]at h ⊢
 by_cases k4:l.kind=4
 ·rw[if_pos k4]at h ⊢
  rw[putStatic]at h ⊢
  dsimp only at h ⊢
  repeat' split at h
  all_goals (try (simp at h;done))
  rename_i h1 h2 h3 h4 h5
  rw[if_neg h1,if_neg h2,if_neg h3,if_neg h4,if_neg h5]
  obtain ⟨_,hu,hr⟩:=I2 h1
  have hf:=few_iff.1 hr.few
  simp only[not_or]at h2 h3
  have p1:=Ev (p:=fun p:Port=>p.dev == A7 n l.dev && p.name == l.port) (l:=n.ports) (by show 0≤Jx n (A7 n l.dev) l.port;omega)
  have p2:=Ev (p:=fun d:Domain=>d.dev == A7 n l.dev && d.vlan == l.vlan) (l:=n.domains) (by show 0≤Bz n (A7 n l.dev) l.vlan;omega)
  obtain ⟨a1,a2⟩:=p1
  obtain ⟨b1,b2⟩:=p2
  have a1:(Jx n (A7 n l.dev) l.port).toNat<n.ports.length:=a1
  have b1:(Bz n (A7 n l.dev) l.vlan).toNat<n.domains.length:=b1
  simp only[Bool.and_eq_true,beq_iff_eq]at a2 b2
  have a2:(nth n.ports (Jx n (A7 n l.dev) l.port)).dev=A7 n l.dev:=a2.1
  have b2:(nth n.domains (Bz n (A7 n l.dev) l.vlan)).dev=A7 n l.dev∧(nth n.domains (Bz n (A7 n l.dev) l.vlan)).vlan=l.vlan:=b2
  refine V8 hr _ (staticB_iff.2 ⟨place_iff.2 ⟨?_,?_⟩,place_iff.2 ⟨?_,?_⟩,?_,?_⟩) q_
  ·show 0≤Bz n (A7 n l.dev) l.vlan;omega
  ·show Bz n (A7 n l.dev) l.vlan<_;omega
  ·show 0≤Jx n (A7 n l.dev) l.port;omega
  ·show Jx n (A7 n l.dev) l.port<_;omega
  ·exact a2.trans b2.1.symm
  ·show Co _ (nth n.domains (Bz n (A7 n l.dev) l.vlan)).vlan=true
   rw[b2.2]
   simpa using h3.2
 rw[if_neg k4]at h ⊢
 by_cases k5:l.kind=5
 ·rw[if_pos k5]at h ⊢
  rw[putVtep]at h ⊢
  dsimp only at h ⊢
  by_cases h1:(begT n l 5).2≠0
  ·rw[if_pos h1]at h;exact absurd h h1
  rw[if_neg h1]at h ⊢
  split at h
  ·simp at h
  rename_i h2
  rw[if_neg h2]
  obtain ⟨_,hu,hr,d0,d1,d2⟩:=Hn h1
  simp only[Ay,if_neg k1,if_neg k2,if_neg k3,if_neg k4,if_pos k5,decide_eq_true_eq]at hu
  rw[d2]
  have:=Z8 hr (A7 n l.dev).toNat l.addr hu
  rw[Int.toNat_of_nonneg d0]at this
  exact this
 rw[if_neg k5]at h ⊢
 by_cases k6:l.kind=6
 ·rw[if_pos k6]at h ⊢
  rw[putVni]at h ⊢
  dsimp only at h ⊢
  by_cases h1:(begT n l 6).2≠0
  ·rw[if_pos h1]at h;exact absurd h h1
  rw[if_neg h1]at h ⊢
  obtain ⟨_,hu,hr,d0,d1,d2⟩:=Hn h1
  rw[d2]at h ⊢
  repeat' split at h
  all_goals (try (simp at h;done))
  rename_i h2 h3 h4
  rw[if_neg h2,if_neg h3,if_neg h4]
  simp only[Ay,if_neg k1,if_neg k2,if_neg k3,if_neg k4,if_neg k5,if_pos k6,Bool.and_eq_true]at hu
  have hv:=within_iff.1 hu.2
  have b1:(Bz n (A7 n l.dev) l.vlan).toNat<n.domains.length:=(Ev (p:=fun d:Domain=>d.dev == A7 n l.dev && d.vlan == l.vlan) (l:=n.domains) (by show 0≤Bz n (A7 n l.dev) l.vlan;omega)).1
  simp only[not_or,Decidable.not_not]at h4
  generalize Bz n (A7 n l.dev) l.vlan=j at *
  obtain ⟨j,rfl⟩:∃ k:Nat,j=k:=⟨j.toNat,by omega⟩
  rw[Int.toNat_natCast]at b1 ⊢
  exact Adh hr j b1 h4.1 l.num l.row ⟨by omega,hv.2⟩
 rw[if_neg k6]at h ⊢
 by_cases k7:l.kind=7
 ·rw[if_pos k7]at h ⊢
  rw[putFlood]at h ⊢
  dsimp only at h ⊢
  by_cases h1:(begT n l 7).2≠0
  ·rw[if_pos h1]at h;exact absurd h h1
  rw[if_neg h1]at h ⊢
  obtain ⟨_,hu,hr,d0,d1,d2⟩:=Hn h1
  rw[d2]at h ⊢
  repeat' split at h
  all_goals (try (simp at h;done))
  rename_i h2 h3 h4 h5
  rw[if_neg h2,if_neg h3,if_neg h4,if_neg h5]
  have hf:=few_iff.1 hr.few
  simp only[Ay,if_neg k1,if_neg k2,if_neg k3,if_neg k4,if_neg k5,if_neg k6,if_pos k7,Bool.and_eq_true,Ii,decide_eq_true_eq]at hu
  exact Zf hr _ (floodB_iff.2 ⟨place_iff.2 ⟨d0,by show A7 n l.dev<_;omega⟩,hu.2.2.2⟩) q_
 rw[if_neg k7]at h ⊢
 by_cases k8:l.kind=8
 ·rw[if_pos k8]at h ⊢
  rw[putVrf]at h ⊢
  dsimp only at h ⊢
  by_cases h1:(begT n l 8).2≠0
  ·rw[if_pos h1]at h;exact absurd h h1
  rw[if_neg h1]at h ⊢
  obtain ⟨_,hu,hr,d0,d1,d2⟩:=Hn h1
  rw[d2]at h ⊢
  repeat' split at h
  all_goals (try (simp at h;done))
  rename_i h2 h3
  rw[if_neg h2,if_neg h3]
  have hf:=few_iff.1 hr.few
  simp only[Ay,if_neg k1,if_neg k2,if_neg k3,if_neg k4,if_neg k5,if_neg k6,if_neg k7,if_pos k8,Bool.and_eq_true]at hu
  exact Adg hr _ (vrfB_iff.2 ⟨place_iff.2 ⟨d0,by show A7 n l.dev<_;omega⟩,hu.2.1,hu.2.2⟩) q_
 rw[if_neg k8]at h ⊢
 by_cases k9:l.kind=9
 ·rw[if_pos k9]at h ⊢
  rw[putIrb]at h ⊢
  dsimp only at h ⊢
  by_cases h1:(begT n l 9).2≠0
  ·rw[if_pos h1]at h;exact absurd h h1
  rw[if_neg h1]at h ⊢
  obtain ⟨_,hu,hr,d0,d1,d2⟩:=Hn h1
  rw[d2]at h ⊢
  repeat' split at h
  all_goals (try (simp at h;done))
  rename_i h2 h3 h4
  rw[if_neg h2,if_neg h3,if_neg h4]
  simp only[Ay,if_neg k1,if_neg k2,if_neg k3,if_neg k4,if_neg k5,if_neg k6,if_neg k7,if_neg k8,if_pos k9,Bool.and_eq_true]at hu
  have hb:=Qj hu.2.2
  have p1:=Ev (p:=fun v:Vrf=>v.dev == A7 n l.dev && v.name == l.name) (l:=n.vrfs) (by show 0≤V2 n (A7 n l.dev) l.name;omega)
  have p2:=Ev (p:=fun d:Domain=>d.dev == A7 n l.dev && d.vlan == l.vlan) (l:=n.domains) (by show 0≤Bz n (A7 n l.dev) l.vlan;omega)
  have a1:(V2 n (A7 n l.dev) l.name).toNat<n.vrfs.length:=p1.1
  have a2:(nth n.vrfs (V2 n (A7 n l.dev) l.name)).dev=A7 n l.dev:=by
   have:=p1.2
   simp only[Bool.and_eq_true,beq_iff_eq]at this
   exact this.1
  have b1:(Bz n (A7 n l.dev) l.vlan).toNat<n.domains.length:=p2.1
  have b2:(nth n.domains (Bz n (A7 n l.dev) l.vlan)).dev=A7 n l.dev:=by
   have:=p2.2
   simp only[Bool.and_eq_true,beq_iff_eq]at this
   exact this.1
  simp only[not_or]at h4
  generalize Bz n (A7 n l.dev) l.vlan=j at *
  obtain ⟨j,rfl⟩:∃ k:Nat,j=k:=⟨j.toNat,by omega⟩
  rw[Int.toNat_natCast]at b1 ⊢
  exact Aeu hr j b1 q_ ⟨l.row,j,V2 n (A7 n l.dev) l.name,l.addr,l.bits⟩ E (place_iff.2 ⟨by dsimp only;omega,by dsimp only;omega⟩) (b2.trans a2.symm) hb
 ·rw[if_neg k9]at h
  simp at h
theorem Zl:NetR emptyN:=netR_iff.1 (by decide +kernel)
end Go.Sy.YtjenpnjajjplkaaGreatDoor
