/-
  E10 E11 E12 E13 E14 E15 R1 R2 A5 A7 Sy29 E21 E22 E23 E24 E25 E26 E27 E28 E30 B0 D1 N8 N9 N10 N11 V1 V2: parts of a proof, joined by program.
-/
import Derived.Test.YteinjapglfkamaaGreatXB3
import Derived.Laws.Bits64b
namespace Go.Sy.YteinjapglfkamaaGreat
open Go.Proofs
attribute [local irreducible] Go.Sy.G Go.Sy.DR
set_option maxRecDepth 20000
set_option maxHeartbeats 4000000
abbrev Aky (a b:Int):SV:=.agg [Bi a,Aa b]
theorem Aib (a b:Int) (h:0≤b∧b≤32):Sy.Spec Tryz.prog 269 [Aky a b] [] (Ab true) []:=cT F269 Tryz.ntmps269 fun F hF=>by
 conv=>whnf
 refine⟨fun _=>?_,fun h2=>absurd (of_decide_eq_false h2) qn⟩
 refine oO ?_
 refine Am E (.cons .tmp .nil) (congrArg Ab ?_) E
 simp;omega
def Abo (b:Int):Int:=IntKind.u32.wrap (IntKind.u32.wrap (1 * 2 ^ (min (32-b).toNat IntKind.u32.bits))-1)
theorem Akz (a b:Int) (h:0≤b∧b≤32):Sy.Spec Tryz.prog 270 [Aky a b] [] (Bi (Abo b)) []:=cT F270 Tryz.ntmps270 fun F hF=>by
 conv=>whnf
 refine iW ?_
 refine⟨by omega,?_⟩
 conv=>whnf
 exact dN
def Aiu (a b x:Int):Bool:=bits .andNot .u32 (bits .xor .u32 a x) (Abo b) == 0
theorem Amp (a b x:Int) (h:0≤b∧b≤32):Sy.Spec Tryz.prog 327 [Aky a b,Bi x] [] (Ab (Aiu a b x)) []:=cT F327 Tryz.ntmps327 fun F hF=>by
 have q1:=Aib a b h
 have q2:=Akz a b h
 rw[Aiu]
 generalize Abo b=r at *
 conv=>whnf
 refine cD q1 F269 ?_
 (refine oD ?_;refine aT ?_;refine oD ?_)
 refine cD q2 F270 ?_
 refine oD ?_
 refine kW ?_
 exact dN
def Wc (c:Int→Int→Int) (l:List Int) (j:Nat):Int:=((l.drop 1).take j).foldl (fun m x=>if 0<c x m then x else m) (nth l 0)
theorem Yl (c:Int→Int→Int) (l:List Int) (j:Nat) (h:j+1<l.length):Wc c l (j+1)=if 0<c l[j+1] (Wc c l j) then l[j+1] else Wc c l j:=by
 have hl:j<(l.drop 1).length:=by rw[List.length_drop];omega
 rw[Wc,List.take_succ_eq_append_getElem hl,List.foldl_append]
 have e:(l.drop 1)[j]=l[j+1]:=by rw[List.getElem_drop];congr 1;omega
 simp only[List.foldl_cons,List.foldl_nil,e]
 rfl
theorem Q3 (c:Int→Int→Int) (l:List Int) (h:0<l.length):∀ j,j+1≤l.length→Wc c l j∈l
 | 0,_=>by
  rw[Wc,List.take_zero,List.foldl_nil,Ai (l:=l) (i:=0) (by simpa using h)]
  exact List.getElem_mem _
 | j+1,hj=>by
  rw[Yl c l j qn]
  split
  ·exact List.getElem_mem _
  ·exact Q3 c l h j qn
theorem Ale (l:List Int) (c:Int→Int→Int) (f:FuncId) (first cap:List SV) (hc:(SV.clo (.func f) first cap).inn []=true) (h0:0<l.length) (hl:Aj l)
  (hf:∀ x∈l,∀ y∈l,E6 Tryz.prog f (first++[Aa x,Aa y]++cap) (Aa (c x y))) :
  Sy.Spec Tryz.prog 330 [.sl 1 Aa l,.clo (.func f) first cap] [] (Aa (Wc c l (l.length-1))) []:=cT F330 Tryz.ntmps330 fun F hF=>by
 unfold Aj at hl
 have hin:∀ x y:Int,B1 [] (first++[Aa x,Aa y]++cap)=true:=fun x y=>Cj hc rfl
 have hmem:=Q3 c l h0
 have hsucc:=Yl c l
 have hz:Wc c l 0=l[0]:=by rw[Wc,List.take_zero,List.foldl_nil,Ai (l:=l) (i:=0) (by simpa using h0)];rfl
 generalize Wc c l=m at *
 conv=>whnf
 refine⟨fun h=>absurd (of_decide_eq_true h) qn,fun _=>?_⟩
 refine oO ?_
 refine⟨E,by omega,by simpa using h0,?_⟩
 conv=>whnf
 refine Az (l.length-1) (fun j=>[(0,.sl 1 Aa l),(1,.clo (.func f) first cap),(5,Aa (m j)),(6,Aa ((j:Int)+1))]) (fun _=>[]) []
  ⟨⟨rfl,rfl,A7 _,hc,congrArg Aa hz,rfl,rfl,rfl,trivial⟩,trivial,rfl,rfl⟩ ?_
 intro j hj
 have hmj:=hmem j qn
 have hsj:=hsucc j
 refine oO ?_
 refine⟨fun h=>?_,fun h=>?_⟩
 ·have hlt:j+1<l.length:=qA h
  have hsj:=hsj hlt
  have hk:((j:Int)+1).toNat<l.length:=by omega
  have e1:l[((j:Int)+1).toNat]'hk=l[j+1]:=by congr 1
  obtain ⟨x,hx⟩:∃ x,l[j+1]=x:=⟨_,rfl⟩
  have hxm:x∈l:=hx ▸ List.getElem_mem hlt
  rw[hx]at e1 hsj
  refine oO ?_
  refine⟨E,by omega,hk,?_⟩
  rw[e1]
  conv=>whnf
  refine Dp (hf x hxm (m j) hmj) E E E (by simp only[hin];rfl) E E ?_
  refine oO ?_
  refine⟨fun h2=>?_,fun h2=>?_⟩
  ·rw[if_pos (of_decide_eq_true h2)]at hsj
   refine oO ?_
   refine⟨E,by omega,hk,?_⟩
   rw[e1]
   conv=>whnf
   refine iW ?_
   exact Ar [] qn ⟨⟨E,E,A7 _,hc,congrArg Aa hsj,E,congrArg Aa qn,E,Y⟩,Y,E,E⟩
  ·rw[if_neg (of_decide_eq_false h2)]at hsj
   refine oO ?_
   refine iW ?_
   exact Ar [] qn ⟨⟨E,E,A7 _,hc,congrArg Aa hsj,E,congrArg Aa qn,E,Y⟩,Y,E,E⟩
 ·have:j=l.length-1:=qB h
  subst this
  refine oO ?_
  exact dN
def Zv (n:Net) (irb i:Int):Int:=if (nth n.irbs i).vrf=(nth n.irbs irb).vrf then 1 else 0
abbrev InIrbs (n:Net) (i:Int):Prop:=0≤i∧i.toNat<n.irbs.length
theorem Ace (n:Net) (irb i:Int) (hi:InIrbs n i) (hk:InIrbs n irb):Sy.Spec Tryz.prog 329 [Aa i,.ref 8 (Al n) 0,.ref 1 (Aa irb) 0] [] (Aa (Zv n irb i)) []:=cT F329 Tryz.ntmps329 fun F hF=>by
 rw[Zv,Ai hi.2,Ai hk.2]
 obtain ⟨x,hx⟩:∃ x,n.irbs[i.toNat]'hi.2=x:=⟨_,rfl⟩
 obtain ⟨y,hy⟩:∃ y,n.irbs[irb.toNat]'hk.2=y:=⟨_,rfl⟩
 rw[hx,hy]
 conv=>whnf
 refine⟨E,hi.1,hi.2,?_⟩
 rw[hx]
 conv=>whnf
 refine⟨E,hk.1,hk.2,?_⟩
 rw[hy]
 conv=>whnf
 refine kW ?_
 refine⟨fun h=>?_,fun h=>?_⟩
 ·rw[if_pos (by simpa using h)]
  refine oO ?_
  exact dN
 ·rw[if_neg (by simpa using h)]
  refine oO ?_
  exact dN
def Aja (n:Net) (irb a b:Int):Int:=if (nth n.irbs a).bits≠(nth n.irbs b).bits then (nth n.irbs a).bits-(nth n.irbs b).bits else Zv n irb a-Zv n irb b
theorem Agm (n:Net) (irb i:Int):0≤Zv n irb i∧Zv n irb i≤1:=by
 unfold Zv;split<;>omega
theorem Alf (n:Net) (hb:Ac n=true) (irb a b:Int) (hk:InIrbs n irb) (ha:InIrbs n a) (hb2:InIrbs n b) :
  Sy.Spec Tryz.prog 331 [Aa a,Aa b,.ref 8 (Al n) 0,.ref 1 (.clo (.func 329) [] [.ref 8 (Al n) 0,.ref 1 (Aa irb) 0]) 0] [] (Aa (Aja n irb a b)) []:=cT F331 Tryz.ntmps331 fun F hF=>by
 have fa:=(C3 hb ha.2).2.2
 have fb:=(C3 hb hb2.2).2.2
 have q1:=Ace n irb a ha hk
 have q2:=Ace n irb b hb2 hk
 have l1:=Agm n irb a
 have l2:=Agm n irb b
 rw[Aja,Ai ha.2,Ai hb2.2]
 obtain ⟨x,hx⟩:∃ x,n.irbs[a.toNat]'ha.2=x:=⟨_,rfl⟩
 obtain ⟨y,hy⟩:∃ y,n.irbs[b.toNat]'hb2.2=y:=⟨_,rfl⟩
 rw[hx]at fa ⊢
 rw[hy]at fb ⊢
 generalize Zv n irb a=oa at *
 generalize Zv n irb b=ob at *
 conv=>whnf
 refine⟨E,ha.1,ha.2,?_⟩
 rw[hx]
 conv=>whnf
 refine⟨E,hb2.1,hb2.2,?_⟩
 rw[hy]
 conv=>whnf
 refine kW ?_
 refine⟨fun h=>?_,fun h=>?_⟩
 ·rw[if_pos (by simpa using h)]
  refine oO ?_
  refine iW ?_
  exact dN
 ·rw[if_neg (by simpa using h)]
  refine oO ?_
  refine Afx ⟨⟨_,_,F329⟩,q1⟩ E E E E qq E ?_
  refine oD ?_
  refine Afx ⟨⟨_,_,F329⟩,q2⟩ E E E E qq E ?_
  refine oD ?_
  refine iW ?_
  refine kW ?_
  exact dN
def Tb (n:Net) (irb dst:Int) (i:Nat):Bool:=Jf n i == Jf n irb && (nth n.irbs i).addr == dst
def S9 (n:Net) (irb dst:Int) (i:Nat):Bool:=Aiu (nth n.irbs i).addr (nth n.irbs i).bits dst && Agg n irb i
def K2 (n:Net) (irb dst:Int):List Int:=Ip (S9 n irb dst) n.irbs.length
def lookT (n:Net) (irb dst:Int):Int × Bool :=
 if (List.range n.irbs.length).any (Tb n irb dst)=true then (0,false)
 else if K2 n irb dst=[] then (0,false) else (Wc (Aja n irb) (K2 n irb dst) ((K2 n irb dst).length-1),true)
theorem Agp (n:Net) (hn:n.Fin) (hb:Ac n=true) (irb dst:Int) (hk:InIrbs n irb):Sy.Spec Tryz.prog 271 [Al n,Aa irb,Bi dst] [] (.tup [Aa (lookT n irb dst).1,Ab (lookT n irb dst).2]) []:=cT F271 Tryz.ntmps271 fun F hF=>by
 have hlk:=lookT.eq_1 n irb dst
 generalize lookT n irb dst=r at *
 have hsi:=hn.irbs
 unfold Aj at hsi
 have qk:=Hy n hb irb hk
 conv=>whnf
 refine Ba 3 8 (Al n) E E E ?_
 refine Ba 4 1 (Aa irb) E E E ?_
 refine Cc 8 1000 1 Aa E E ?_
 refine Ay n.irbs.length (fun j=>∀ i,i<j→Tb n irb dst i=false) (fun j=>[(2,Bi dst),(3,.ref 8 (Al n) 0),(4,.ref 1 (Aa irb) 0),(8,.osl 1000),(13,.sl 5 Ca n.irbs),(14,Aa n.irbs.length),(15,Aa j)]) (fun j=>[(1000,.row 1 Aa (Ip (S9 n irb dst) j))]) [] (fun i hi=>absurd hi qn)
  ⟨⟨rfl,rfl,rfl,rfl,rfl,rfl,rfl,rfl,rfl,rfl,rfl,rfl,rfl,rfl,trivial⟩,⟨.inl rfl,rfl,trivial⟩,rfl,rfl⟩ ?_
 intro j hj hI
 refine oO ?_
 refine⟨fun h=>?_,fun h=>?_⟩
 ·have hlt:j<n.irbs.length:=by simpa using h
  have hij:InIrbs n (j:Int):=⟨by omega,by simpa using hlt⟩
  have qj:=Hy n hb j hij
  have hsucc:=Ww (S9 n irb dst) j
  have hfl:=D4 (S9 n irb dst) j
  have hta:Tb n irb dst j=(Jf n j == Jf n irb && (nth n.irbs j).addr == dst):=rfl
  have hwa:S9 n irb dst j=(Aiu (nth n.irbs j).addr (nth n.irbs j).bits dst && Agg n irb j):=rfl
  have enj:nth n.irbs (j:Int)=n.irbs[j]:=Ai (l:=n.irbs) (i:=(j:Int)) (by simpa using hlt)
  have hf:=(C3 hb hlt).2.2
  have e1:n.irbs[(j:Int).toNat]'qn=n.irbs[j]:=rfl
  rw[enj]at hta hwa
  obtain ⟨x,hx⟩:∃ x,n.irbs[j]=x:=⟨_,rfl⟩
  rw[hx]at e1 hta hwa hf
  have q1:=Amp x.addr x.bits dst hf
  have q2:=Aee n hn hb irb j hk hij
  rw[hwa]at hsucc
  obtain ⟨u,hu⟩:∃ u,Ip (S9 n irb dst) j=u:=⟨_,rfl⟩
  rw[hu]at hsucc hfl ⊢
  refine oO ?_
  refine⟨E,by omega,by omega,?_⟩
  rw[e1]
  conv=>whnf
  refine cD qj F326 ?_
  refine oD ?_
  refine cD qk F326 ?_
  refine oD ?_
  refine⟨fun h2=>?_,fun h2=>?_⟩
  ·rw[h2,Bool.true_and]at hta
   refine oD ?_
   refine kW ?_
   refine⟨fun h3=>?_,fun h3=>?_⟩
   ·have:(List.range n.irbs.length).any (Tb n irb dst)=true:=List.any_eq_true.2 ⟨j,by simpa using hlt,hta.trans h3⟩
    rw[if_pos this]at hlk
    subst hlk
    refine oO ?_
    exact dN
   ·have hnt:=hta.trans h3
    refine oO ?_
    refine c0 q1 F327 ?_
    refine oO ?_
    refine⟨fun h4=>?_,fun h4=>?_⟩
    ·rw[h4,Bool.true_and]at hsucc
     refine oO ?_
     refine c0 q2 F328 ?_
     refine oO ?_
     refine⟨fun h5=>?_,fun h5=>?_⟩
     ·rw[if_pos h5]at hsucc
      refine oO ?_
      refine Ad (Ah Γ.toTy 47 E E E E E (.row E) (.lit (e:=Aa) (l:=[(j:Int)]) E E) qy (by simp;omega) (by simp;omega)) E E ?_
      refine oO ?_
      refine iW ?_
      exact Aw [(1000,47)] hI hlt (fun i hi=>if e:i=j then (by rw[e];exact hnt) else hI i qn) ⟨⟨E,E,E,E,E,E,E,E,E,E,E,E,E,E,Y⟩,⟨.inl (congrArg (Ob.row 1 Aa) hsucc),E,Y⟩,E,E⟩
     ·rw[if_neg (by simp[h5])]at hsucc
      refine oO ?_
      refine iW ?_
      exact Aw [] hI hlt (fun i hi=>if e:i=j then (by rw[e];exact hnt) else hI i qn) ⟨⟨E,E,E,E,E,E,E,E,E,E,E,E,E,E,Y⟩,⟨.inl (congrArg (Ob.row 1 Aa) hsucc),E,Y⟩,E,E⟩
    ·rw[if_neg (by simp[h4])]at hsucc
     refine oF ?_
     refine iW ?_
     exact Aw [] hI hlt (fun i hi=>if e:i=j then (by rw[e];exact hnt) else hI i qn) ⟨⟨E,E,E,E,E,E,E,E,E,E,E,E,E,E,Y⟩,⟨.inl (congrArg (Ob.row 1 Aa) hsucc),E,Y⟩,E,E⟩
  ·have hnt:Tb n irb dst j=false:=by rw[hta,h2,Bool.false_and]
   refine oD ?_
   refine⟨qq,?_⟩
   ((conv=>whnf);refine aF ?_;refine rg ?_;conv=>whnf)
   refine c0 q1 F327 ?_
   refine oO ?_
   refine⟨fun h4=>?_,fun h4=>?_⟩
   ·rw[h4,Bool.true_and]at hsucc
    refine oO ?_
    refine c0 q2 F328 ?_
    refine oO ?_
    refine⟨fun h5=>?_,fun h5=>?_⟩
    ·rw[if_pos h5]at hsucc
     refine oO ?_
     refine Ad (Ah Γ.toTy 47 E E E E E (.row E) (.lit (e:=Aa) (l:=[(j:Int)]) E E) qy (by simp;omega) (by simp;omega)) E E ?_
     refine oO ?_
     refine iW ?_
     exact Aw [(1000,47)] hI hlt (fun i hi=>if e:i=j then (by rw[e];exact hnt) else hI i qn) ⟨⟨E,E,E,E,E,E,E,E,E,E,E,E,E,E,Y⟩,⟨.inl (congrArg (Ob.row 1 Aa) hsucc),E,Y⟩,E,E⟩
    ·rw[if_neg (by simp[h5])]at hsucc
     refine oO ?_
     refine iW ?_
     exact Aw [] hI hlt (fun i hi=>if e:i=j then (by rw[e];exact hnt) else hI i qn) ⟨⟨E,E,E,E,E,E,E,E,E,E,E,E,E,E,Y⟩,⟨.inl (congrArg (Ob.row 1 Aa) hsucc),E,Y⟩,E,E⟩
   ·rw[if_neg (by simp[h4])]at hsucc
    refine oF ?_
    refine iW ?_
    exact Aw [] hI hlt (fun i hi=>if e:i=j then (by rw[e];exact hnt) else hI i qn) ⟨⟨E,E,E,E,E,E,E,E,E,E,E,E,E,E,Y⟩,⟨.inl (congrArg (Ob.row 1 Aa) hsucc),E,Y⟩,E,E⟩
 ·have:j=n.irbs.length:=qB h
  subst this
  have hno:¬ (List.range n.irbs.length).any (Tb n irb dst)=true:=fun h=>by
   obtain ⟨i,h1,h2⟩:=List.any_eq_true.1 h
   rw[hI i (by simpa using h1)]at h2
   cases h2
  rw[if_neg hno]at hlk
  have hin:∀ y∈K2 n irb dst,InIrbs n y:=fun y hy=>by
   have:=(Ms (p:=S9 n irb dst) (j:=n.irbs.length)).1 hy
   exact⟨this.1,by omega⟩
  have hwl:=D4 (S9 n irb dst) n.irbs.length
  have hwe:Ip (S9 n irb dst) n.irbs.length=K2 n irb dst:=rfl
  rw[hwe]at hwl ⊢
  have q:∀ h0:0<(K2 n irb dst).length,_:=fun h0=>Ale (K2 n irb dst) (Aja n irb) 331 [] [.ref 8 (Al n) 0,.ref 1 (.clo (.func 329) [] [.ref 8 (Al n) 0,.ref 1 (Aa irb) 0]) 0] rfl h0 (by unfold Aj;omega) (fun y hy z hz=>⟨⟨_,_,F331⟩,Alf n hb irb y z hk (hin y hy) (hin z hz)⟩)
  generalize K2 n irb dst=l at *
  refine Aq 1000 E ?_
  refine oO ?_
  refine⟨fun h3=>?_,fun h3=>?_⟩
  ·have h4:l=[]:=by simpa using h3
   rw[if_pos h4]at hlk
   subst hlk
   refine oO ?_
   exact dN
  ·have h4:¬ l=[]:=by simpa using h3
   rw[if_neg h4]at hlk
   have q:=q (List.length_pos_iff.2 h4)
   subst hlk
   refine oO ?_
   refine Ba 11 1 (.clo (.func 329) [] [.ref 8 (Al n) 0,.ref 1 (Aa irb) 0]) E E E ?_
   refine oO ?_
   refine c0 q F330 ?_
   refine oO ?_
   exact dN
theorem Zl (n:Net) (hn:n.Fin) (hb:Ac n=true) (irb dst:Int) (hk:InIrbs n irb):Sy.Spec Tryz.prog 207 [Al n,Aa irb,Bi dst] [] (.tup [Aa (lookT n irb dst).1,Ab (lookT n irb dst).2]) []:=cT F207 Tryz.ntmps207 fun F hF=>by
 have hr:=A9 n hn
 rw[hb]at hr
 have q:=Agp n hn hb irb dst hk
 generalize lookT n irb dst=r at *
 ((conv=>whnf);repeat((first|refine aF ?_|refine aT ?_);(first|refine rG Γ hm ?_|refine rD Γ hm qq ?_);conv=>whnf))
 refine⟨fun h=>absurd (of_decide_eq_true h) qn,fun _=>?_⟩
 ((first|refine rG Γ hm ?_|refine rD Γ hm qq ?_);(conv=>whnf);repeat((first|refine aF ?_|refine aT ?_);(first|refine rG Γ hm ?_|refine rD Γ hm qq ?_);conv=>whnf))
 refine⟨fun h=>absurd (of_decide_eq_true h) qn,fun _=>?_⟩
 ((first|refine rG Γ hm ?_|refine rD Γ hm qq ?_);(conv=>whnf);repeat((first|refine aF ?_|refine aT ?_);(first|refine rG Γ hm ?_|refine rD Γ hm qq ?_);conv=>whnf))
 refine c0 hr F23 ?_
 ((first|refine rG Γ hm ?_|refine rD Γ hm qq ?_);(conv=>whnf);repeat((first|refine aF ?_|refine aT ?_);(first|refine rG Γ hm ?_|refine rD Γ hm qq ?_);conv=>whnf))
 refine c0 q F271 ?_
 ((first|refine rG Γ hm ?_|refine rD Γ hm qq ?_);(conv=>whnf);repeat((first|refine aF ?_|refine aT ?_);(first|refine rG Γ hm ?_|refine rD Γ hm qq ?_);conv=>whnf))
 exact dN
theorem Lt {n:Net} {irb dst:Int} (h:(lookT n irb dst).2=true):InIrbs n (lookT n irb dst).1:=by
 unfold lookT at h ⊢
 split at h
 ·cases h
 rename_i h1
 rw[if_neg h1]
 split at h
 ·cases h
 rename_i h2
 rw[if_neg h2]
 have hm:=Q3 (Aja n irb) (K2 n irb dst) (List.length_pos_iff.2 h2) ((K2 n irb dst).length-1) (by have:=List.length_pos_iff.2 h2;omega)
 have:=(Ms (p:=S9 n irb dst) (j:=n.irbs.length)).1 hm
 exact⟨this.1,by omega⟩
end Go.Sy.YteinjapglfkamaaGreat
namespace Go.Sy.YteinjapglfkamaaGreat
open Go.Proofs
attribute [local irreducible] Go.Sy.G Go.Sy.DR
set_option maxRecDepth 100000
set_option maxHeartbeats 4000000
theorem Akk (i:Int) (h0:0≤i) (h5:i≤5):Sy.Spec Tryz.prog 157 [Aa i] [] (A5 (8 * (5-i))) []:=cT F157 Tryz.ntmps157 fun F hF=>by
 conv=>whnf
 refine iW ?_
 refine iW ?_
 refine Am E (.cons .tmp .nil) (congrArg (fun z=>SV.val (.int .u64 z)) ?_) E
 rw[IntKind.wrap_u64]
 omega
def be:Nat→Nat→List UInt8
 | 0,_=>[]
 | k+1,m=>UInt8.ofNat (m / 256 ^ k)::be k m
theorem As (m:Nat):∀ k,(be k m).length=k
 | 0=>rfl
 | k+1=>by simp[be,As m k]
theorem Vb (m:Nat):∀ (k j:Nat) (_h:j<k),(be k m).take (j+1)=(be k m).take j++[UInt8.ofNat (m / 256 ^ (k-1-j))]
 | 0,j,h=>by omega
 | k+1,0,h=>by simp[be]
 | k+1,j+1,h=>by
  have:=Vb m k j qn
  simp only[be,List.take_succ_cons,List.cons_append,this]
  rw[show k+1-1-(j+1)=k-1-j by omega]
theorem Abf (m k:Nat) (hk:k≤7):IntKind.u8.wrap ((m:Int).fdiv (2 ^ (min (8 * (k:Int)).toNat IntKind.u64.bits)))=((UInt8.ofNat (m / 256 ^ k)).toNat:Int):=by
 have h1:min (8 * (k:Int)).toNat IntKind.u64.bits=8 * k:=by simp[IntKind.bits];omega
 rw[h1,Int.fdiv_eq_ediv_of_nonneg _ (by exact Int.pow_nonneg qx),IntKind.wrap_u8]
 have h2:(2:Int) ^ (8 * k)=((256 ^ k:Nat):Int):=by rw[Int.pow_mul];simp
 rw[h2]
 simp
theorem put2 (l:List UInt8) (hl:l.length<1000000) (m:Nat):Sy.Spec Tryz.prog 106 [.osl 0,A5 m] [(0,.row 1 Ae l)] (.osl 1) [(0,.non),(1,.row 1 Ae (l++be 6 m))]:=cT F106 Tryz.ntmps106 fun F hF=>by
 conv=>whnf
 refine Af7 0 1 [0] E E qx (by simp;rfl) ?_
 refine Az 6 (fun j=>[(0,.osl 1),(1,A5 m),(6,Aa j)]) (fun j=>[(0,.non),(1,.row 1 Ae (l++(be 6 m).take j))]) [(0,0),(1,1)] ⟨⟨E,E,E,E,E,E,Y⟩,⟨.inl E,E,.inl (congrArg (Ob.row 1 Ae) (List.append_nil l)),E,Y⟩,E,E⟩ ?_
 intro j hj
 refine oO ?_
 refine⟨fun h=>?_,fun h=>?_⟩
 ·have hlt:j<6:=qA h
  refine oO ?_
  refine c0 (Akk j qn qn) F157 ?_
  refine oO ?_
  refine⟨by omega,?_⟩
  conv=>whnf
  refine Ad (Ah Γ.toTy 16 E E E E E (.row E) (.lit (l:=[UInt8.ofNat (m / 256 ^ (5-j))]) E ?_) qy ?_ ?_) E E ?_
  ·have:=Abf m (5-j) qn
   rw[show ((5-j:Nat):Int)=5-(j:Int) by omega]at this
   simp only[List.map_cons,List.map_nil,Ae,← this]
  ·simp[As];omega
  ·simp[As];omega
  refine oO ?_
  refine iW ?_
  exact Ar [(0,0),(1,16)] hlt ⟨⟨E,E,E,E,E,E,Y⟩,⟨.inl E,E,.inl (congrArg (Ob.row 1 Ae) (by rw[Vb _ _ _ hlt,List.append_assoc])),E,Y⟩,E,E⟩
 ·have:j=6:=qB h
  subst this
  refine oO ?_
  exact done E (.cons .tmp .nil) [(0,0),(1,1)] _ (fun _ h=>h) E E ⟨Y,⟨.inl E,E,.inl E,E,Y⟩,E,E⟩
theorem put2n (m:Nat):Sy.Spec Tryz.prog 106 [.val (.slice none 0 0),A5 m] [] (.osl 0) [(0,.row 1 Ae (be 6 m))]:=cT F106 Tryz.ntmps106 fun F hF=>by
 conv=>whnf
 refine Cc 0 1000 1 Ae E E ?_
 refine Az 6 (fun j=>[(0,.osl 1000),(1,A5 m),(6,Aa j)]) (fun j=>[(1000,.row 1 Ae ((be 6 m).take j))]) [] ⟨⟨E,E,E,E,E,E,Y⟩,⟨.inl E,E,Y⟩,E,E⟩ ?_
 intro j hj
 refine oO ?_
 refine⟨fun h=>?_,fun h=>?_⟩
 ·have hlt:j<6:=qA h
  refine oO ?_
  refine c0 (Akk j qn qn) F157 ?_
  refine oO ?_
  refine⟨by omega,?_⟩
  conv=>whnf
  refine Ad (Ah Γ.toTy 16 E E E E E (.row E) (.lit (l:=[UInt8.ofNat (m / 256 ^ (5-j))]) E ?_) qy ?_ ?_) E E ?_
  ·have:=Abf m (5-j) qn
   rw[show ((5-j:Nat):Int)=5-(j:Int) by omega]at this
   simp only[List.map_cons,List.map_nil,Ae,← this]
  ·simp[As];omega
  ·simp[As];omega
  refine oO ?_
  refine iW ?_
  exact Ar [(1000,16)] hlt ⟨⟨E,E,E,E,E,E,Y⟩,⟨.inl (congrArg (Ob.row 1 Ae) (Vb _ _ _ hlt)),E,Y⟩,E,E⟩
 ·have:j=6:=qB h
  subst this
  refine oO ?_
  exact done E (.cons .tmp .nil) [(0,1000)] _ (fun _ h=>h) E E ⟨Y,⟨.inl E,E,Y⟩,E,E⟩
theorem Ag0 (m k:Nat):m / 256 ^ k / 256=m / 256 ^ (k+1):=by rw[Nat.div_div_eq_div_mul,Nat.pow_succ]
theorem Amc (m:Nat) (hm64:m<18446744073709551616):Sy.Spec Tryz.prog 110 [A5 m] [] (.osl 0) [(0,.row 1 Ae (be 6 m))]:=cT F110 Tryz.ntmps110 fun F hF=>by
 conv=>whnf
 refine Cc 3 1000 1 Ae E E ?_
 refine Az 6 (fun j=>[(0,A5 m),(3,.osl 1000),(4,Aa (5-(j:Int)))]) (fun j=>[(1000,.row 1 Ae ((be 6 m).take j))]) [] ⟨⟨E,E,E,E,E,E,Y⟩,⟨.inl E,E,Y⟩,E,E⟩ ?_
 intro j hj
 refine oO ?_
 refine⟨fun h=>?_,fun h=>?_⟩
 ·have hlt:j<6:=qA h
  refine oO ?_
  refine Az (5-j) (fun k=>[(0,A5 m),(3,.osl 1000),(4,Aa (5-(j:Int))),(5,A5 (m / 256 ^ k:Nat)),(6,Aa k)]) (fun _=>[(1000,.row 1 Ae ((be 6 m).take j))]) [] ⟨⟨E,E,E,E,E,E,by simp;rfl,E,E,E,Y⟩,⟨.inl E,E,Y⟩,E,E⟩ ?_
  intro k hk
  refine oO ?_
  refine⟨fun h2=>?_,fun h2=>?_⟩
  ·have hlt2:k<5-j:=by have:=of_decide_eq_true h2;omega
   refine oO ?_
   refine⟨by decide,?_⟩
   conv=>whnf
   refine iW ?_
   refine Ar [] qn ⟨⟨E,E,E,E,E,E,congrArg (fun z=>SV.val (.int .u64 z)) ?_,E,E,E,Y⟩,⟨.inl E,E,Y⟩,E,E⟩
   have h5:m / 256 ^ k≤m:=Nat.div_le_self _ _
   rw[Int.tdiv_eq_ediv_of_nonneg (Int.natCast_nonneg _),IntKind.wrap_u64,← Ag0]
   generalize m / 256 ^ k=q at *
   omega
  ·have:k=5-j:=by have:=of_decide_eq_false h2;omega
   subst this
   refine oO ?_
   refine⟨by decide,?_⟩
   conv=>whnf
   refine Ad (Ah Γ.toTy 24 E E E E E (.row E) (.lit (l:=[UInt8.ofNat (m / 256 ^ (5-j))]) E ?_) qy ?_ ?_) E E ?_
   ·simp only[List.map_cons,List.map_nil,Ae]
    congr 3
    rw[Int.tmod_eq_emod_of_nonneg (Int.natCast_nonneg _),IntKind.wrap_u8]
    simp
   ·simp[As];omega
   ·simp[As];omega
   refine oO ?_
   refine iW ?_
   exact Ar [(1000,24)] hlt ⟨⟨E,E,E,E,congrArg (fun z=>SV.val (.int .i64 z)) qn,E,Y⟩,⟨.inl (congrArg (Ob.row 1 Ae) (Vb _ _ _ hlt)),E,Y⟩,E,E⟩
 ·have:j=6:=qB h
  subst this
  refine oO ?_
  exact done E (.cons .tmp .nil) [(0,1000)] _ (fun _ h=>h) E E ⟨Y,⟨.inl E,E,Y⟩,E,E⟩
def Ai1 (d s:Nat) (t:Int) (body:List UInt8):SV:=.agg [A5 d,A5 s,Aa t,.sl 1 Ae body]
def frame (d s t:Nat) (body:List UInt8):List UInt8:=be 6 d++be 6 s++[UInt8.ofNat (t / 256),UInt8.ofNat t]++body
theorem D1 (t:Nat):[UInt8.ofNat (t / 256),UInt8.ofNat t].map Ae=[SV.val (.int .u8 (IntKind.u8.wrap ((t:Int).fdiv (2 ^ (min (Int.toNat 8) IntKind.i64.bits))))),SV.val (.int .u8 (IntKind.u8.wrap (t:Int)))]:=by
 have h1:IntKind.u8.wrap ((t:Int).fdiv (2 ^ (min (Int.toNat 8) IntKind.i64.bits)))=((UInt8.ofNat (t / 256)).toNat:Int):=by
  show IntKind.u8.wrap ((t:Int).fdiv 256)=_
  rw[Int.fdiv_eq_ediv_of_nonneg _ qx,IntKind.wrap_u8]
  simp
 have h2:IntKind.u8.wrap (t:Int)=((UInt8.ofNat t).toNat:Int):=by
  rw[IntKind.wrap_u8]
  simp
 rw[h1,h2]
 rfl
theorem Ad5 (t:Nat) (ht:t≤65535):[UInt8.ofNat (t / 256),UInt8.ofNat t].map Ae=[SV.val (.int .u8 (IntKind.u8.wrap (IntKind.i64.wrap ((t:Int).tdiv 256)))),SV.val (.int .u8 (IntKind.u8.wrap ((t:Int).tmod 256)))]:=by
 have h1:IntKind.u8.wrap (IntKind.i64.wrap ((t:Int).tdiv 256))=((UInt8.ofNat (t / 256)).toNat:Int):=by
  rw[Int.tdiv_eq_ediv_of_nonneg qn,IntKind.wrap_u8,IntKind.wrap_i64]
  simp
  omega
 have h2:IntKind.u8.wrap ((t:Int).tmod 256)=((UInt8.ofNat t).toNat:Int):=by
  rw[Int.tmod_eq_emod_of_nonneg qn,IntKind.wrap_u8]
  simp
 rw[h1,h2]
 rfl
theorem Ac5 (d s t:Nat) (body:List UInt8) (hd:d<281474976710656) (hs:s<281474976710656) (ht:t≤65535) (hb:body.length≤1504):Sy.Spec Tryz.prog 45 [Ai1 d s t body] [] (.tup [.osl 0,Aa 0]) [(0,.row 1 Ae (frame d s t body))]:=cT F45 Tryz.ntmps45 fun F hF=>by
 conv=>whnf
 refine⟨fun h=>absurd (of_decide_eq_true h) qn,fun _=>?_⟩
 refine oO ?_
 refine⟨fun h=>absurd (of_decide_eq_true h) qn,fun _=>?_⟩
 refine oF ?_
 refine⟨fun h=>absurd (of_decide_eq_true h) qn,fun _=>?_⟩
 refine oO ?_
 refine⟨fun h=>absurd (of_decide_eq_true h) qn,fun _=>?_⟩
 refine oO ?_
 refine Bk (Af [(0,31)] E F106 (put2n d) E Y E ⟨.inr E,Y⟩) qq E ?_
 refine oD ?_
 refine Bk (Af [(0,31),(1,34)] E F106 (put2 (be 6 d) (by simp[As]) s) E ⟨E,Y⟩ E ⟨.inl E,.inr E,Y⟩) qq E ?_
 refine oD ?_
 refine kW ?_
 refine⟨by decide,?_⟩
 conv=>whnf
 refine Bk (Ah Γ.toTy 44 E E E E E (.row E) (.lit (l:=[UInt8.ofNat (t / 256),UInt8.ofNat t]) E (D1 t)) qx ?_ ?_) qq E ?_
 ·simp[As]
 ·simp[As]
 refine oD ?_
 refine Bk (Ah Γ.toTy 47 E E E E E (.row E) .sl qx ?_ ?_) qq E ?_
 ·simp[As];omega
 ·simp[As];omega
 refine oD ?_
 refine kW ?_
 exact done E (.cons .tmp (.cons .tmp .nil)) [(0,47)] _ (fun _ h=>h) E E ⟨Y,⟨.inl E,E,Y⟩,E,E⟩
theorem Ah4 (d s t:Nat) (body:List UInt8) (hd:d<281474976710656) (hs:s<281474976710656) (ht:t≤65535) (hb:body.length≤1504):Sy.Spec Tryz.prog 49 [Ai1 d s t body] [] (.tup [.osl 0,Aa 0]) [(0,.row 1 Ae (frame d s t body))]:=cT F49 Tryz.ntmps49 fun F hF=>by
 conv=>whnf
 refine⟨fun h=>absurd (of_decide_eq_true h) qn,fun _=>?_⟩
 refine oO ?_
 refine⟨fun h=>absurd (of_decide_eq_true h) qn,fun _=>?_⟩
 refine oF ?_
 refine⟨fun h=>absurd (of_decide_eq_true h) qn,fun _=>?_⟩
 refine oO ?_
 refine⟨fun h=>absurd (of_decide_eq_true h) qn,fun _=>?_⟩
 refine oO ?_
 refine Bk (Af [(0,29)] E F110 (Amc d qn) E Y E ⟨.inr E,Y⟩) qq E ?_
 refine oD ?_
 refine Bk (Af [(0,32)] E F110 (Amc s qn) E Y E ⟨.inr E,Y⟩) qq E ?_
 refine oD ?_
 refine Bk (Ah Γ.toTy 33 E E E E E (.row E) (.row E) qx ?_ ?_) qq E ?_
 ·simp[As]
 ·simp[As]
 refine oD ?_
 refine kW ?_
 refine⟨by decide,?_⟩
 conv=>whnf
 refine⟨by decide,?_⟩
 conv=>whnf
 refine Ad (Ah Γ.toTy 44 E E E E E (.row E) (.lit (l:=[UInt8.ofNat (t / 256),UInt8.ofNat t]) E (Ad5 t ht)) qx ?_ ?_) E E ?_
 ·simp[As]
 ·simp[As]
 refine oO ?_
 refine Ad (Ah Γ.toTy 48 E E E E E (.row E) .sl qx ?_ ?_) E E ?_
 ·simp[As];omega
 ·simp[As];omega
 refine oO ?_
 exact done E (.cons .tmp (.cons .tmp .nil)) [(0,48)] _ (fun _ h=>h) E E ⟨Y,⟨.inl E,E,Y⟩,E,E⟩
end Go.Sy.YteinjapglfkamaaGreat
namespace Go.Sy.YteinjapglfkamaaGreat
structure FrameM where
 dst:Nat
 src:Nat
 typ:Nat
 body:List UInt8
def B4 (f:FrameM):SV:=Ai1 f.dst f.src f.typ f.body
structure StepM where
 kind:Int
 port:Int
 domain:Int
 at_:Int
 bytes:List UInt8
 up:List Bool
def Du (x:StepM):SV:=.agg [Aa x.kind,Aa x.port,Aa x.domain,Aa x.at_,.sl 1 Ae x.bytes,.sl 1 Ab x.up]
structure SeenM where
 port:Int
 origin:Int
 bytes:List UInt8
def Dj (x:SeenM):SV:=.agg [Aa x.port,Aa x.origin,.sl 1 Ae x.bytes]
def E2 (ip:Int):Nat:=2199023255552+ip.toNat
def Hs (a bits:Int):Int:=if 0≤bits∧bits≤32 then a-a % 2 ^ (32-bits).toNat else 0
def C2 (n:Nat):Nat:=if n=0 then 0 else (n-1) % 65535+1
end Go.Sy.YteinjapglfkamaaGreat
namespace Go.Sy.YteinjapglfkamaaGreat
open Go.Proofs
attribute [local irreducible] Go.Sy.G Go.Sy.DR
set_option maxRecDepth 100000
set_option maxHeartbeats 4000000
def Qv (a bits:Int):SV:=.agg [Bi a,Aa bits]
theorem Xk (a bits:Int):Sy.Spec Tryz.prog 269 [Qv a bits] [] (Ab (decide (0≤bits∧bits≤32))) []:=cT F269 Tryz.ntmps269 fun F hF=>by
 conv=>whnf
 (repeat' (first | (refine⟨fun h=>?_,fun h=>?_⟩<;>(repeat (first | simp only[decide_eq_true_eq]at h | simp only[decide_eq_false_iff_not]at h))<;>((refine oO ?_))) | (refine Am rfl (.cons .tmp .nil) ?_ rfl)))
 all_goals (refine congrArg Ab ?_;clear hF;grind)
theorem Y9 (a bits:Int) (h:0≤bits∧bits≤32):Sy.Spec Tryz.prog 270 [Qv a bits] [] (Bi (2 ^ (32-bits).toNat-1)) []:=cT F270 Tryz.ntmps270 fun F hF=>by
 conv=>whnf
 refine iW ?_
 refine⟨by omega,?_⟩
 conv=>whnf
 refine Am E (.cons .tmp .nil) ?_ E
 refine congrArg (fun z=>SV.val (.int .u32 z)) ?_
 obtain ⟨k,hk,hk2⟩:∃ k:Nat,(32-bits).toNat=k∧k≤32:=⟨_,rfl,by omega⟩
 have h1:min (32-bits).toNat IntKind.u32.bits=k:=by show min (32-bits).toNat 32=k;omega
 rw[h1,hk,IntKind.wrap_u32,IntKind.wrap_u32]
 have h2:(2:Int) ^ k≤4294967296:=by
  have:=Nat.pow_le_pow_right (n:=2) qx hk2
  rw[show (2:Int) ^ k=((2 ^ k:Nat):Int) by rw[Int.natCast_pow];rfl]
  have e:(2:Nat) ^ 32=4294967296:=rfl
  rw[e]at this
  omega
 have h0:(1:Int)≤2 ^ k:=by
  have:=Nat.one_le_two_pow (n:=k)
  rw[show (2:Int) ^ k=((2 ^ k:Nat):Int) by rw[Int.natCast_pow];rfl]
  omega
 generalize (2:Int) ^ k=q at *
 omega
theorem Xg (a k:Nat) (ha:a<4294967296) (hk:k≤32):bits .andNot .u32 (a:Int) ((2 ^ k-1:Nat):Int)=((a-a % 2 ^ k:Nat):Int):=by
 have hp:=Nat.pow_le_pow_right (n:=2) qx hk
 have e32:(2:Nat) ^ 32=4294967296:=rfl
 rw[e32]at hp
 have h1:=Nat.one_le_two_pow (n:=k)
 have x1:(BitVec.ofInt 32 (a:Int)).toNat=a:=by rw[BitVec.ofInt_natCast,BitVec.toNat_ofNat];exact Nat.mod_eq_of_lt qn
 have x2:(BitVec.ofInt 32 ((2 ^ k-1:Nat):Int)).toNat=2 ^ k-1:=by rw[BitVec.ofInt_natCast,BitVec.toNat_ofNat];exact Nat.mod_eq_of_lt qn
 have key:(BitVec.ofInt 32 (a:Int) &&& ~~~ BitVec.ofInt 32 ((2 ^ k-1:Nat):Int)).toNat=a-a % 2 ^ k:=by
  have hd:a-a % 2 ^ k=2 ^ k * (a / 2 ^ k):=by have:=Nat.div_add_mod a (2 ^ k);omega
  rw[hd]
  refine Nat.eq_of_testBit_eq fun i=>?_
  rw[BitVec.testBit_toNat,BitVec.getLsbD_and,BitVec.getLsbD_not,← BitVec.testBit_toNat,← BitVec.testBit_toNat,x1,x2,Nat.testBit_two_pow_sub_one,Nat.testBit_two_pow_mul,Nat.testBit_div_two_pow]
  by_cases hi:i<k
  ·have:¬ i≥k:=by omega
   simp[hi,this]
  ·have h2:i≥k:=by omega
   have h3:i-k+k=i:=by omega
   by_cases h4:i<32
   ·simp[hi,h2,h4,h3]
   ·have h5:a.testBit i=false:=Nat.testBit_lt_two_pow (Nat.lt_of_lt_of_le (by rw[← e32]at ha;exact ha) (Nat.pow_le_pow_right qx qn))
    rw[h3,h5]
    simp
 show IntKind.u32.wrap (((BitVec.ofInt 32 (a:Int) &&& ~~~ BitVec.ofInt 32 ((2 ^ k-1:Nat):Int)).toNat:Nat):Int)=_
 rw[key,IntKind.wrap_u32]
 omega
theorem Kv (a k:Nat) (bits:Int) (h:0≤bits∧bits≤32) (hk:(32-bits).toNat=k):Hs a bits=((a-a % 2 ^ k:Nat):Int):=by
 rw[Hs,if_pos h,hk]
 have h1:=Nat.mod_le a (2 ^ k)
 rw[show (2:Int) ^ k=((2 ^ k:Nat):Int) by rw[Int.natCast_pow];rfl]
 omega
theorem Af5 (a:Nat) (bits:Int) (ha:a<4294967296):Sy.Spec Tryz.prog 205 [Qv a bits] [] (Bi (Hs a bits)) []:=cT F205 Tryz.ntmps205 fun F hF=>by
 have hr:=Xk a bits
 by_cases hb:0≤bits∧bits≤32
 ·have hrest:=Y9 a bits hb
  rw[decide_eq_true hb]at hr
  obtain ⟨k,hk,hk2⟩:∃ k:Nat,(32-bits).toNat=k∧k≤32:=⟨_,rfl,by omega⟩
  have hn:=Xg a k ha hk2
  have hf:=Kv a k bits hb hk
  have h1:=Nat.one_le_two_pow (n:=k)
  have e2:(2:Int) ^ k-1=((2 ^ k-1:Nat):Int):=by
   rw[show (2:Int) ^ k=((2 ^ k:Nat):Int) by rw[Int.natCast_pow];rfl]
   omega
  rw[hk,e2]at hrest
  rw[hf,← hn]
  ((conv=>whnf);repeat((first|refine aF ?_|refine aT ?_);(first|refine rG Γ hm ?_|refine rD Γ hm qq ?_);conv=>whnf))
  refine c0 hr F269 ?_
  ((first|refine rG Γ hm ?_|refine rD Γ hm qq ?_);(conv=>whnf);repeat((first|refine aF ?_|refine aT ?_);(first|refine rG Γ hm ?_|refine rD Γ hm qq ?_);conv=>whnf))
  first | refine cD hrest F270 ?_ | refine c0 hrest F270 ?_
  ((first|refine rG Γ hm ?_|refine rD Γ hm qq ?_);(conv=>whnf);repeat((first|refine aF ?_|refine aT ?_);(first|refine rG Γ hm ?_|refine rD Γ hm qq ?_);conv=>whnf))
  first | (refine⟨qq,?_⟩;((conv=>whnf);repeat((first|refine aF ?_|refine aT ?_);(first|refine rG Γ hm ?_|refine rD Γ hm qq ?_);conv=>whnf))) | skip
  exact dN
 ·rw[decide_eq_false hb]at hr
  have hf:Hs a bits=0:=by rw[Hs,if_neg hb]
  rw[hf]
  ((conv=>whnf);repeat((first|refine aF ?_|refine aT ?_);(first|refine rG Γ hm ?_|refine rD Γ hm qq ?_);conv=>whnf))
  refine c0 hr F269 ?_
  ((first|refine rG Γ hm ?_|refine rD Γ hm qq ?_);(conv=>whnf);repeat((first|refine aF ?_|refine aT ?_);(first|refine rG Γ hm ?_|refine rD Γ hm qq ?_);conv=>whnf))
  exact dN
def J0 (a bits:Int):Int:=if 0≤bits∧bits≤32 then Hs a bits+2 ^ (32-bits).toNat-1 else 0
theorem or_low (a k:Nat) (ha:a<4294967296) (hk:k≤32):bits .or .u32 (a:Int) ((2 ^ k-1:Nat):Int)=((a-a % 2 ^ k+(2 ^ k-1):Nat):Int):=by
 have hp:=Nat.pow_le_pow_right (n:=2) qx hk
 have e32:(2:Nat) ^ 32=4294967296:=rfl
 rw[e32]at hp
 have h1:=Nat.one_le_two_pow (n:=k)
 have x1:(BitVec.ofInt 32 (a:Int)).toNat=a:=by rw[BitVec.ofInt_natCast,BitVec.toNat_ofNat];exact Nat.mod_eq_of_lt qn
 have x2:(BitVec.ofInt 32 ((2 ^ k-1:Nat):Int)).toNat=2 ^ k-1:=by rw[BitVec.ofInt_natCast,BitVec.toNat_ofNat];exact Nat.mod_eq_of_lt qn
 have hd:a-a % 2 ^ k=2 ^ k * (a / 2 ^ k):=by have:=Nat.div_add_mod a (2 ^ k);omega
 have hsum:=Nat.two_pow_add_eq_or_of_lt (i:=k) (b:=2 ^ k-1) qn (a / 2 ^ k)
 have key:(BitVec.ofInt 32 (a:Int) ||| BitVec.ofInt 32 ((2 ^ k-1:Nat):Int)).toNat=a-a % 2 ^ k+(2 ^ k-1):=by
  rw[hd,hsum]
  refine Nat.eq_of_testBit_eq fun i=>?_
  rw[BitVec.testBit_toNat,BitVec.getLsbD_or,← BitVec.testBit_toNat,← BitVec.testBit_toNat,x1,x2,Nat.testBit_or,Nat.testBit_two_pow_sub_one,Nat.testBit_two_pow_mul,Nat.testBit_div_two_pow]
  by_cases hi:i<k
  ·simp[hi]
  ·have h2:i≥k:=by omega
   have h3:i-k+k=i:=by omega
   simp[hi,h2,h3]
 show IntKind.u32.wrap (((BitVec.ofInt 32 (a:Int) ||| BitVec.ofInt 32 ((2 ^ k-1:Nat):Int)).toNat:Nat):Int)=_
 have hlt:(BitVec.ofInt 32 (a:Int) ||| BitVec.ofInt 32 ((2 ^ k-1:Nat):Int)).toNat<4294967296:=BitVec.isLt _
 rw[key]at hlt
 rw[key,IntKind.wrap_u32]
 omega
theorem Tn (a k:Nat) (bits:Int) (h:0≤bits∧bits≤32) (hk:(32-bits).toNat=k):J0 a bits=((a-a % 2 ^ k+(2 ^ k-1):Nat):Int):=by
 rw[J0,if_pos h,hk,Kv a k bits h hk]
 have h1:=Nat.one_le_two_pow (n:=k)
 rw[show (2:Int) ^ k=((2 ^ k:Nat):Int) by rw[Int.natCast_pow];rfl]
 omega
theorem Za (a:Nat) (bits:Int) (ha:a<4294967296):Sy.Spec Tryz.prog 206 [Qv a bits] [] (Bi (J0 a bits)) []:=cT F206 Tryz.ntmps206 fun F hF=>by
 have hr:=Xk a bits
 by_cases hb:0≤bits∧bits≤32
 ·have hrest:=Y9 a bits hb
  rw[decide_eq_true hb]at hr
  obtain ⟨k,hk,hk2⟩:∃ k:Nat,(32-bits).toNat=k∧k≤32:=⟨_,rfl,by omega⟩
  have hn:=or_low a k ha hk2
  have hf:=Tn a k bits hb hk
  have h1:=Nat.one_le_two_pow (n:=k)
  have e2:(2:Int) ^ k-1=((2 ^ k-1:Nat):Int):=by
   rw[show (2:Int) ^ k=((2 ^ k:Nat):Int) by rw[Int.natCast_pow];rfl]
   omega
  rw[hk,e2]at hrest
  rw[hf,← hn]
  ((conv=>whnf);repeat((first|refine aF ?_|refine aT ?_);(first|refine rG Γ hm ?_|refine rD Γ hm qq ?_);conv=>whnf))
  refine c0 hr F269 ?_
  ((first|refine rG Γ hm ?_|refine rD Γ hm qq ?_);(conv=>whnf);repeat((first|refine aF ?_|refine aT ?_);(first|refine rG Γ hm ?_|refine rD Γ hm qq ?_);conv=>whnf))
  first | refine cD hrest F270 ?_ | refine c0 hrest F270 ?_
  ((first|refine rG Γ hm ?_|refine rD Γ hm qq ?_);(conv=>whnf);repeat((first|refine aF ?_|refine aT ?_);(first|refine rG Γ hm ?_|refine rD Γ hm qq ?_);conv=>whnf))
  first | (refine⟨qq,?_⟩;((conv=>whnf);repeat((first|refine aF ?_|refine aT ?_);(first|refine rG Γ hm ?_|refine rD Γ hm qq ?_);conv=>whnf))) | skip
  exact dN
 ·rw[decide_eq_false hb]at hr
  have hf:J0 a bits=0:=by rw[J0,if_neg hb]
  rw[hf]
  ((conv=>whnf);repeat((first|refine aF ?_|refine aT ?_);(first|refine rG Γ hm ?_|refine rD Γ hm qq ?_);conv=>whnf))
  refine c0 hr F269 ?_
  ((first|refine rG Γ hm ?_|refine rD Γ hm qq ?_);(conv=>whnf);repeat((first|refine aF ?_|refine aT ?_);(first|refine rG Γ hm ?_|refine rD Γ hm qq ?_);conv=>whnf))
  exact dN
theorem Amu (a b:Nat) (ha:a<4294967296) (hb:b<4294967296):bits .xor .u32 (a:Int) (b:Int)=((a ^^^ b:Nat):Int):=by
 have x1:(BitVec.ofInt 32 (a:Int)).toNat=a:=by rw[BitVec.ofInt_natCast,BitVec.toNat_ofNat];exact Nat.mod_eq_of_lt qn
 have x2:(BitVec.ofInt 32 (b:Int)).toNat=b:=by rw[BitVec.ofInt_natCast,BitVec.toNat_ofNat];exact Nat.mod_eq_of_lt qn
 show IntKind.u32.wrap (((BitVec.ofInt 32 (a:Int) ^^^ BitVec.ofInt 32 (b:Int)).toNat:Nat):Int)=_
 have hlt:(BitVec.ofInt 32 (a:Int) ^^^ BitVec.ofInt 32 (b:Int)).toNat<4294967296:=BitVec.isLt _
 rw[BitVec.toNat_xor,x1,x2]at hlt ⊢
 rw[IntKind.wrap_u32]
 omega
theorem masked (a x k:Nat) (ha:a<4294967296) (hx:x<4294967296) (hk:k≤32):(bits .andNot .u32 (bits .xor .u32 (a:Int) (x:Int)) ((2 ^ k-1:Nat):Int) == 0)=decide (a / 2 ^ k=x / 2 ^ k):=by
 have hxl:a ^^^ x<4294967296:=Nat.xor_lt_two_pow (n:=32) ha hx
 rw[Amu a x ha hx,Xg _ k hxl hk]
 have hd:(a ^^^ x)-(a ^^^ x) % 2 ^ k=2 ^ k * ((a ^^^ x) / 2 ^ k):=by have:=Nat.div_add_mod (a ^^^ x) (2 ^ k);omega
 rw[hd,Nat.xor_div_two_pow]
 have h1:=Nat.one_le_two_pow (n:=k)
 by_cases h:a / 2 ^ k=x / 2 ^ k
 ·rw[h,Nat.xor_self]
  simp
 ·rw[decide_eq_false h]
  have:a / 2 ^ k ^^^ x / 2 ^ k≠0:=fun e=>h (by
   have:=congrArg (fun z=>z ^^^ x / 2 ^ k) e
   simpa [Nat.xor_assoc] using this)
  rw[beq_eq_false_iff_ne]
  intro e
  have e:=Int.natCast_eq_zero.1 e
  rcases Nat.mul_eq_zero.1 e with e | e
  ·omega
  ·exact this e
theorem Aht (a x q:Nat) (hq:0<q):(a / q=x / q)↔(a-a % q≤x∧x≤a-a % q+(q-1)):=by
 have h1:=Nat.div_add_mod a q
 have hd:a-a % q=q * (a / q):=by omega
 rw[hd]
 constructor
 ·intro e
  have h2:=Nat.div_add_mod x q
  have h3:=Nat.mod_lt x hq
  rw[← e]at h2
  omega
 ·rintro ⟨h2,h3⟩
  symm
  rw[Nat.div_eq_iff hq]
  generalize a / q=m at *
  have:q * m=m * q:=Nat.mul_comm ..
  constructor<;>omega
def Ef (n:Net):Prop:=∀ x∈n.irbs,0≤x.addr∧x.addr<4294967296
end Go.Sy.YteinjapglfkamaaGreat
namespace Go.Sy.YteinjapglfkamaaGreat
open Go.Proofs
set_option maxRecDepth 20000
set_option maxHeartbeats 4000000
theorem Mo {x:Int} (h0:0≤x) (h1:x<4294967297):IntKind.i64.wrap x=x:=by
 rw[IntKind.wrap_i64];omega
theorem Ahc {x:Int} (h0:0≤x) (h1:x<4294967296):IntKind.u32.wrap x=x:=by
 rw[IntKind.wrap_u32];omega
theorem Ah1 (b:Int) (h:0≤b∧b≤32):Abo b=((2 ^ (32-b).toNat-1:Nat):Int):=by
 obtain ⟨k,hk,hk2⟩:∃ k:Nat,(32-b).toNat=k∧k≤32:=⟨_,rfl,by omega⟩
 have h1:min (32-b).toNat IntKind.u32.bits=k:=by show min (32-b).toNat 32=k;omega
 have hp:=Nat.pow_le_pow_right (n:=2) qx hk2
 have e32:(2:Nat) ^ 32=4294967296:=rfl
 rw[e32]at hp
 have h0:=Nat.one_le_two_pow (n:=k)
 rw[Abo,h1,hk,IntKind.wrap_u32,IntKind.wrap_u32,show (2:Int) ^ k=((2 ^ k:Nat):Int) by rw[Int.natCast_pow];rfl]
 generalize 2 ^ k=q at *
 omega
theorem Alr (a b x:Int) (hb:0≤b∧b≤32) (ha:0≤a∧a<4294967296) (hx:0≤x∧x<4294967296):Aiu a b x=true↔Hs a b≤x∧x≤J0 a b:=by
 obtain ⟨a,rfl⟩:=Int.eq_ofNat_of_zero_le ha.1
 obtain ⟨x,rfl⟩:=Int.eq_ofNat_of_zero_le hx.1
 obtain ⟨k,hk,hk2⟩:∃ k:Nat,(32-b).toNat=k∧k≤32:=⟨_,rfl,by omega⟩
 have h0:=Nat.one_le_two_pow (n:=k)
 rw[Aiu,Ah1 b hb,hk,masked a x k qn qn hk2,decide_eq_true_iff,Aht a x (2 ^ k) qn,Kv a k b hb hk,Tn a k b hb hk]
 omega
theorem Q6 (a b:Int) (ha:0≤a∧a<4294967296):0≤J0 a b∧J0 a b<4294967296:=by
 by_cases hb:0≤b∧b≤32
 ·obtain ⟨a,rfl⟩:=Int.eq_ofNat_of_zero_le ha.1
  obtain ⟨k,hk,hk2⟩:∃ k:Nat,(32-b).toNat=k∧k≤32:=⟨_,rfl,by omega⟩
  have h0:=Nat.one_le_two_pow (n:=k)
  rw[Tn a k b hb hk]
  have hd:a-a % 2 ^ k=2 ^ k * (a / 2 ^ k):=by have:=Nat.div_add_mod a (2 ^ k);omega
  have h32:2 ^ k * 2 ^ (32-k)=4294967296:=by
   rw[← Nat.pow_add,show k+(32-k)=32 by omega]
  have:a / 2 ^ k<2 ^ (32-k):=by rw[Nat.div_lt_iff_lt_mul qn,Nat.mul_comm,h32];omega
  have:2 ^ k * (a / 2 ^ k)+2 ^ k≤2 ^ k * 2 ^ (32-k):=by
   rw[← Nat.mul_succ];exact Nat.mul_le_mul_left _ this
  omega
 ·rw[J0,if_neg hb];omega
theorem Y1 (a b:Int) (ha:0≤a∧a<4294967296):0≤Hs a b∧Hs a b<4294967296:=by
 by_cases hb:0≤b∧b≤32
 ·obtain ⟨a,rfl⟩:=Int.eq_ofNat_of_zero_le ha.1
  rw[Kv a _ b hb rfl]
  omega
 ·rw[Hs,if_neg hb];omega
end Go.Sy.YteinjapglfkamaaGreat
namespace Go.Sy
def Adx (C:Cx) {β:Type} (I:β→Prop) (L:β→List (Nat × SV)) (O:β→Obs) (μ:β→Nat) (x:β) (a:Act) (w:World):Prop :=
 ∃ x':{y:β // I y},∃ κ,μ x'.1<μ x∧St C.F C.n (mkS (L x'.1) (O x'.1)) κ a w
theorem Vc {C:Cx} {k:List KI} {s:SS} {body:Code} {β:Type} (I:β→Prop) (L:β→List (Nat × SV)) (O:β→Obs) (μ:β→Nat) (x₀:β) (ρ:List (Nat × Nat)) (h0:I x₀) (hsub:Sub C s ρ (L x₀) (O x₀))
  (h:∀ x,I x→G C (.code body::.inv (Adx C I L O μ x)::k) (mkS (L x) (O x))):G C (.code (.loop body)::k) s :=
 Me (α:={y:β // I y}) (fun x=>L x.1) (fun x=>O x.1) (fun x=>μ x.1) ⟨x₀,h0⟩ ρ hsub (fun x=>h x.1 x.2)
theorem Iv {C:Cx} {k:List KI} {s:SS} {β:Type} {I:β→Prop} {L:β→List (Nat × SV)} {O:β→Obs} {μ:β→Nat} {x:β} (x':β) (ρ:List (Nat × Nat)) (h':I x') (hμ:μ x'<μ x) (hsub:Sub C s ρ (L x') (O x')) :
  G C (.inv (Adx C I L O μ x)::k) s:=fun _ _ _ hs=>⟨⟨x',h'⟩,_,hμ,hsub.st hs⟩
theorem S6 {C:Cx} {kk:List KI} {s:SS} (k d:Nat) {sz:Nat} {α:Type} {e:α→SV} {l:List α} (h:s.h k=.row sz e l) (hd:s.h d=.fresh) (hkd:k≠d)
  (hg:G C kk ⟨fun i=>frz k (.osl d) (s.σ i),upd (fun j=>bif Nat.beq j k then .non else Ai0 k (.osl d) (s.h j)) d (.row sz e l)⟩):G C kk s:=fun κ a w hs=>by
 have hob:=hs.obj k
 rw[h]at hob
 have hnew:κ d=.new:=by have:=hs.obj d;rwa [hd]at this
 have fin:∀ κ':Ka,(∀ j,j≠k→j≠d→κ' j=κ j)→Step (fun j=>j=k∨j=d) κ w κ' w→Inv κ' w→(∀ v,Rd κ w (.osl k) v→Rd κ' w (.osl d) v)→ObOK κ' w d (.row sz e l)→den C.P C.B kk .normal a w:=by
  intro κ' hne st inv hv ho
  refine hg κ' a w ⟨hs.defers,hs.size,inv,hs.ctx.step inv st,fun j=>Z9 st hv _ _ (hs.slot j),fun j=>?_⟩
  show ObOK κ' w j (upd (fun j=>bif Nat.beq j k then .non else Ai0 k (.osl d) (s.h j)) d (.row sz e l) j)
  by_cases hj:j=d
  ·subst hj;rw[Bc];exact ho
  ·rw[Bv _ _ hj]
   by_cases hj2:j=k
   ·subst hj2;rw[show Nat.beq j j=true from Nat.beq_refl j];trivial
   ·rw[show Nat.beq j k=false from by cases hb:Nat.beq j k with | false=>rfl | true=>exact absurd (Nat.eq_of_beq_eq_true hb) hj2]
    have hb:=ObOK.step st (fun e=>e.elim hj2 hj) _ (hs.obj j)
    have h0:=hs.obj j
    show ObOK κ' w j (Ai0 k (.osl d) (s.h j))
    cases hh:s.h j with
    | box m =>
     rw[hh]at h0 hb
     obtain ⟨b,cs,T,fr,e1,e2,e3,e4,e5⟩:=h0
     exact⟨b,cs,T,fr,(hne j hj2 hj).trans e1,e2,e3,e4,Ku st hv m cs e5⟩
    | fresh=>rw[hh]at hb;exact hb
    | non=>rw[hh]at hb;exact hb
    | row sz' e' l'=>rw[hh]at hb;exact hb
    | lit sz' svs=>rw[hh]at hb;exact hb
    | glob sz' x' g'=>rw[hh]at hb;exact hb
    | pin b' n' cap' sz' e' l'=>rw[hh]at hb;exact hb
    | dat v' sz' e' l'=>rw[hh]at hb;exact hb
 rcases hob with ⟨h1,rfl⟩ | ⟨b,cap,cs,T,fr,e1,e2,e3,e4,e5,e6⟩
 ·have st:=Ey (Hk hs.inv (some k)) (by show Cr κ k .dead d=.new;rw[Bm _ _ (Ne.symm hkd)];exact hnew) (e:=.nil) (Grew.refl w) (fun b hb=>by cases hb)
  refine fin _ (fun j h1 h2=>by rw[Bm _ _ h2];exact Bm _ _ h1) (((Er (some k)).weaken (fun j hj=>.inl (Option.some.inj hj).symm)).trans (st.1.weaken (fun j hj=>.inr hj))) st.2 (fun v hv=>?_) (.inl ⟨An _ _ _,E⟩)
  simp only[Rd,h1]at hv
  simp[Rd,An,hv]
 ·obtain ⟨st,inv⟩:=Jn (n':=l.length) (w':=w) hs.inv e1 hnew rfl rfl rfl rfl (fun _ _=>rfl)
  refine fin _ (fun j h1 h2=>by rw[Bm _ _ h2];exact Bm _ _ h1) st inv (fun v hv=>?_) (.inr ⟨b,cap,cs,T,fr,An _ _ _,e2,e3,e4,e5,fun i x hx=>?_⟩)
  ·simp only[Rd,e1]at hv
   simp[Rd,An,hv]
  ·obtain ⟨q1,u,q2,q3⟩:=e6 i x hx
   exact⟨q1,u,RdD.keep st.keeps _ _ q2,q3⟩
theorem Iw {C:Cx} {k:List KI} {s:SS} (d:Nat) {sz:Nat} {α:Type} (e:α→SV) (l:List α) {svs:List SV} (h:s.h d=.lit sz svs) (hl:l.map e=svs) (hg:G C k ⟨s.σ,upd s.h d (.row sz e l)⟩):G C k s:=fun κ a w hs=>by
 refine hg κ a w ⟨hs.defers,hs.size,hs.inv,hs.ctx,hs.slot,fun j=>?_⟩
 show ObOK κ w j (upd s.h d (.row sz e l) j)
 by_cases hj:j=d
 ·subst hj
  rw[Bc]
  have hob:=hs.obj j
  rw[h]at hob
  have hlen:l.length=svs.length:=by rw[← hl,List.length_map]
  obtain ⟨b,cap,cs,T,fr,e1,e2,e3,e4,e5,e6⟩:=hob
  exact .inr ⟨b,cap,cs,T,fr,by rw[hlen];exact e1,e2,e3,e4,by omega,fun i x hx=>by rw[hlen];exact e6 i x (Jp hl i x hx)⟩
 ·rw[Bv _ _ hj];exact hs.obj j
end Go.Sy
namespace Go.Sy.YteinjapglfkamaaGreat
open Go.Proofs
attribute [local irreducible] Go.Sy.G Go.Sy.DR
set_option maxRecDepth 20000
set_option maxHeartbeats 4000000
theorem Aij {n:Net} {irb dst:Int} (h:(lookT n irb dst).2=true):S9 n irb dst (lookT n irb dst).1.toNat=true:=by
 unfold lookT at h ⊢
 split at h
 ·cases h
 rename_i h1
 rw[if_neg h1]
 split at h
 ·cases h
 rename_i h2
 rw[if_neg h2]
 have hm:=Q3 (Aja n irb) (K2 n irb dst) (List.length_pos_iff.2 h2) ((K2 n irb dst).length-1) (by have:=List.length_pos_iff.2 h2;omega)
 exact((Ms (p:=S9 n irb dst) (j:=n.irbs.length)).1 hm).2.2
theorem Ahu (x:Int) (i:Irb):Sy.Spec Tryz.prog 273 [Ca i,.ref 1 (Bi x) 0] [] (Ab (i.addr == x)) []:=cT F273 Tryz.ntmps273 fun F hF=>by
 conv=>whnf
 exact dN
theorem Ahv (x:Int) (i:Irb):Sy.Spec Tryz.prog 209 [Ca i,.ref 1 (Bi x) 0] [] (Ab (i.addr == x)) []:=cT F209 Tryz.ntmps209 fun F hF=>by
 conv=>whnf
 exact dN
def Ke (n:Net) (a:Int):Bool:=decide (0≤B8 (fun i:Irb=>i.addr == a) n.irbs)
def pastI (n:Net) (a led:Int):Int:=if Ke n a=true then a+1 else J0 (nth n.irbs led).addr (nth n.irbs led).bits+1
theorem Adi (n:Net) (hn:n.Fin) (hu:Ef n) (a led:Int) (ha:0≤a∧a<4294967296) (hl:Ke n a=false→InIrbs n led) :
  Sy.Spec Tryz.prog 210 [Al n,Bi a,Aa led] [] (Aa (pastI n a led)) []:=cT F210 Tryz.ntmps210 fun F hF=>by
 have hlk:=pastI.eq_1 n a led
 generalize pastI n a led=res at *
 have q7:=I4 n.irbs (fun i:Irb=>i.addr == a) 273 [] [.ref 1 (Bi a) 0] rfl (fun i _=>⟨⟨_,_,F273⟩,Ahu a i⟩) hn.irbs
 have ht:decide (0≤B8 (fun i:Irb=>i.addr == a) n.irbs)=Ke n a:=rfl
 rw[ht]at q7
 generalize Ke n a=tk at *
 conv=>whnf
 refine Ba 3 8 (Al n) E E E ?_
 refine Ba 4 1 (Bi a) E E E ?_
 refine oO ?_
 refine c0 q7 F208 ?_
 cases tk
 rotate_left
 ·rw[if_pos rfl]at hlk
  subst hlk
  refine oT ?_
  rw[Mo qn qn]
  refine iW ?_
  exact dN
 rw[if_neg qy]at hlk
 have hli:=hl rfl
 rw[Ai hli.2]at hlk
 have hui:=hu _ (List.getElem_mem hli.2)
 obtain ⟨x,hx⟩:∃ x,n.irbs[led.toNat]'hli.2=x:=⟨_,rfl⟩
 rw[hx]at hlk hui
 obtain ⟨y,hy⟩:=Int.eq_ofNat_of_zero_le hui.1
 have q:=Za y x.bits qn
 have hle:=Q6 x.addr x.bits hui
 rw[← hy]at q
 generalize J0 x.addr x.bits=z at *
 subst hlk
 refine oF ?_
 refine⟨E,hli.1,hli.2,?_⟩
 rw[hx]
 conv=>whnf
 first | refine cD q F206 ?_ | refine c0 q F206 ?_
 refine oO ?_
 rw[Mo qn qn]
 refine iW ?_
 exact dN
theorem Ak0 {n:Net} (hu:Ef n) (hb:Ac n=true) {irb a:Int} (ha:0≤a∧a<4294967296) (h:Ke n a=false→(lookT n irb a).2=true) :
  a<pastI n a (lookT n irb a).1∧pastI n a (lookT n irb a).1≤4294967296:=by
 rw[pastI]
 split
 ·omega
 rename_i ht
 have h2:=h (by simpa using ht)
 have hw:=Aij h2
 have hi:=Lt h2
 have e:((lookT n irb a).1.toNat:Int)=(lookT n irb a).1:=by have:=hi.1;omega
 rw[S9,Bool.and_eq_true,e]at hw
 rw[Ai hi.2]at hw ⊢
 have hui:=hu _ (List.getElem_mem hi.2)
 have hbi:=(C3 hb hi.2).2.2
 have h3:=(Alr _ _ _ hbi hui ha).1 hw.1
 have h4:=Q6 _ (n.irbs[(lookT n irb a).1.toNat]'hi.2).bits hui
 omega
def addrGo (n:Net) (irb to e:Int) (x:Int):Int × Bool :=
 if x≤e then
  if (lookT n irb x).2=true∧(lookT n irb x).1=to∧Ke n x=false then (x,true)
  else if (lookT n irb x).2=false∧Ke n x=false then (0,false)
  else if x<pastI n x (lookT n irb x).1 then addrGo n irb to e (pastI n x (lookT n irb x).1) else (0,false)
 else (0,false)
 termination_by (e+1-x).toNat
 decreasing_by omega
def addrT (n:Net) (irb to:Int):Int × Bool :=
 if (0≤irb∧irb<n.irbs.length)∧(0≤to∧to<n.irbs.length)∧Ac n=true then
  addrGo n irb to (J0 (nth n.irbs to).addr (nth n.irbs to).bits) (Hs (nth n.irbs to).addr (nth n.irbs to).bits) else (0,false)
theorem Xb (n:Net) (hn:n.Fin) (hu:Ef n) (irb to:Int):Sy.Spec Tryz.prog 150 [Al n,Aa irb,Aa to] [] (.tup [Bi (addrT n irb to).1,Ab (addrT n irb to).2]) []:=cT F150 Tryz.ntmps150 fun F hF=>by
 have hlk:=addrT.eq_1 n irb to
 generalize addrT n irb to=res at *
 have hr:=A9 n hn
 have hsi:=hn.irbs
 unfold Aj at hsi
 conv=>whnf
 refine⟨fun h=>?_,fun h=>?_⟩
 ·rw[if_neg (qA h)]at hlk
  subst hlk
  (refine oT ?_;refine bT ?_;refine bT ?_;refine bT ?_)
  exact dN
 have h1:¬ irb<0:=of_decide_eq_false h
 refine oO ?_
 refine⟨fun h=>?_,fun h=>?_⟩
 ·rw[if_neg (qA h)]at hlk
  subst hlk
  (refine oT ?_;refine bT ?_;refine bT ?_)
  exact dN
 have h2:¬ to<0:=of_decide_eq_false h
 refine Ba 3 8 (Al n) E E E ?_
 refine oO ?_
 refine⟨fun h=>?_,fun h=>?_⟩
 ·rw[if_neg (qA h)]at hlk
  subst hlk
  (refine oT ?_;refine bT ?_)
  exact dN
 have h3:irb<n.irbs.length:=qB h
 refine oO ?_
 refine⟨fun h=>?_,fun h=>?_⟩
 ·rw[if_neg (qA h)]at hlk
  subst hlk
  refine oT ?_
  exact dN
 have h4:to<n.irbs.length:=qB h
 refine oO ?_
 refine c0 hr F23 ?_
 cases hb:Ac n
 ·rw[if_neg (by simp[hb])]at hlk
  subst hlk
  refine oT ?_
  exact dN
 rw[if_pos ⟨⟨by omega,h3⟩,⟨by omega,h4⟩,hb⟩]at hlk
 have hti:InIrbs n to:=⟨by omega,by omega⟩
 have hii:InIrbs n irb:=⟨by omega,by omega⟩
 rw[Ai hti.2]at hlk
 have hui:=hu _ (List.getElem_mem hti.2)
 obtain ⟨x,hx⟩:∃ x,n.irbs[to.toNat]'hti.2=x:=⟨_,rfl⟩
 rw[hx]at hlk hui
 obtain ⟨y,hy⟩:=Int.eq_ofNat_of_zero_le hui.1
 have q1:=Af5 y x.bits qn
 have q2:=Za y x.bits qn
 have hf:=Y1 x.addr x.bits hui
 have hle:=Q6 x.addr x.bits hui
 rw[← hy]at q1 q2
 generalize J0 x.addr x.bits=e at *
 generalize Hs x.addr x.bits=s at *
 refine oF ?_
 refine⟨E,hti.1,hti.2,?_⟩
 rw[hx]
 conv=>whnf
 refine cD q1 F205 ?_
 refine oD ?_
 refine cD q2 F206 ?_
 refine oD ?_
 refine kW ?_
 refine Vc (fun z:Int=>0≤z∧z≤4294967296∧res=addrGo n irb to e z) (fun z=>[(1,Aa irb),(2,Aa to),(3,.ref 8 (Al n) 0),(9,Aa z),(10,Aa e)]) (fun _=>[]) (fun z=>(e+1-z).toNat) s [] ⟨hf.1,by omega,hlk⟩
  ⟨⟨rfl,rfl,rfl,rfl,rfl,rfl,congrArg Aa (Mo (x:=s) qn qn).symm,rfl,congrArg Aa (Mo (x:=e) qn qn).symm,rfl,trivial⟩,trivial,rfl,rfl⟩ ?_
 clear hlk
 rintro z ⟨hz0,hz1,hlk⟩
 refine oO ?_
 refine⟨fun h=>?_,fun h=>?_⟩
 ·have h5:z≤e:=of_decide_eq_true h
  rw[addrGo,if_pos h5]at hlk
  have hz2:0≤z∧z<4294967296:=by omega
  have q6:=Zl n hn hb irb z hii
  have hgt:=Ak0 (irb:=irb) hu hb hz2
  have hth:=Lt (n:=n) (irb:=irb) (dst:=z)
  have q8:=fun led hl=>Adi n hn hu z led hz2 hl
  have q7:=I4 n.irbs (fun i:Irb=>i.addr == z) 209 [] [.ref 1 (Bi z) 0] rfl (fun i _=>⟨⟨_,_,F209⟩,Ahv z i⟩) hn.irbs
  have ht:decide (0≤B8 (fun i:Irb=>i.addr == z) n.irbs)=Ke n z:=rfl
  rw[ht]at q7
  clear ht
  generalize Ke n z=tk at *
  generalize lookT n irb z=ld at *
  obtain ⟨led,ok⟩:=ld
  dsimp only at *
  refine oO ?_
  rw[Ahc hz2.1 hz2.2]
  refine c0 q6 F207 ?_
  refine Ba 11 1 (Bi z) E E E ?_
  refine oO ?_
  refine c0 q7 F208 ?_
  cases ok
  ·cases tk
   ·rw[if_neg qy,if_pos ⟨rfl,rfl⟩]at hlk
    subst hlk
    (refine oF ?_;refine bF ?_;refine bF ?_;refine bT ?_;refine bT ?_)
    exact dN
   ·rw[if_neg qy,if_neg qy,if_pos (hgt (fun h=>by cases h)).1]at hlk
    have hg:=hgt (fun h=>by cases h)
    have q:=q8 led (fun h=>by cases h)
    generalize pastI n z led=nx at *
    (refine oF ?_;refine bF ?_;refine bF ?_;refine bT ?_;refine bF ?_)
    refine c0 q F210 ?_
    refine oO ?_
    exact Iv nx [] ⟨by omega,hg.2,hlk⟩ qn ⟨⟨E,E,E,E,E,E,E,E,E,E,Y⟩,Y,E,E⟩
  ·have q:=q8 led (fun _=>hth rfl)
   have hg:=hgt (fun _=>rfl)
   cases tk
   ·by_cases hto:led=to
    ·subst hto
     rw[if_pos ⟨rfl,rfl,rfl⟩]at hlk
     subst hlk
     refine oT ?_
     refine⟨fun h=>?_,fun h=>?_⟩
     ·refine oT ?_
      exact dN
     ·simp at h
    ·rw[if_neg (by simp[hto]),if_neg qy,if_pos hg.1]at hlk
     generalize pastI n z led=nx at *
     refine oT ?_
     refine⟨fun h=>absurd (by simpa using h) hto,fun h=>?_⟩
     (refine oF ?_;refine bF ?_;refine bF ?_)
     refine c0 q F210 ?_
     refine oO ?_
     exact Iv nx [] ⟨by omega,hg.2,hlk⟩ qn ⟨⟨E,E,E,E,E,E,E,E,E,E,Y⟩,Y,E,E⟩
   ·rw[if_neg qy,if_neg qy,if_pos hg.1]at hlk
    generalize pastI n z led=nx at *
    refine oT ?_
    refine⟨fun h=>?_,fun h=>?_⟩
    ·(refine oF ?_;refine bF ?_;refine bF ?_)
     refine c0 q F210 ?_
     refine oO ?_
     exact Iv nx [] ⟨by omega,hg.2,hlk⟩ qn ⟨⟨E,E,E,E,E,E,E,E,E,E,Y⟩,Y,E,E⟩
    ·(refine oF ?_;refine bF ?_;refine bF ?_)
     refine c0 q F210 ?_
     refine oO ?_
     exact Iv nx [] ⟨by omega,hg.2,hlk⟩ qn ⟨⟨E,E,E,E,E,E,E,E,E,E,Y⟩,Y,E,E⟩
 ·have h5:¬ z≤e:=of_decide_eq_false h
  rw[addrGo,if_neg h5]at hlk
  subst hlk
  refine oO ?_
  exact dN
structure Lead where
 (to domain addr:Int)
abbrev Il (l:Lead):SV:=.agg [Aa l.to,Aa l.domain,Bi l.addr]
instance:Inhabited Lead:=⟨⟨0,0,0⟩⟩
def leadF (n:Net) (irb:Int) (i:Nat):Option Lead:=if (addrT n irb i).2=true then some ⟨i,(nth n.irbs i).domain,(addrT n irb i).1⟩ else none
def Lu (n:Net) (irb:Int) (j:Nat):List Lead:=(List.range j).filterMap (leadF n irb)
def routesT (n:Net) (d:Int):List Lead:=if (0≤d∧d<n.domains.length)∧0≤(nth n.domains d).irb∧Ac n=true then Lu n (nth n.domains d).irb n.irbs.length else []
theorem Acl (n:Net) (irb:Int) (j:Nat):Lu n irb (j+1)=Lu n irb j++(match leadF n irb j with | some h=>[h] | none=>[]):=by
 rw[Lu,List.range_succ,List.filterMap_append]
 cases h:leadF n irb j<;>simp[h,Lu]
theorem Oe (n:Net) (irb:Int) (j:Nat):(Lu n irb j).length≤j:=by
 have:=List.length_filterMap_le (leadF n irb) (List.range j)
 simpa [Lu] using this
theorem X9 (n:Net) (hn:n.Fin) (hu:Ef n) (d:Int):Sy.Spec Tryz.prog 96 [Al n,Aa d] [] (.sl 3 Il (routesT n d)) []:=cT F96 Tryz.ntmps96 fun F hF=>by
 have hlk:=routesT.eq_1 n d
 generalize routesT n d=res at *
 have hr:=A9 n hn
 have hsi:=hn.irbs
 unfold Aj at hsi
 conv=>whnf
 refine⟨fun h=>?_,fun h=>?_⟩
 ·rw[if_neg (qA h)]at hlk
  subst hlk
  (refine oT ?_;refine bT ?_;refine bT ?_)
  refine Ak 4 3 Il E ?_
  refine oO ?_
  exact dN
 have h1:¬ d<0:=of_decide_eq_false h
 refine Ba 2 8 (Al n) E E E ?_
 refine oO ?_
 refine⟨fun h=>?_,fun h=>?_⟩
 ·rw[if_neg (qA h)]at hlk
  subst hlk
  (refine oT ?_;refine bT ?_)
  refine Ak 4 3 Il E ?_
  refine oO ?_
  exact dN
 have h2:d<n.domains.length:=qB h
 have hk:d.toNat<n.domains.length:=by omega
 rw[Ai hk]at hlk
 obtain ⟨x,hx⟩:∃ x,n.domains[d.toNat]'hk=x:=⟨_,rfl⟩
 rw[hx]at hlk
 refine oO ?_
 refine⟨E,by omega,hk,?_⟩
 rw[hx]
 conv=>whnf
 refine⟨fun h=>?_,fun h=>?_⟩
 ·rw[if_neg (qA h)]at hlk
  subst hlk
  refine oT ?_
  refine Ak 4 3 Il E ?_
  refine oO ?_
  exact dN
 have h3:0≤x.irb:=qB h
 refine oO ?_
 refine c0 hr F23 ?_
 cases hb:Ac n
 ·rw[if_neg (by simp[hb])]at hlk
  subst hlk
  refine oT ?_
  refine Ak 4 3 Il E ?_
  refine oO ?_
  exact dN
 rw[if_pos ⟨⟨by omega,h2⟩,h3,hb⟩]at hlk
 subst hlk
 refine oF ?_
 refine Cc 5 1000 3 Il E E ?_
 refine Az n.irbs.length (fun j=>[(1,Aa d),(2,.ref 8 (Al n) 0),(5,.osl 1000),(34,.sl 5 Ca n.irbs),(35,Aa n.irbs.length),(36,Aa j)]) (fun j=>[(1000,.row 3 Il (Lu n x.irb j))]) []
  ⟨⟨rfl,rfl,rfl,rfl,rfl,rfl,rfl,rfl,rfl,rfl,rfl,rfl,trivial⟩,⟨.inl rfl,rfl,trivial⟩,rfl,rfl⟩ ?_
 intro j hj
 have hll:=Oe n x.irb j
 refine oO ?_
 refine⟨fun h=>?_,fun h=>?_⟩
 ·have hlt:j<n.irbs.length:=by simpa using h
  have hj0:((j:Nat):Int).toNat<n.irbs.length:=by simpa using hlt
  have q:=Xb n hn hu x.irb j
  have hs:=Acl n x.irb j
  have hle:=leadF.eq_1 n x.irb j
  rw[Ai hj0]at hle
  rw[hle]at hs
  obtain ⟨y,hy⟩:∃ y,n.irbs[((j:Nat):Int).toNat]'hj0=y:=⟨_,rfl⟩
  rw[hy]at hs
  generalize addrT n x.irb j=ad at *
  obtain ⟨a,ok⟩:=ad
  dsimp only at hs q
  refine oO ?_
  refine⟨E,by omega,hj0,?_⟩
  rw[hy]
  conv=>whnf
  refine⟨E,by omega,hk,?_⟩
  rw[hx]
  conv=>whnf
  refine cD q F150 ?_
  refine oD ?_
  refine kW ?_
  refine⟨fun h=>?_,fun h=>?_⟩<;>(have h:ok=_:=h;subst h)
  ·refine oO ?_
   refine Ad (Ah Γ.toTy 61 E E E E E (.row E) (.lit (e:=Il) (l:=[⟨j,y.domain,a⟩]) E E) qy (by simp;omega) (by simp;omega)) E E ?_
   refine oO ?_
   refine iW ?_
   exact Ar [(1000,61)] hlt ⟨⟨E,E,E,E,E,E,E,E,E,E,E,E,Y⟩,⟨.inl (congrArg (Ob.row 3 Il) hs),E,Y⟩,E,E⟩
  ·refine oO ?_
   refine iW ?_
   exact Ar [] hlt ⟨⟨E,E,E,E,E,E,E,E,E,E,E,E,Y⟩,⟨.inl (congrArg (Ob.row 3 Il) (hs.trans (List.append_nil _))),E,Y⟩,E,E⟩
 ·have:j=n.irbs.length:=qB h
  subst this
  refine oO ?_
  refine Aq 1000 E ?_
  refine oO ?_
  exact dN
def I2 (n:Net) (i:Int):Bool:=decide (0≤i) && decide (i<n.ports.length) && decide ((nth n.ports i).link<0)
theorem Qc (n:Net) (i:Int):Sy.Spec Tryz.prog 22 [Al n,Aa i] [] (Ab (I2 n i)) []:=cT F22 Tryz.ntmps22 fun F hF=>by
 conv=>whnf
 refine⟨fun h=>?_,fun h=>?_⟩
 ·have h1:0≤i:=of_decide_eq_true h
  refine Ba 2 8 (Al n) E E E ?_
  refine oO ?_
  refine⟨fun h=>?_,fun h=>?_⟩
  ·have h2:i<n.ports.length:=of_decide_eq_true h
   have hk:i.toNat<n.ports.length:=by omega
   rw[I2,Ai hk,decide_eq_true h1,decide_eq_true h2,Bool.true_and,Bool.true_and]
   obtain ⟨p,hp⟩:∃ p,n.ports[i.toNat]'hk=p:=⟨_,rfl⟩
   rw[hp]
   refine oO ?_
   refine⟨E,h1,hk,?_⟩
   rw[hp]
   conv=>whnf
   exact dN
  ·have h2:¬ i<n.ports.length:=of_decide_eq_false h
   rw[I2,decide_eq_false h2,Bool.and_false,Bool.false_and]
   refine oO ?_
   exact dN
 ·have h1:¬ 0≤i:=of_decide_eq_false h
  rw[I2,decide_eq_false h1,Bool.false_and,Bool.false_and]
  refine oF ?_
  exact dN
structure Fnd where
 (domain kind:Int) (hop:Hop) (ahead:Int)
abbrev Oj (f:Fnd):SV:=.agg [Aa f.domain,Aa f.kind,Aa f.hop.kind,Aa f.hop.port,Aa f.hop.domain,Bi f.hop.addr,Aa f.ahead]
instance:Inhabited Fnd:=⟨⟨0,0,default,0⟩⟩
structure Srch where
 (m0 m1:List Bool) (list:List Fnd)
abbrev stSV (d k:Int):SV:=.agg [Aa d,Aa k]
abbrev T4 (n:Net) (S:Srch):Obs:=[(0,.box [.sl 5 Bf n.devices,.sl 7 A2 n.ports,.sl 3 Cb n.links,.sl 6 Ao n.domains,.sl 4 Bd n.statics,.sl 4 Bs n.floods,.sl 5 Cn n.vrfs,.sl 5 Ca n.irbs,.osl 1,.osl 2,.osl 3]),
 (1,.row 1 Ab S.m0),(2,.row 1 Ab S.m1),(3,.row 7 Oj S.list)]
abbrev Qj (n:Net) (S:Srch):Obs:=[(0,.box [.sl 5 Bf n.devices,.sl 7 A2 n.ports,.sl 3 Cb n.links,.sl 6 Ao n.domains,.sl 4 Bd n.statics,.sl 4 Bs n.floods,.sl 5 Cn n.vrfs,.sl 5 Ca n.irbs,.osl 1,.osl 2,.osl 4]),
 (1,.row 1 Ab S.m0),(2,.row 1 Ab S.m1),(3,.non),(4,.row 7 Oj S.list)]
def M0 (S:Srch) (d k:Int):Bool:=if k=0 then nth S.m0 d else nth S.m1 d
def Ij (S:Srch) (d k:Int) (h:Hop) (ahead:Int):Srch :=
 if k=0 then ⟨S.m0.set d.toNat true,S.m1,S.list++[⟨d,k,h,ahead⟩]⟩ else ⟨S.m0,S.m1.set d.toNat true,S.list++[⟨d,k,h,ahead⟩]⟩
def meetT (S:Srch) (d k:Int) (h:Hop) (ahead:Int):Srch:=if M0 S d k=true then S else Ij S d k h ahead
theorem Ald (n:Net) (S:Srch) (d:Int) (h:Hop) (ahead:Int) (hd:0≤d∧d.toNat<S.m0.length) (hl:Aj S.list) :
  Sy.Spec Tryz.prog 90 [.ptr 0 0,stSV d 0,Bl h,Aa ahead] (T4 n S) (.tup []) (Qj n (meetT S d 0 h ahead)):=cT F90 Tryz.ntmps90 fun F hF=>by
 unfold Aj at hl
 have hlk:=meetT.eq_1 S d 0 h ahead
 rw[M0,if_pos rfl,Ai hd.2,show Ij S d 0 h ahead=⟨S.m0.set d.toNat true,S.m1,S.list++[⟨d,0,h,ahead⟩]⟩ from if_pos rfl]at hlk
 generalize meetT S d 0 h ahead=res at *
 conv=>whnf
 refine⟨by decide,by decide,?_⟩
 conv=>whnf
 refine⟨hd.1,hd.2,?_⟩
 conv=>whnf
 refine⟨E,hd.2,?_⟩
 conv=>whnf
 refine kW ?_
 refine⟨fun h1=>?_,fun h1=>?_⟩
 rotate_left
 ·rw[if_pos (by simpa using h1)]at hlk
  subst hlk
  refine S6 3 1000 E E qx ?_
  refine oO ?_
  exact A6 E .nil [(4,1000)] (Qj n res) (fun _ h=>h) E E ⟨Y,⟨.inl E,E,.inl E,E,.inl E,E,.inl E,E,.inl E,E,Y⟩,E,E⟩
 rw[if_neg (by simpa using h1)]at hlk
 subst hlk
 refine oO ?_
 refine⟨by decide,by decide,?_⟩
 conv=>whnf
 refine⟨hd.1,hd.2,?_⟩
 conv=>whnf
 refine⟨E,hd.2,true,E,E,?_⟩
 conv=>whnf
 refine kW ?_
 refine Bk (Ah Γ.toTy 40 E E E E E (.row E) (.lit (e:=Oj) (l:=[⟨d,0,h,ahead⟩]) E E) qy (by simp;omega) (by simp;omega)) qq E ?_
 refine oD ?_
 refine kW ?_
 exact A6 E .nil [(4,40)] (Qj n ⟨S.m0.set d.toNat true,S.m1,S.list++[⟨d,0,h,ahead⟩]⟩) (fun _ h=>h) E E ⟨Y,⟨.inl E,E,.inl E,E,.inl E,E,.inl E,E,.inl E,E,Y⟩,E,E⟩
theorem Alc (n:Net) (S:Srch) (d:Int) (h:Hop) (ahead:Int) (hd:0≤d∧d.toNat<S.m1.length) (hl:Aj S.list) :
  Sy.Spec Tryz.prog 90 [.ptr 0 0,stSV d 1,Bl h,Aa ahead] (T4 n S) (.tup []) (Qj n (meetT S d 1 h ahead)):=cT F90 Tryz.ntmps90 fun F hF=>by
 unfold Aj at hl
 have hlk:=meetT.eq_1 S d 1 h ahead
 rw[show M0 S d 1=nth S.m1 d from if_neg qx,Ai hd.2,show Ij S d 1 h ahead=⟨S.m0,S.m1.set d.toNat true,S.list++[⟨d,1,h,ahead⟩]⟩ from if_neg qx]at hlk
 generalize meetT S d 1 h ahead=res at *
 conv=>whnf
 refine⟨by decide,by decide,?_⟩
 conv=>whnf
 refine⟨hd.1,hd.2,?_⟩
 conv=>whnf
 refine⟨E,hd.2,?_⟩
 conv=>whnf
 refine kW ?_
 refine⟨fun h1=>?_,fun h1=>?_⟩
 rotate_left
 ·rw[if_pos (by simpa using h1)]at hlk
  subst hlk
  refine S6 3 1000 E E qx ?_
  refine oO ?_
  exact A6 E .nil [(4,1000)] (Qj n res) (fun _ h=>h) E E ⟨Y,⟨.inl E,E,.inl E,E,.inl E,E,.inl E,E,.inl E,E,Y⟩,E,E⟩
 rw[if_neg (by simpa using h1)]at hlk
 subst hlk
 refine oO ?_
 refine⟨by decide,by decide,?_⟩
 conv=>whnf
 refine⟨hd.1,hd.2,?_⟩
 conv=>whnf
 refine⟨E,hd.2,true,E,E,?_⟩
 conv=>whnf
 refine kW ?_
 refine Bk (Ah Γ.toTy 40 E E E E E (.row E) (.lit (e:=Oj) (l:=[⟨d,1,h,ahead⟩]) E E) qy (by simp;omega) (by simp;omega)) qq E ?_
 refine oD ?_
 refine kW ?_
 exact A6 E .nil [(4,40)] (Qj n ⟨S.m0,S.m1.set d.toNat true,S.list++[⟨d,1,h,ahead⟩]⟩) (fun _ h=>h) E E ⟨Y,⟨.inl E,E,.inl E,E,.inl E,E,.inl E,E,.inl E,E,Y⟩,E,E⟩
structure Srch.OK (n:Net) (S:Srch):Prop where
 l0:S.m0.length=n.domains.length
 l1:S.m1.length=n.domains.length
 at_:∀ f∈S.list,(0≤f.domain∧f.domain.toNat<n.domains.length)∧(f.kind=0∨f.kind=1)
 len:S.list.length≤S.m0.count true+S.m1.count true
theorem Srch.OK.le {n:Net} {S:Srch} (h:S.OK n):S.list.length≤2 * n.domains.length:=by
 have h1:S.m0.count true≤S.m0.length:=List.count_le_length
 have h2:S.m1.count true≤S.m1.length:=List.count_le_length
 have:=h.len
 rw[h.l0]at h1
 rw[h.l1]at h2
 omega
theorem count_set {l:List Bool} {i:Nat} (h:i<l.length) (hi:l[i]=false):(l.set i true).count true=l.count true+1:=by
 rw[List.count_set h,hi]
 simp
theorem Srch.OK.meet {n:Net} {S:Srch} (h:S.OK n) {d k:Int} (hd:0≤d∧d.toNat<n.domains.length) (hk:k=0∨k=1) (hp:Hop) (a:Int):(meetT S d k hp a).OK n:=by
 rw[meetT]
 split
 ·exact h
 rename_i hmt
 have h0:d.toNat<S.m0.length:=by rw[h.l0];exact hd.2
 have h1:d.toNat<S.m1.length:=by rw[h.l1];exact hd.2
 rcases hk with rfl | rfl
 ·rw[M0,if_pos rfl,Ai h0]at hmt
  rw[Ij,if_pos rfl]
  refine⟨by simp[h.l0],h.l1,fun f hf=>?_,?_⟩
  ·rcases List.mem_append.1 hf with hf | hf
   ·exact h.at_ f hf
   ·rw[List.mem_singleton]at hf
    subst hf
    exact⟨hd,.inl E⟩
  ·rw[count_set h0 (by simpa using hmt),List.length_append,List.length_singleton]
   have:=h.len
   show _≤_+S.m1.count true
   omega
 ·rw[M0,if_neg qx,Ai h1]at hmt
  rw[Ij,if_neg qx]
  refine⟨h.l0,by simp[h.l1],fun f hf=>?_,?_⟩
  ·rcases List.mem_append.1 hf with hf | hf
   ·exact h.at_ f hf
   ·rw[List.mem_singleton]at hf
    subst hf
    exact⟨hd,.inr E⟩
  ·rw[count_set h1 (by simpa using hmt),List.length_append,List.length_singleton]
   have:=h.len
   show _≤S.m0.count true+_
   omega
theorem Ac9 {n:Net} (h:Ac n=true) {i:Nat} (hi:i<n.ports.length) {v:Int} (hv:Dk n.ports[i] v=true):0≤Tx n n.ports[i].dev v∧(Tx n n.ports[i].dev v).toNat<n.domains.length:=by
 have hp:=Al4 h hi
 simp only[Ec,Bool.and_eq_true,Bool.not_eq_true']at hp
 simp only[Dk,Bool.and_eq_true,bne_iff_ne,Bool.or_eq_true,beq_iff_eq]at hv
 have h0:0≤Tx n n.ports[i].dev v:=by
  rcases hv.2 with h1 | h1
  ·have h2:=hp.1.2
   have h3:=hp.1.1.1.1.1.1.1.2
   rw[h1]at hv ⊢
   have h4:decide (0<n.ports[i].native)=true:=by
    simp only[decide_eq_true_eq]at h3 ⊢
    omega
   rw[h4]at h2
   simpa [Bt] using h2
  ·have h2:=hp.1.1.2
   obtain ⟨x,hx,e⟩:=List.any_eq_true.1 h1
   obtain ⟨j,hj,rfl⟩:=List.mem_iff_getElem.1 hx
   have h3:=allB_iff.1 h2 j hj
   simp only[beq_iff_eq]at e
   rw[e]at h3
   simpa [Bt] using h3
 refine⟨h0,?_⟩
 have:=D3 (fun d:Domain=>d.dev == n.ports[i].dev && d.vlan == v) n.domains
 have e:Tx n n.ports[i].dev v=B8 (fun d:Domain=>d.dev == n.ports[i].dev && d.vlan == v) n.domains:=rfl
 omega
theorem Aci {n:Net} {i v:Int} (h:(linkDomT n i v).2=true):0≤(linkDomT n i v).1∧(linkDomT n i v).1.toNat<n.domains.length:=by
 unfold linkDomT at h ⊢
 split at h
 ·rename_i hc
  rw[if_pos hc]
  have hth:=Ss hc
  unfold crossT at hc hth ⊢
  split at hc
  ·rename_i h1
   rw[if_pos h1]at hth ⊢
   have hb:=(H3 h1.1).2.1
   have h2:=h1.2.2
   rw[U9]at h2 ⊢
   rw[Ch,if_pos hb]
   dsimp only at hth ⊢
   rw[Ai hth.2]at h2 ⊢
   refine Ac9 hb hth.2 ?_
   simp only[Dk,Bool.and_eq_true,bne_iff_ne,Bool.or_eq_true,beq_iff_eq]
   refine⟨h2,?_⟩
   split
   ·exact .inl E
   ·rename_i h3
    rw[if_neg h3]at h2
    split
    ·rename_i h4
     exact .inr h4
    ·rename_i h4
     rw[if_neg h4]at h2
     exact absurd E h2
  ·cases hc
 ·cases h
theorem e_peer {n:Net} (h:Ac n=true) {i:Nat} (hi:i<n.domains.length) {p:Int} (hp:p∈n.domains[i].peers):0≤p∧p.toNat<n.domains.length:=by
 simp only[Ac,Bool.and_eq_true]at h
 have h1:=allB_iff.1 h.1.1.1.1.1.1.2 i hi
 obtain ⟨j,hj,rfl⟩:=List.mem_iff_getElem.1 hp
 have h2:=allB_iff.1 h1 j hj
 simp only[K5,Ag,Bool.and_eq_true,decide_eq_true_eq]at h2
 omega
theorem Sd {n:Net} {d:Int} {h:Hop} (hh:h∈Hl n d):0≤h.domain∧h.domain.toNat<n.domains.length:=by
 rw[Hl]at hh
 split at hh
 ·rename_i hd
  have hk:d.toNat<n.domains.length:=by have:=hd.1;omega
  rw[hopsL,Ai hk]at hh
  rcases List.mem_append.1 hh with hh | hh
  ·obtain ⟨p,_,hp⟩:=List.mem_filterMap.1 hh
   rw[linkHop]at hp
   split at hp
   ·rename_i hl
    simp only[Option.some.injEq]at hp
    subst hp
    exact Aci hl
   ·cases hp
  ·obtain ⟨p,hp,rfl⟩:=List.mem_map.1 hh
   exact e_peer hd.2 hk hp
 ·cases hh
theorem Oy {n:Net} {d:Int} {q:Lead} (hq:q∈routesT n d):0≤q.domain∧q.domain.toNat<n.domains.length:=by
 rw[routesT]at hq
 split at hq
 ·rename_i hc
  obtain ⟨i,hi,hp⟩:=List.mem_filterMap.1 hq
  rw[leadF]at hp
  split at hp
  ·simp only[Option.some.injEq]at hp
   subst hp
   have hi':((i:Nat):Int).toNat<n.irbs.length:=by simpa using hi
   show 0≤(nth n.irbs i).domain∧_
   rw[Ai hi']
   exact(C3 hc.2.2 hi').1
  ·cases hp
 ·cases hq
end Go.Sy.YteinjapglfkamaaGreat
namespace Go.Sy.YteinjapglfkamaaGreat
open Go.Proofs
attribute [local irreducible] Go.Sy.G Go.Sy.DR
set_option maxRecDepth 20000
set_option maxHeartbeats 8000000
def ext1 (S:Srch) (k i:Int) (l:List Hop):Srch:=l.foldl (fun S h=>meetT S h.domain k h i) S
def ext2 (S:Srch) (i:Int) (l:List Lead):Srch:=l.foldl (fun S q=>meetT S q.domain 1 ⟨3,0,q.domain,q.addr⟩ i) S
def extT (n:Net) (S:Srch) (i:Int):Srch :=
 if (nth S.list i).kind=0 then ext2 (ext1 S 0 i (Hl n (nth S.list i).domain)) i (routesT n (nth S.list i).domain) else ext1 S 1 i (Hl n (nth S.list i).domain)
theorem Ai5 (S:Srch) (k i:Int) {l:List Hop} {j:Nat} {h:Hop} (hj:j<l.length) (hh:l[j]=h):ext1 S k i (l.take (j+1))=meetT (ext1 S k i (l.take j)) h.domain k h i:=by
 subst hh
 rw[ext1,List.take_add_one,List.getElem?_eq_getElem hj,List.foldl_append]
 rfl
theorem Ai4 (S:Srch) (i:Int) {l:List Lead} {j:Nat} {q:Lead} (hj:j<l.length) (hh:l[j]=q):ext2 S i (l.take (j+1))=meetT (ext2 S i (l.take j)) q.domain 1 ⟨3,0,q.domain,q.addr⟩ i:=by
 subst hh
 rw[ext2,List.take_add_one,List.getElem?_eq_getElem hj,List.foldl_append]
 rfl
theorem Srch.OK.ext1 {n:Net} {k i:Int} (hk:k=0∨k=1):∀ {l:List Hop} {S:Srch},S.OK n→(∀ h∈l,0≤h.domain∧h.domain.toNat<n.domains.length)→(ext1 S k i l).OK n
 | [],S,h,_=>h
 | x::l,S,h,hl=>Srch.OK.ext1 hk (l:=l) (h.meet (hl x qy) hk x i) (fun y hy=>hl y (by simp[hy]))
theorem Srch.OK.ext2 {n:Net} {i:Int}:∀ {l:List Lead} {S:Srch},S.OK n→(∀ h∈l,0≤h.domain∧h.domain.toNat<n.domains.length)→(ext2 S i l).OK n
 | [],S,h,_=>h
 | x::l,S,h,hl=>Srch.OK.ext2 (l:=l) (h.meet (hl x qy) (.inr rfl) _ i) (fun y hy=>hl y (by simp[hy]))
theorem Srch.OK.ext {n:Net} {S:Srch} (h:S.OK n) (i:Int):(extT n S i).OK n:=by
 rw[extT]
 split
 ·exact(h.ext1 (.inl E) (fun x hx=>Sd hx)).ext2 (fun x hx=>Oy hx)
 ·exact h.ext1 (.inr E) (fun x hx=>Sd hx)
theorem Acu {n:Net} (hn:n.Fin) (d:Int):(Hl n d).length<4294967296:=by
 have h1:=E0 n hn d
 unfold Aj at h1
 rw[Hl]
 split
 ·rename_i hd
  have hk:d.toNat<n.domains.length:=by have:=hd.1;omega
  have h2:=hn.peers _ (List.getElem_mem hk)
  unfold Aj at h2
  have h3:=List.length_filterMap_le (linkHop n d) (B5 n d)
  rw[hopsL,Ai hk,List.length_append,List.length_map]
  omega
 ·decide
theorem Xp {n:Net} (hn:n.Fin) (d:Int):(routesT n d).length<4294967296:=by
 have h1:=hn.irbs
 unfold Aj at h1
 rw[routesT]
 split
 ·have:=Oe n (nth n.domains d).irb n.irbs.length
  omega
 ·decide
abbrev Akc (n:Net) (S:Srch) (d k:Int):Obs:=[(0,.box [.sl 5 Bf n.devices,.sl 7 A2 n.ports,.sl 3 Cb n.links,.sl 6 Ao n.domains,.sl 4 Bd n.statics,.sl 4 Bs n.floods,.sl 5 Cn n.vrfs,.sl 5 Ca n.irbs,.osl 1,.osl 2,.osl 1000]),
 (1,.row 1 Ab S.m0),(2,.row 1 Ab S.m1),(3,.non),(1000,.row 7 Oj S.list),(4,.box [Aa d,Aa k])]
theorem Anx (n:Net) (hn:n.Fin) (hu:Ef n) (hD:n.domains.length<1000000) (S:Srch) (hS:S.OK n) (i:Int) (hi:0≤i∧i.toNat<S.list.length) :
  Sy.Spec Tryz.prog 28 [.ptr 0 0,Aa i] (T4 n S) (.tup []) (Qj n (extT n S i)):=cT F28 Tryz.ntmps28 fun F hF=>by
 have hlk:=extT.eq_1 n S i
 rw[Ai hi.2]at hlk
 generalize extT n S i=res at *
 have hfk:=(hS.at_ _ (List.getElem_mem hi.2)).2
 obtain ⟨f,hf⟩:∃ f,S.list[i.toNat]'hi.2=f:=⟨_,rfl⟩
 rw[hf]at hlk hfk
 obtain ⟨d,k,hp,ah⟩:=f
 dsimp only at hlk hfk
 have q1:=Ael n hn d
 have q2:=X9 n hn hu d
 have hin1:=fun h=>Sd (n:=n) (d:=d) (h:=h)
 have hin2:=fun h=>Oy (n:=n) (d:=d) (q:=h)
 have hs1:=Acu hn d
 have hs2:=Xp hn d
 generalize Hl n d=hops at *
 generalize routesT n d=leads at *
 have ok1:∀ k,k=0∨k=1→∀ j,(ext1 S k i (hops.take j)).OK n:=fun k hk j=>hS.ext1 hk (fun x hx=>hin1 x (List.mem_of_mem_take hx))
 have ok2:∀ j,(ext2 (ext1 S 0 i hops) i (leads.take j)).OK n:=fun j=>Srch.OK.ext2 (hS.ext1 (.inl rfl) (fun x hx=>hin1 x hx)) (fun x hx=>hin2 x (List.mem_of_mem_take hx))
 have hsucc:=fun k j h hj hh=>Ai5 S k i (l:=hops) (j:=j) (h:=h) hj hh
 have hsucc2:=fun j h hj hh=>Ai4 (ext1 S 0 i hops) i (l:=leads) (j:=j) (q:=h) hj hh
 conv=>whnf
 refine⟨hi.1,hi.2,?_⟩
 conv=>whnf
 refine⟨by intro e;rw[e]at hi;simp at hi,?_⟩
 conv=>whnf
 refine⟨E,hi.2,?_⟩
 rw[hf]
 conv=>whnf
 rcases hfk with rfl | rfl
 ·rw[if_pos rfl]at hlk
  have ok1:=ok1 0 qx
  have hsucc:=hsucc 0
  refine oD ?_
  refine cD q1 F95 ?_
  refine oD ?_
  refine kW ?_
  refine S6 3 1000 E E qx ?_
  refine Az hops.length (fun j=>[(0,.ptr 0 0),(1,Aa i),(4,.ptr 4 0),(23,.sl 4 Bl hops),(24,Aa hops.length),(25,Aa j)]) (fun j=>Akc n (ext1 S 0 i (hops.take j)) d 0) []
   ⟨⟨rfl,rfl,rfl,rfl,rfl,rfl,rfl,rfl,rfl,rfl,rfl,rfl,trivial⟩,⟨.inl rfl,rfl,.inl rfl,rfl,.inl rfl,rfl,.inl rfl,rfl,.inl rfl,rfl,.inl rfl,rfl,trivial⟩,rfl,rfl⟩ ?_
  intro j hj
  have okj:=ok1 j
  have lej:=okj.le
  have l0:=okj.l0
  have scj:=hsucc j
  generalize hSj:ext1 S 0 i (hops.take j)=Sj at *
  refine oO ?_
  refine⟨fun h=>?_,fun h=>?_⟩
  ·have hlt:j<hops.length:=by simpa using h
   have hj0:((j:Nat):Int).toNat<hops.length:=by simpa using hlt
   obtain ⟨hp,hhp⟩:∃ hp,hops[((j:Nat):Int).toNat]'hj0=hp:=⟨_,rfl⟩
   have hdi:=hin1 hp (by rw[← hhp];exact List.getElem_mem _)
   have sc:=scj hp hlt hhp
   have q3:=Ald n Sj hp.domain hp i (by rw[l0];exact hdi) (by unfold Aj;omega)
   rw[← sc]at q3
   refine oO ?_
   refine⟨E,by omega,hj0,?_⟩
   rw[hhp]
   conv=>whnf
   refine Ad (Af [(0,0),(1,1),(2,2),(3,1000),(4,1001)] E F90 q3 E ⟨E,E,E,E,Y⟩ E ⟨.inl E,.inl E,.inl E,.inl E,.inr E,Y⟩) E E ?_
   refine oO ?_
   refine iW ?_
   exact Ar [(1000,1001)] hlt ⟨⟨E,E,E,E,E,E,E,E,E,E,E,E,Y⟩,⟨.inl E,E,.inl E,E,.inl E,E,.inl E,E,.inl E,E,.inl E,E,Y⟩,E,E⟩
  ·have:j=hops.length:=qB h
   subst this
   rw[List.take_length]at hSj
   simp only[hSj]at hlk ok2 hsucc2
   refine oT ?_
   refine cD q2 F96 ?_
   refine oD ?_
   refine kW ?_
   refine Az leads.length (fun j=>[(0,.ptr 0 0),(1,Aa i),(4,.ptr 4 0),(48,.sl 3 Il leads),(49,Aa leads.length),(50,Aa j)]) (fun j=>Akc n (ext2 Sj i (leads.take j)) d 0) []
    ⟨⟨rfl,rfl,rfl,rfl,rfl,rfl,rfl,rfl,rfl,rfl,rfl,rfl,trivial⟩,⟨.inl rfl,rfl,.inl rfl,rfl,.inl rfl,rfl,.inl rfl,rfl,.inl rfl,rfl,.inl rfl,rfl,trivial⟩,rfl,rfl⟩ ?_
   intro j hj
   have okj:=ok2 j
   have lej:=okj.le
   have l0:=okj.l1
   have scj:=hsucc2 j
   generalize hSk:ext2 Sj i (leads.take j)=Sk at *
   refine oO ?_
   refine⟨fun h=>?_,fun h=>?_⟩
   ·have hlt:j<leads.length:=by simpa using h
    have hj0:((j:Nat):Int).toNat<leads.length:=by simpa using hlt
    obtain ⟨hp,hhp⟩:∃ hp,leads[((j:Nat):Int).toNat]'hj0=hp:=⟨_,rfl⟩
    have hdi:=hin2 hp (by rw[← hhp];exact List.getElem_mem _)
    have sc:=scj hp hlt hhp
    have q3:=Alc n Sk hp.domain ⟨3,0,hp.domain,hp.addr⟩ i (by rw[l0];exact hdi) (by unfold Aj;omega)
    rw[← sc]at q3
    refine oO ?_
    refine⟨E,by omega,hj0,?_⟩
    rw[hhp]
    conv=>whnf
    refine Ad (Af [(0,0),(1,1),(2,2),(3,1000),(4,1001)] E F90 q3 E ⟨E,E,E,E,Y⟩ E ⟨.inl E,.inl E,.inl E,.inl E,.inr E,Y⟩) E E ?_
    refine oO ?_
    refine iW ?_
    exact Ar [(1000,1001)] hlt ⟨⟨E,E,E,E,E,E,E,E,E,E,E,E,Y⟩,⟨.inl E,E,.inl E,E,.inl E,E,.inl E,E,.inl E,E,.inl E,E,Y⟩,E,E⟩
   ·have:j=leads.length:=qB h
    subst this
    rw[List.take_length]at hSk
    rw[hSk]at hlk
    subst hlk
    refine oO ?_
    exact A6 E .nil [(4,1000)] (Qj n _) (fun _ h=>h) E E ⟨Y,⟨.inl E,E,.inl E,E,.inl E,E,.inl E,E,.inl E,E,Y⟩,E,E⟩
 ·rw[if_neg qx]at hlk
  clear ok2 hsucc2 q2 hs2 hin2
  have ok1:=ok1 1 qx
  have hsucc:=hsucc 1
  refine oD ?_
  refine cD q1 F95 ?_
  refine oD ?_
  refine kW ?_
  refine S6 3 1000 E E qx ?_
  refine Az hops.length (fun j=>[(0,.ptr 0 0),(1,Aa i),(4,.ptr 4 0),(23,.sl 4 Bl hops),(24,Aa hops.length),(25,Aa j)]) (fun j=>Akc n (ext1 S 1 i (hops.take j)) d 1) []
   ⟨⟨rfl,rfl,rfl,rfl,rfl,rfl,rfl,rfl,rfl,rfl,rfl,rfl,trivial⟩,⟨.inl rfl,rfl,.inl rfl,rfl,.inl rfl,rfl,.inl rfl,rfl,.inl rfl,rfl,.inl rfl,rfl,trivial⟩,rfl,rfl⟩ ?_
  intro j hj
  have okj:=ok1 j
  have lej:=okj.le
  have l0:=okj.l1
  have scj:=hsucc j
  generalize hSj:ext1 S 1 i (hops.take j)=Sj at *
  refine oO ?_
  refine⟨fun h=>?_,fun h=>?_⟩
  ·have hlt:j<hops.length:=by simpa using h
   have hj0:((j:Nat):Int).toNat<hops.length:=by simpa using hlt
   obtain ⟨hp,hhp⟩:∃ hp,hops[((j:Nat):Int).toNat]'hj0=hp:=⟨_,rfl⟩
   have hdi:=hin1 hp (by rw[← hhp];exact List.getElem_mem _)
   have sc:=scj hp hlt hhp
   have q3:=Alc n Sj hp.domain hp i (by rw[l0];exact hdi) (by unfold Aj;omega)
   rw[← sc]at q3
   refine oO ?_
   refine⟨E,by omega,hj0,?_⟩
   rw[hhp]
   conv=>whnf
   refine Ad (Af [(0,0),(1,1),(2,2),(3,1000),(4,1001)] E F90 q3 E ⟨E,E,E,E,Y⟩ E ⟨.inl E,.inl E,.inl E,.inl E,.inr E,Y⟩) E E ?_
   refine oO ?_
   refine iW ?_
   exact Ar [(1000,1001)] hlt ⟨⟨E,E,E,E,E,E,E,E,E,E,E,E,Y⟩,⟨.inl E,E,.inl E,E,.inl E,E,.inl E,E,.inl E,E,.inl E,E,Y⟩,E,E⟩
  ·have:j=hops.length:=qB h
   subst this
   rw[List.take_length]at hSj
   rw[hSj]at hlk
   subst hlk
   refine oF ?_
   exact A6 E .nil [(4,1000)] (Qj n _) (fun _ h=>h) E E ⟨Y,⟨.inl E,E,.inl E,E,.inl E,E,.inl E,E,.inl E,E,Y⟩,E,E⟩
def Is (n:Net) (dev:Int) (S:Srch) (v:Int):Srch:=if v=0 then S else meetT S (Ch n dev v) 0 ⟨0,0,Ch n dev v,0⟩ (-1)
def Qk (n:Net):Srch:=⟨List.replicate n.domains.length false,List.replicate n.domains.length false,[]⟩
def Ir (n:Net) (dev:Int) (l:List Int):Srch:=l.foldl (Is n dev) (Qk n)
def beginT (n:Net) (port:Int):Srch:=Ir n (nth n.ports port).dev ((nth n.ports port).native::(nth n.ports port).tagged)
theorem Ado (n:Net) (dev:Int) {l:List Int} {j:Nat} {v:Int} (hj:j<l.length) (hh:l[j]=v):Ir n dev (l.take (j+1))=Is n dev (Ir n dev (l.take j)) v:=by
 subst hh
 rw[Ir,List.take_add_one,List.getElem?_eq_getElem hj,List.foldl_append]
 rfl
theorem Akd (n:Net):(Qk n).OK n:=⟨by simp[Qk],by simp[Qk],fun f hf=>by simp[Qk]at hf,by simp[Qk]⟩
theorem Mu {n:Net} {dev:Int} {l:List Int} (h:∀ v∈l,v≠0→0≤Ch n dev v∧(Ch n dev v).toNat<n.domains.length):(Ir n dev l).OK n:=by
 suffices hs:∀ (l:List Int) (S:Srch),S.OK n→(∀ v∈l,v≠0→0≤Ch n dev v∧(Ch n dev v).toNat<n.domains.length)→(l.foldl (Is n dev) S).OK n from hs l _ (Akd n) h
 intro l
 induction l with
 | nil=>exact fun S h _=>h
 | cons x l ih =>
  intro S hS hl
  refine ih _ ?_ (fun v hv=>hl v (by simp[hv]))
  rw[Is]
  split
  ·exact hS
  ·rename_i hx
   exact hS.meet (hl x qy hx) (.inl E) _ _
theorem Hn {n:Net} (hb:Ac n=true) {i:Nat} (hi:i<n.ports.length) {v:Int} (hv:v∈n.ports[i].native::n.ports[i].tagged) (h0:v≠0) :
  0≤Ch n n.ports[i].dev v∧(Ch n n.ports[i].dev v).toNat<n.domains.length:=by
 rw[Ch,if_pos hb]
 refine Ac9 hb hi ?_
 simp only[Dk,Bool.and_eq_true,bne_iff_ne,Bool.or_eq_true,beq_iff_eq]
 refine⟨h0,?_⟩
 rcases List.mem_cons.1 hv with h | h
 ·exact .inl h
 ·exact .inr (List.any_eq_true.2 ⟨v,h,by simp⟩)
abbrev Vp (n:Net) (a b c:SV):Ob:=.box [.sl 5 Bf n.devices,.sl 7 A2 n.ports,.sl 3 Cb n.links,.sl 6 Ao n.domains,.sl 4 Bd n.statics,.sl 4 Bs n.floods,.sl 5 Cn n.vrfs,.sl 5 Ca n.irbs,a,b,c]
abbrev Q0:SV:=.val (.slice none 0 0)
def madeO (n:Net):Nat→Obs
 | 0=>[(0,Vp n Q0 Q0 Q0)]
 | 1=>[(0,Vp n (.osl 1001) Q0 Q0),(1001,.row 1 Ab (List.replicate n.domains.length false))]
 | _=>[(0,Vp n (.osl 1001) (.osl 1002) Q0),(1001,.row 1 Ab (List.replicate n.domains.length false)),(1002,.row 1 Ab (List.replicate n.domains.length false))]
abbrev srchB (n:Net) (S:Srch) (vs:List Int):Obs:=[(0,Vp n (.osl 1001) (.osl 1002) (.osl 1003)),(1001,.row 1 Ab S.m0),(1002,.row 1 Ab S.m1),(1003,.row 7 Oj S.list),(38,.row 1 Aa vs)]
theorem beginS (n:Net) (hn:n.Fin) (hb:Ac n=true) (hD:n.domains.length<1000000) (port:Int) (hp:0≤port∧port.toNat<n.ports.length) :
  Sy.Spec Tryz.prog 24 [.ptr 0 0,Aa port] [(0,Vp n Q0 Q0 Q0)] (.tup []) (T4 n (beginT n port)):=cT F24 Tryz.ntmps24 fun F hF=>by
 have hlk:=beginT.eq_1 n port
 rw[Ai hp.2]at hlk
 generalize beginT n port=res at *
 have hin:=fun v hv h0=>Hn hb hp.2 (v:=v) hv h0
 have hts:=hn.tagged _ (List.getElem_mem hp.2)
 unfold Aj at hts
 obtain ⟨p,hpp⟩:∃ p,n.ports[port.toNat]'hp.2=p:=⟨_,rfl⟩
 rw[hpp]at hlk hin hts
 have hok:∀ j,(Ir n p.dev ((p.native::p.tagged).take j)).OK n:=fun j=>Mu fun v hv h0=>hin v (List.mem_of_mem_take hv) h0
 have hsc:=fun j v hj hh=>Ado n p.dev (l:=p.native::p.tagged) (j:=j) (v:=v) hj hh
 have hd:=fun v=>H4 n hn p.dev v
 conv=>whnf
 refine⟨E,hp.1,hp.2,?_⟩
 rw[hpp]
 conv=>whnf
 refine Ba 4 7 (A2 p) E E E ?_
 refine Ay 2 (fun _=>True) (fun j=>[(0,.ptr 0 0),(4,.ref 7 (A2 p) 0),(17,Aa j)]) (fun j=>madeO n j) [] Y ⟨⟨E,E,E,E,E,E,Y⟩,⟨.inl E,E,Y⟩,E,E⟩ ?_
 intro j hj _
 refine oO ?_
 refine⟨fun h=>?_,fun h=>?_⟩
 ·have hlt:j<2:=qA h
  have hj01:j=0∨j=1:=by omega
  rcases hj01 with rfl | rfl
  ·refine oO ?_
   refine Bk (Bh Γ.toTy (d:=28) (n:=n.domains.length) Ab false E E E E E E E E qn qn E E E) qq E ?_
   refine oD ?_
   refine⟨by decide,by decide,?_⟩
   conv=>whnf
   refine kW ?_
   refine⟨by unfold I64;decide,?_⟩
   conv=>whnf
   exact Aw [(1001,28)] Y qx Y ⟨⟨E,E,E,E,E,E,Y⟩,⟨.inl E,E,.inl E,E,Y⟩,E,E⟩
  ·refine oO ?_
   refine Bk (Bh Γ.toTy (d:=28) (n:=n.domains.length) Ab false E E E E E E E E qn qn E E E) qq E ?_
   refine oD ?_
   refine⟨by decide,by decide,?_⟩
   conv=>whnf
   refine kW ?_
   refine⟨by unfold I64;decide,?_⟩
   conv=>whnf
   exact Aw [(1002,28)] Y qx Y ⟨⟨E,E,E,E,E,E,Y⟩,⟨.inl E,E,.inl E,E,.inl E,E,Y⟩,E,E⟩
 ·have:j=2:=qB h
  subst this
  refine oO ?_
  refine Ad (Ah Γ.toTy 38 E E E E E (.lit (e:=Aa) (l:=[p.native]) E E) .sl qx (by simp;omega) (by simp;omega)) E E ?_
  refine Ad0 0 10 1003 7 Oj E E E E ?_
  refine oO ?_
  generalize hvs:p.native::p.tagged=vs at *
  have hvl:vs.length=p.tagged.length+1:=by rw[← hvs];rfl
  refine Az vs.length (fun j=>[(0,.ptr 0 0),(4,.ref 7 (A2 p) 0),(38,.osl 38),(39,Aa vs.length),(40,Aa j)]) (fun j=>srchB n (Ir n p.dev (vs.take j)) vs) []
   ⟨⟨rfl,rfl,rfl,rfl,rfl,rfl,congrArg Aa (by rw[hvl];rfl),rfl,rfl,rfl,trivial⟩,⟨.inl rfl,rfl,.inl rfl,rfl,.inl rfl,rfl,.inl rfl,rfl,.inl (congrArg (Ob.row 1 Aa) hvs.symm),rfl,trivial⟩,rfl,rfl⟩ ?_
  intro j hj
  have okj:=hok j
  have lej:=okj.le
  have l0:=okj.l0
  have scj:=hsc j
  generalize hSj:Ir n p.dev (vs.take j)=Sj at *
  refine oO ?_
  refine⟨fun h=>?_,fun h=>?_⟩
  ·have hlt:j<vs.length:=by simpa using h
   have hj0:((j:Nat):Int).toNat<vs.length:=by simpa using hlt
   obtain ⟨v,hv⟩:∃ v,vs[((j:Nat):Int).toNat]'hj0=v:=⟨_,rfl⟩
   have hmem:v∈vs:=by rw[← hv];exact List.getElem_mem _
   have sc:=scj v hlt hv
   rw[Is]at sc
   have hdv:=hd v
   have hiv:=hin v hmem
   generalize Ch n p.dev v=dm at *
   refine oO ?_
   refine⟨by omega,hj0,?_⟩
   conv=>whnf
   refine⟨E,hj0,?_⟩
   rw[hv]
   conv=>whnf
   refine⟨fun h=>?_,fun h=>?_⟩
   ·have h0:v≠0:=by simpa using h
    rw[if_neg h0]at sc
    have q3:=Ald n Sj dm ⟨0,0,dm,0⟩ (-1) (by rw[l0];exact hiv h0) (by unfold Aj;omega)
    rw[← sc]at q3
    refine oO ?_
    refine cD hdv F89 ?_
    refine oD ?_
    refine kW ?_
    refine Ad (Af [(0,0),(1,1001),(2,1002),(3,1003),(4,1004)] E F90 q3 E ⟨E,E,E,E,Y⟩ E ⟨.inl E,.inl E,.inl E,.inl E,.inr E,Y⟩) E E ?_
    refine oO ?_
    refine iW ?_
    exact Ar [(1003,1004)] hlt ⟨⟨E,E,E,E,E,E,E,E,E,E,Y⟩,⟨.inl E,E,.inl E,E,.inl E,E,.inl E,E,.inl E,E,Y⟩,E,E⟩
   ·have h0:v=0:=by simpa using h
    rw[if_pos h0]at sc
    refine oO ?_
    refine iW ?_
    exact Ar [] hlt ⟨⟨E,E,E,E,E,E,E,E,E,E,Y⟩,⟨.inl E,E,.inl (congrArg (fun S=>Ob.row 1 Ab (Srch.m0 S)) sc),E,.inl (congrArg (fun S=>Ob.row 1 Ab (Srch.m1 S)) sc),E,.inl (congrArg (fun S=>Ob.row 7 Oj (Srch.list S)) sc),E,.inl E,E,Y⟩,E,E⟩
  ·have:j=vs.length:=qB h
   subst this
   rw[List.take_length]at hSj
   rw[hSj]at hlk
   subst hlk
   refine oO ?_
   exact A6 E .nil [(1,1001),(2,1002),(3,1003)] (T4 n _) (fun _ h=>h) E E ⟨Y,⟨.inl E,E,.inl E,E,.inl E,E,.inl E,E,Y⟩,E,E⟩
theorem Abm (D:List Hop) (hl:D.length<4294967296):Sy.Spec Tryz.prog 94 [.osl 0] [(0,.row 4 Bl D)] (.tup []) [(0,.row 4 Bl D.reverse)]:=cT F94 Tryz.ntmps94 fun F hF=>by
 conv=>whnf
 refine iW ?_
 refine Az (D.length / 2) (fun j=>[(0,.osl 0),(2,Aa j),(3,Aa ((D.length:Int)-1-j))]) (fun j=>[(0,.row 4 Bl (Qo D j))]) []
  ⟨⟨rfl,rfl,rfl,rfl,congrArg (fun z=>SV.val (.int .i64 z)) qn,rfl,trivial⟩,⟨.inl (congrArg (Ob.row 4 Bl) (Ahy D)),rfl,trivial⟩,rfl,rfl⟩ ?_
 intro i hi
 have hul:=C1 D i
 refine oO ?_
 refine⟨fun h2=>?_,fun h2=>?_⟩
 ·have hlt:2 * i+1<D.length:=by have:=of_decide_eq_true h2;omega
  obtain ⟨u,hu⟩:∃ u,Qo D i=u:=⟨_,rfl⟩
  obtain ⟨k,hk⟩:∃ k,D.length-1-i=k:=⟨_,rfl⟩
  have hk2:(D.length:Int)-1-i=(k:Nat):=by omega
  rw[hu]at hul
  have hs:=Ah0 hu hlt hk qn qn
  rw[hu,hk2]
  refine oO ?_
  refine⟨by omega,by omega,?_⟩
  conv=>whnf
  refine⟨E,by omega,?_⟩
  conv=>whnf
  refine⟨by omega,by omega,?_⟩
  conv=>whnf
  refine⟨E,by omega,?_⟩
  conv=>whnf
  refine⟨by omega,by omega,?_⟩
  conv=>whnf
  refine⟨E,by omega,u[k],E,E,?_⟩
  conv=>whnf
  refine⟨by omega,by simp;omega,?_⟩
  conv=>whnf
  refine⟨E,by simp;omega,u[i],E,E,?_⟩
  conv=>whnf
  refine kW ?_
  refine iW ?_
  refine iW ?_
  refine Ar [] qn ⟨⟨E,E,E,E,congrArg (fun z=>SV.val (.int .i64 z)) qn,E,Y⟩,⟨.inl (congrArg (Ob.row 4 Bl) hs.symm),E,Y⟩,E,E⟩
 ·have h3:D.length≤2 * i+1:=by have:=of_decide_eq_false h2;omega
  rw[Akn D i h3]
  refine oO ?_
  exact A6 E .nil [] [(0,.row 4 Bl D.reverse)] (fun _ h=>h) E E ⟨Y,⟨.inl E,E,Y⟩,E,E⟩
def Ma (l:List Fnd) (i:Int):List Hop :=
 if _h:0≤i∧(nth l i).ahead<i then (nth l i).hop::Ma l (nth l i).ahead else []
 termination_by (i+1).toNat
 decreasing_by omega
def backT (l:List Fnd) (i:Int):List Hop:=(Ma l i).reverse
def Backs (l:List Fnd):Prop:=∀ i (h:i<l.length),-1≤l[i].ahead∧l[i].ahead<i
theorem Backs.snoc {l:List Fnd} (h:Backs l) {f:Fnd} (hf:-1≤f.ahead∧f.ahead<l.length):Backs (l++[f]):=fun i hi=>by
 by_cases hl:i<l.length
 ·rw[List.getElem_append_left hl]
  exact h i hl
 ·have:i=l.length:=by simp at hi;omega
  subst this
  simpa using hf
theorem Backs.meet {S:Srch} (h:Backs S.list) (d k:Int) (hp:Hop) {a:Int} (ha:-1≤a∧a<S.list.length):Backs (meetT S d k hp a).list∧S.list.length≤(meetT S d k hp a).list.length:=by
 rw[meetT]
 split
 ·exact⟨h,Nat.le_refl _⟩
 ·rw[Ij]
  split
  ·exact⟨h.snoc ha,by simp⟩
  ·exact⟨h.snoc ha,by simp⟩
theorem Backs.ext1 {k i:Int}:∀ {l:List Hop} {S:Srch},Backs S.list→(-1≤i∧i<S.list.length)→Backs (ext1 S k i l).list∧S.list.length≤(ext1 S k i l).list.length
 | [],S,h,_=>⟨h,Nat.le_refl _⟩
 | x::l,S,h,hi=>by
  obtain ⟨h1,h2⟩:=h.meet x.domain k x hi
  obtain ⟨h3,h4⟩:=Backs.ext1 (k:=k) (i:=i) (l:=l) h1 ⟨hi.1,by omega⟩
  exact⟨h3,Nat.le_trans h2 h4⟩
theorem Backs.ext2 {i:Int}:∀ {l:List Lead} {S:Srch},Backs S.list→(-1≤i∧i<S.list.length)→Backs (ext2 S i l).list∧S.list.length≤(ext2 S i l).list.length
 | [],S,h,_=>⟨h,Nat.le_refl _⟩
 | x::l,S,h,hi=>by
  obtain ⟨h1,h2⟩:=h.meet x.domain 1 ⟨3,0,x.domain,x.addr⟩ hi
  obtain ⟨h3,h4⟩:=Backs.ext2 (i:=i) (l:=l) h1 ⟨hi.1,by omega⟩
  exact⟨h3,Nat.le_trans h2 h4⟩
theorem Backs.ext {n:Net} {S:Srch} (h:Backs S.list) {i:Int} (hi:0≤i∧i<S.list.length):Backs (extT n S i).list∧S.list.length≤(extT n S i).list.length:=by
 rw[extT]
 split
 ·obtain ⟨h1,h2⟩:=h.ext1 (k:=0) (i:=i) (l:=Hl n (nth S.list i).domain) ⟨by omega,hi.2⟩
  obtain ⟨h3,h4⟩:=h1.ext2 (i:=i) (l:=routesT n (nth S.list i).domain) ⟨by omega,by omega⟩
  exact⟨h3,Nat.le_trans h2 h4⟩
 ·exact h.ext1 ⟨by omega,hi.2⟩
theorem Kz (n:Net) (dev:Int) (l:List Int):Backs (Ir n dev l).list:=by
 suffices hs:∀ (l:List Int) (S:Srch),Backs S.list→Backs (l.foldl (Is n dev) S).list from hs l _ (fun i h=>by simp[Qk]at h)
 intro l
 induction l with
 | nil=>exact fun S h=>h
 | cons x l ih =>
  intro S hS
  refine ih _ ?_
  rw[Is]
  split
  ·exact hS
  ·exact(hS.meet _ _ _ ⟨by omega,by omega⟩).1
abbrev srchA (n:Net) (S:Srch) (l:List Hop):Obs:=[(0,Vp n (.osl 1) (.osl 2) (.osl 3)),(1,.row 1 Ab S.m0),(2,.row 1 Ab S.m1),(3,.row 7 Oj S.list),(1000,.row 4 Bl l)]
theorem backS (n:Net) (S:Srch) (hB:Backs S.list) (hl:S.list.length<4000000) (i:Int) (hi:-1≤i∧i<S.list.length) :
  Sy.Spec Tryz.prog 27 [.ptr 0 0,Aa i] (T4 n S) (.sl 4 Bl (backT S.list i)) (T4 n S):=cT F27 Tryz.ntmps27 fun F hF=>by
 have hlk:=backT.eq_1 S.list i
 generalize backT S.list i=res at *
 conv=>whnf
 refine Cc 5 1000 4 Bl E E ?_
 refine Vc (fun x:Int × List Hop=>(-1≤x.1∧x.1<S.list.length)∧x.2.length+(x.1+1).toNat≤S.list.length∧x.2++Ma S.list x.1=Ma S.list i)
  (fun x=>[(0,.ptr 0 0),(1,Aa x.1),(5,.osl 1000)]) (fun x=>srchA n S x.2) (fun x=>(x.1+1).toNat) (i,[]) [] ⟨hi,by simp;omega,rfl⟩
  ⟨⟨rfl,rfl,rfl,rfl,rfl,rfl,trivial⟩,⟨.inl rfl,rfl,.inl rfl,rfl,.inl rfl,rfl,.inl rfl,rfl,.inl rfl,rfl,trivial⟩,rfl,rfl⟩ ?_
 rintro ⟨z,acc⟩ ⟨hz,hal,hacc⟩
 dsimp only at hz hal hacc
 refine oO ?_
 refine⟨fun h=>?_,fun h=>?_⟩
 ·have h0:0≤z:=of_decide_eq_true h
  have hk:z.toNat<S.list.length:=by omega
  have hb:=hB z.toNat hk
  rw[Ma,Ai hk]at hacc
  obtain ⟨f,hf⟩:∃ f,S.list[z.toNat]'hk=f:=⟨_,rfl⟩
  rw[hf]at hacc hb
  rw[dif_pos ⟨h0,by omega⟩]at hacc
  refine oO ?_
  refine⟨h0,hk,?_⟩
  conv=>whnf
  refine⟨by intro e;rw[e]at hk;simp at hk,?_⟩
  conv=>whnf
  refine⟨E,hk,?_⟩
  rw[hf]
  conv=>whnf
  refine Ad (Ah Γ.toTy 26 E E E E E (.row E) (.lit (e:=Bl) (l:=[f.hop]) E E) qy (by simp;omega) (by simp;omega)) E E ?_
  refine oO ?_
  refine⟨h0,hk,?_⟩
  conv=>whnf
  refine⟨by intro e;rw[e]at hk;simp at hk,?_⟩
  conv=>whnf
  refine⟨E,hk,?_⟩
  rw[hf]
  conv=>whnf
  exact Iv (f.ahead,acc++[f.hop]) [(1000,26)] ⟨⟨hb.1,by omega⟩,by simp;omega,by rw[List.append_assoc];exact hacc⟩ (by simp only;omega)
   ⟨⟨rfl,rfl,rfl,rfl,rfl,rfl,trivial⟩,⟨.inl rfl,rfl,.inl rfl,rfl,.inl rfl,rfl,.inl rfl,rfl,.inl rfl,rfl,trivial⟩,rfl,rfl⟩
 ·have h0:¬ 0≤z:=of_decide_eq_false h
  rw[Ma,dif_neg (fun e=>h0 e.1),List.append_nil]at hacc
  have q:=Abm acc qn
  rw[← hacc]at hlk
  refine oO ?_
  refine Ad (Af [(0,1000)] E F94 q E ⟨E,Y⟩ E ⟨.inl E,Y⟩) E E ?_
  refine Aq 1000 E ?_
  rw[← hlk]
  refine oO ?_
  exact done E (.cons .tmp .nil) [] (T4 n S) (fun _ h=>h) E E ⟨Y,⟨.inl E,E,.inl E,E,.inl E,E,.inl E,E,Y⟩,E,E⟩
def Eh (n:Net) (to:Int):Nat→Srch→Nat→List Hop × Bool
 | 0,_,_=>([],false)
 | k+1,S,i=>if i<S.list.length then (if inB (B5 n (nth S.list i).domain) to=true then (backT S.list i,true) else Eh n to k (extT n S i) (i+1)) else ([],false)
def wayT (n:Net) (from_ to:Int):List Hop × Bool :=
 if I2 n from_=true∧I2 n to=true∧from_≠to∧Ac n=true then Eh n to (2 * n.domains.length+1) (beginT n from_) 0 else ([],false)
abbrev srchW (n:Net) (S:Srch):Obs:=[(32,Vp n (.osl 1001) (.osl 1002) (.osl 1003)),(1001,.row 1 Ab S.m0),(1002,.row 1 Ab S.m1),(1003,.row 7 Oj S.list)]
theorem Sc {n:Net} {i:Int} (h:I2 n i=true):0≤i∧i.toNat<n.ports.length:=by
 simp only[I2,Bool.and_eq_true,decide_eq_true_eq]at h
 omega
theorem wayS (n:Net) (hn:n.Fin) (hu:Ef n) (from_ to:Int):Sy.Spec Tryz.prog 9 [Al n,Aa from_,Aa to] [] (.tup [.sl 4 Bl (wayT n from_ to).1,Ab (wayT n from_ to).2]) []:=cT F9 Tryz.ntmps9 fun F hF=>by
 have hlk:=wayT.eq_1 n from_ to
 generalize wayT n from_ to=res at *
 have hr:=A9 n hn
 have h1:=Qc n from_
 have h2:=Qc n to
 conv=>whnf
 refine Ba 3 8 (Al n) E E E ?_
 refine oO ?_
 refine c0 h1 F22 ?_
 cases hf:I2 n from_
 ·rw[if_neg (by simp[hf])]at hlk
  subst hlk
  (refine oT ?_;refine bT ?_;refine bT ?_;refine bT ?_)
  refine Ak 6 4 Bl E ?_
  refine oO ?_
  exact dN
 refine oF ?_
 refine c0 h2 F22 ?_
 cases ht:I2 n to
 ·rw[if_neg (by simp[ht])]at hlk
  subst hlk
  (refine oT ?_;refine bT ?_;refine bT ?_)
  refine Ak 6 4 Bl E ?_
  refine oO ?_
  exact dN
 refine oF ?_
 refine⟨fun h=>?_,fun h=>?_⟩
 ·rw[if_neg (by have:from_=to:=(by simpa using h);simp[this])]at hlk
  subst hlk
  refine oT ?_
  refine Ak 6 4 Bl E ?_
  refine oO ?_
  exact dN
 have hne:from_≠to:=by simpa using h
 refine oO ?_
 refine c0 hr F23 ?_
 cases hb:Ac n
 ·rw[if_neg (by simp[hb])]at hlk
  subst hlk
  refine oT ?_
  refine Ak 6 4 Bl E ?_
  refine oO ?_
  exact dN
 rw[if_pos ⟨hf,ht,hne,hb⟩]at hlk
 have hD:n.domains.length<1000000:=by have:=(Aol hb).2.2.2.1;omega
 have hp:=Sc hf
 have q0:=beginS n hn hb hD from_ hp
 have ok0:(beginT n from_).OK n:=by
  rw[beginT,Ai hp.2]
  exact Mu fun v hv h0=>Hn hb hp.2 hv h0
 have bk0:Backs (beginT n from_).list:=by rw[beginT];exact Kz _ _ _
 generalize beginT n from_=S0 at *
 refine oF ?_
 refine Ad (Af [(0,32),(1,1001),(2,1002),(3,1003)] E F24 q0 E ⟨E,Y⟩ E ⟨.inl E,.inr E,.inr E,.inr E,Y⟩) E E ?_
 refine oO ?_
 refine Vc (fun x:Srch × Nat=>x.1.OK n∧Backs x.1.list∧x.2≤x.1.list.length∧res=Eh n to (2 * n.domains.length+1-x.2) x.1 x.2)
  (fun x=>[(2,Aa to),(3,.ref 8 (Al n) 0),(8,.ptr 32 0),(9,Aa x.2)]) (fun x=>srchW n x.1) (fun x=>2 * n.domains.length+1-x.2) (S0,0) [] ⟨ok0,bk0,Nat.zero_le _,hlk⟩
  ⟨⟨rfl,rfl,rfl,rfl,rfl,rfl,rfl,rfl,trivial⟩,⟨.inl rfl,rfl,.inl rfl,rfl,.inl rfl,rfl,.inl rfl,rfl,trivial⟩,rfl,rfl⟩ ?_
 clear hlk ok0 bk0 q0
 rintro ⟨S,i⟩ ⟨ok,bk,hi,hlk⟩
 dsimp only at ok bk hi hlk ⊢
 have hle:=ok.le
 obtain ⟨fuel,hfu⟩:∃ k,2 * n.domains.length+1-i=k+1:=⟨2 * n.domains.length-i,by omega⟩
 rw[hfu,Eh]at hlk
 refine oO ?_
 refine⟨fun h=>?_,fun h=>?_⟩
 ·have hlt:i<S.list.length:=qA h
  have hi0:((i:Nat):Int).toNat<S.list.length:=by simpa using hlt
  rw[if_pos hlt,Ai hi0]at hlk
  obtain ⟨f,hf2⟩:∃ f,S.list[((i:Nat):Int).toNat]'hi0=f:=⟨_,rfl⟩
  rw[hf2]at hlk
  have q1:=Jc n hn f.domain
  have q2:=Cq (B5 n f.domain) to (E0 n hn f.domain)
  generalize B5 n f.domain=mem at *
  refine oO ?_
  refine⟨by omega,hi0,?_⟩
  conv=>whnf
  refine⟨by intro e;rw[e]at hlt;simp at hlt,?_⟩
  conv=>whnf
  refine⟨by intro e;rw[e]at hlt;simp at hlt,?_⟩
  conv=>whnf
  refine⟨E,hi0,?_⟩
  rw[hf2]
  conv=>whnf
  refine cD q1 F26 ?_
  refine oD ?_
  refine cD q2 F25 ?_
  refine oD ?_
  refine kW ?_
  generalize inB mem to=bm at *
  cases bm
  ·refine aF ?_
   rw[if_neg qy]at hlk
   have q3:=Anx n hn hu hD S ok i ⟨by omega,hi0⟩
   have ok':=ok.ext i
   have bk':=bk.ext (n:=n) (i:=i) ⟨by omega,by omega⟩
   generalize extT n S i=S' at *
   refine oO ?_
   refine Ad (Af [(0,32),(1,1001),(2,1002),(3,1003),(4,1004)] E F28 q3 E ⟨E,E,E,E,Y⟩ E ⟨.inl E,.inl E,.inl E,.inl E,.inr E,Y⟩) E E ?_
   refine oO ?_
   refine iW ?_
   exact Iv (S',i+1) [(1003,1004)] ⟨ok',bk'.1,by simp only;omega,by simp only;rw[show 2 * n.domains.length+1-(i+1)=fuel by omega];exact hlk⟩ (by simp only;omega)
    ⟨⟨rfl,rfl,rfl,rfl,rfl,rfl,rfl,rfl,trivial⟩,⟨.inl rfl,rfl,.inl rfl,rfl,.inl rfl,rfl,.inl rfl,rfl,trivial⟩,rfl,rfl⟩
  ·refine aT ?_
   rw[if_pos rfl]at hlk
   subst hlk
   have q4:=backS n S bk qn i ⟨by omega,by omega⟩
   generalize backT S.list i=w at *
   refine oO ?_
   refine Ad (Af [(0,32),(1,1001),(2,1002),(3,1003)] E F27 q4 E ⟨E,E,E,E,Y⟩ E ⟨.inl E,.inl E,.inl E,.inl E,Y⟩) E E ?_
   refine oO ?_
   exact dN
 ·have hlt:¬ i<S.list.length:=qB h
  rw[if_neg hlt]at hlk
  subst hlk
  refine oO ?_
  refine Ak 6 4 Bl E ?_
  refine oO ?_
  exact dN
end Go.Sy.YteinjapglfkamaaGreat
namespace Go.Sy.YteinjapglfkamaaGreat
open Go.Proofs
def S5 (n:Net) (h:Hop):Prop:=(0≤h.domain∧h.domain.toNat<n.domains.length)∧0≤h.addr∧h.addr<4294967296
theorem Ajn {n:Net} {irb to e:Int} (he:e<4294967296):∀ {x:Int},0≤x→0≤(addrGo n irb to e x).1∧(addrGo n irb to e x).1<4294967296:=by
 intro x
 induction x using addrGo.induct n irb to e with
 | case1 x h1 h2=>intro h0;rw[addrGo,if_pos h1,if_pos h2];exact⟨h0,by simp only;omega⟩
 | case2 x h1 h2 h3=>intro h0;rw[addrGo,if_pos h1,if_neg h2,if_pos h3];decide
 | case3 x h1 h2 h3 h4 ih=>intro h0;rw[addrGo,if_pos h1,if_neg h2,if_neg h3,if_pos h4];exact ih qn
 | case4 x h1 h2 h3 h4=>intro h0;rw[addrGo,if_pos h1,if_neg h2,if_neg h3,if_neg h4];decide
 | case5 x h1=>intro h0;rw[addrGo,if_neg h1];decide
theorem Amo {n:Net} (hu:Ef n) (irb to:Int):0≤(addrT n irb to).1∧(addrT n irb to).1<4294967296:=by
 rw[addrT]
 split
 ·rename_i hc
  have hk:to.toNat<n.irbs.length:=by omega
  rw[Ai hk]
  have hui:=hu _ (List.getElem_mem hk)
  exact Ajn (Q6 _ _ hui).2 (Y1 _ _ hui).1
 ·decide
theorem Acv {n:Net} {d:Int} {h:Hop} (hh:h∈Hl n d):S5 n h:=by
 refine⟨Sd hh,?_⟩
 rw[Hl]at hh
 split at hh
 ·rcases List.mem_append.1 hh with hh | hh
  ·obtain ⟨p,_,hp⟩:=List.mem_filterMap.1 hh
   rw[linkHop]at hp
   split at hp
   ·simp only[Option.some.injEq]at hp
    subst hp
    exact⟨by simp,by simp⟩
   ·cases hp
  ·obtain ⟨p,hp,rfl⟩:=List.mem_map.1 hh
   exact⟨by simp[Iz],by simp[Iz]⟩
 ·cases hh
theorem Zk {n:Net} (hu:Ef n) {d:Int} {q:Lead} (hq:q∈routesT n d):0≤q.addr∧q.addr<4294967296:=by
 rw[routesT]at hq
 split at hq
 ·obtain ⟨i,hi,hp⟩:=List.mem_filterMap.1 hq
  rw[leadF]at hp
  split at hp
  ·simp only[Option.some.injEq]at hp
   subst hp
   exact Amo hu _ _
  ·cases hp
 ·cases hq
def HopsOK (n:Net) (l:List Fnd):Prop:=∀ f∈l,S5 n f.hop
theorem HopsOK.meet {n:Net} {S:Srch} (h:HopsOK n S.list) (d k:Int) {hp:Hop} (hh:S5 n hp) (a:Int):HopsOK n (meetT S d k hp a).list:=by
 rw[meetT]
 split
 ·exact h
 ·rw[Ij]
  split<;>(intro f hf;rcases List.mem_append.1 hf with hf | hf;exact h f hf;rw[List.mem_singleton]at hf;subst hf;exact hh)
theorem HopsOK.ext1 {n:Net} {k i:Int}:∀ {l:List Hop} {S:Srch},HopsOK n S.list→(∀ h∈l,S5 n h)→HopsOK n (ext1 S k i l).list
 | [],S,h,_=>h
 | x::l,S,h,hl=>HopsOK.ext1 (l:=l) (h.meet x.domain k (hl x qy) i) (fun y hy=>hl y (by simp[hy]))
theorem HopsOK.ext2 {n:Net} {i:Int}:∀ {l:List Lead} {S:Srch},HopsOK n S.list→(∀ q∈l,S5 n ⟨3,0,q.domain,q.addr⟩)→HopsOK n (ext2 S i l).list
 | [],S,h,_=>h
 | x::l,S,h,hl=>HopsOK.ext2 (l:=l) (h.meet x.domain 1 (hl x qy) i) (fun y hy=>hl y (by simp[hy]))
theorem HopsOK.ext {n:Net} (hu:Ef n) {S:Srch} (h:HopsOK n S.list) (i:Int):HopsOK n (extT n S i).list:=by
 rw[extT]
 split
 ·exact(h.ext1 (fun x hx=>Acv hx)).ext2 (fun q hq=>⟨Oy hq,Zk hu hq⟩)
 ·exact h.ext1 (fun x hx=>Acv hx)
theorem Adp {n:Net} {dev:Int} {l:List Int} (h:∀ v∈l,v≠0→0≤Ch n dev v∧(Ch n dev v).toNat<n.domains.length):HopsOK n (Ir n dev l).list:=by
 suffices hs:∀ (l:List Int) (S:Srch),HopsOK n S.list→(∀ v∈l,v≠0→0≤Ch n dev v∧(Ch n dev v).toNat<n.domains.length)→HopsOK n (l.foldl (Is n dev) S).list from hs l _ (fun f hf=>by simp[Qk]at hf) h
 intro l
 induction l with
 | nil=>exact fun S h _=>h
 | cons x l ih =>
  intro S hS hl
  refine ih _ ?_ (fun v hv=>hl v (by simp[hv]))
  rw[Is]
  split
  ·exact hS
  ·rename_i hx
   exact hS.meet _ _ ⟨hl x qy hx,by simp,by simp⟩ _
theorem Adq {l:List Fnd} (hB:Backs l) {P:Hop→Prop} (hP:∀ f∈l,P f.hop):∀ (k:Nat) (i:Int),i<k→i<l.length→(∀ h∈Ma l i,P h)∧((Ma l i).length:Int)≤i+1∨i<0:=by
 intro k
 induction k with
 | zero=>intro i hi _;exact .inr qn
 | succ k ih =>
  intro i hi hl
  by_cases h0:0≤i
  ·left
   have hk:i.toNat<l.length:=by omega
   have hb:=hB i.toNat hk
   rw[Ma,Ai hk,dif_pos ⟨h0,by omega⟩]
   have hm:=hP _ (List.getElem_mem hk)
   rcases ih (l[i.toNat]'hk).ahead qn qn with ⟨h1,h2⟩ | h1
   ·refine⟨fun h hh=>?_,by rw[List.length_cons];omega⟩
    rcases List.mem_cons.1 hh with rfl | hh
    ·exact hm
    ·exact h1 h hh
   ·rw[Ma,dif_neg (fun e=>by omega)]
    refine⟨fun h hh=>?_,by simp;omega⟩
    rw[List.mem_singleton]at hh
    subst hh
    exact hm
  ·exact .inr qn
theorem Un {l:List Fnd} (hB:Backs l) {P:Hop→Prop} (hP:∀ f∈l,P f.hop) {i:Nat} (hi:i<l.length):(∀ h∈backT l i,P h)∧(backT l i).length≤i+1∧backT l i≠[]:=by
 rcases Adq hB hP (i+1) i qn qn with ⟨h1,h2⟩ | h
 ·refine⟨fun h hh=>h1 h (by simpa [backT] using hh),by rw[backT,List.length_reverse];omega,?_⟩
  rw[backT]
  intro e
  have hk:((i:Nat):Int).toNat<l.length:=by simpa using hi
  have hb:=hB ((i:Nat):Int).toNat hk
  rw[Ma,Ai hk,dif_pos ⟨by omega,by omega⟩]at e
  simp at e
 ·omega
theorem M7 {n:Net} (hu:Ef n) {to:Int}:∀ (k:Nat) (S:Srch) (i:Nat),S.OK n→Backs S.list→HopsOK n S.list→i≤S.list.length→(Eh n to k S i).2=true →
  (∀ h∈(Eh n to k S i).1,S5 n h)∧(Eh n to k S i).1.length≤2 * n.domains.length∧(Eh n to k S i).1≠[]
 | 0,S,i,_,_,_,_,h=>by cases h
 | k+1,S,i,ok,bk,hk,hi,h=>by
  rw[Eh]at h ⊢
  split at h
  ·rename_i hlt
   rw[if_pos hlt]
   split at h
   ·rename_i hm2
    rw[if_pos hm2]
    have:=Un bk hk hlt
    have hle:=ok.le
    exact⟨this.1,by have:=this.2.1;simp only;omega,this.2.2⟩
   ·rename_i hm2
    rw[if_neg hm2]
    have bk':=bk.ext (n:=n) (i:=i) ⟨by omega,by omega⟩
    exact M7 hu k _ _ (ok.ext i) bk'.1 (hk.ext hu i) qn h
  ·cases h
theorem wayT_facts {n:Net} (hu:Ef n) {from_ to:Int} (h:(wayT n from_ to).2=true) :
  (∀ h∈(wayT n from_ to).1,S5 n h)∧(wayT n from_ to).1.length≤2 * n.domains.length∧(wayT n from_ to).1≠[]∧Ac n=true:=by
 rw[wayT]at h ⊢
 split at h
 ·rename_i hc
  rw[if_pos hc]
  have hp:=Sc hc.1
  have ok0:(beginT n from_).OK n:=by
   rw[beginT,Ai hp.2]
   exact Mu fun v hv h0=>Hn hc.2.2.2 hp.2 hv h0
  have hk0:HopsOK n (beginT n from_).list:=by
   rw[beginT,Ai hp.2]
   exact Adp fun v hv h0=>Hn hc.2.2.2 hp.2 hv h0
  have bk0:Backs (beginT n from_).list:=by rw[beginT];exact Kz _ _ _
  obtain ⟨h1,h2,h3⟩:=M7 hu _ _ _ ok0 bk0 hk0 (Nat.zero_le _) h
  exact⟨h1,h2,h3,hc.2.2.2⟩
 ·cases h
end Go.Sy.YteinjapglfkamaaGreat
namespace Go.Sy.YteinjapglfkamaaGreat
open Go.Proofs
attribute [local irreducible] Go.Sy.G Go.Sy.DR
set_option maxRecDepth 20000
set_option maxHeartbeats 4000000
theorem Aeh (l:List Int) (least most:Int) (hl:Aj l):Sy.Spec Tryz.prog 151 [.sl 1 Aa l,Aa least,Aa most] [] (Ab (C0 l least most)) []:=cT F151 Tryz.ntmps151 fun F hF=>by
 unfold Aj at hl
 conv=>whnf
 (repeat' (first | (refine⟨fun h=>?_,fun h=>?_⟩<;>(repeat (first | simp only[decide_eq_true_eq]at h | simp only[decide_eq_false_iff_not]at h))<;>((refine oO ?_);repeat((refine aT ?_);(refine oO ?_)))) | (refine Am rfl (.cons .tmp .nil) ?_ rfl)))
 all_goals try (refine congrArg Ab ?_)
 ·rw[C0];simp;omega
 ·rw[C0];simp;omega
 refine Ay l.length (fun j=>C4 (Jq l least most) l j) (fun j=>[(0,.sl 1 Aa l),(1,Aa least),(2,Aa most),(7,Aa j)]) (fun _=>[]) [] (At _ _) ⟨⟨E,E,E,E,E,E,E,E,Y⟩,Y,E,E⟩ ?_
 intro j hj hI
 refine oO ?_
 (repeat' (first | (refine⟨fun h=>?_,fun h=>?_⟩<;>(repeat (first | simp only[decide_eq_true_eq]at h | simp only[decide_eq_false_iff_not]at h))<;>((first|refine rg ?_|refine rd qq ?_);(conv=>whnf);repeat((refine aT ?_);(refine rd qq ?_);(conv=>whnf)))) | (refine Am rfl (.cons .tmp .nil) ?_ rfl) | (refine⟨qq,?_⟩;((conv=>whnf);repeat((first|refine aF ?_|refine aT ?_);(refine oO ?_)))) | (refine⟨by (first | (unfold I64;omega) | omega),by (omega),?_⟩;((conv=>whnf))) | (refine⟨by (unfold I64;omega),?_⟩;((conv=>whnf))) | refine Aw [] hI qn ?_ ⟨⟨rfl,rfl,rfl,rfl,rfl,rfl,rfl,rfl,trivial⟩,trivial,rfl,rfl⟩))
 all_goals try (refine congrArg Ab ?_)
 all_goals try simp only[Int.toNat_natCast,Int.pred_toNat]at *
 ·rw[C0,A1 (i:=j) qn (by simp[Jq];omega)];simp
 ·rw[C0,A1 (i:=j) qn (by simp[Jq];omega)];simp
 ·rw[C0,A1 (i:=j) qn (by simp only[Jq,Ai (show ((j:Int)-1).toNat<l.length by omega),Int.pred_toNat,Int.toNat_natCast];simp;omega)];simp
 ·exact Ap hI qn (by simp only[Jq,Ai (show ((j:Int)-1).toNat<l.length by omega),Int.pred_toNat,Int.toNat_natCast];simp;omega)
 ·exact Ap hI qn (by simp[Jq];omega)
 ·rw[C0,B0 hI qn,Bool.eq_iff_iff];simp;omega
theorem Kk (l:List Int) (most:Int) (hl:Aj l):Sy.Spec Tryz.prog 98 [.sl 1 Aa l,Aa most] [] (Ab (decide (l.length=0) || C0 l 1 most)) []:=cT F98 Tryz.ntmps98 fun F hF=>by
 conv=>whnf
 (repeat' (first | (refine⟨fun h=>?_,fun h=>?_⟩<;>(repeat (first | simp only[beq_iff_eq]at h | simp only[beq_eq_false_iff_ne]at h))<;>((refine oO ?_))) | (refine Am rfl (.cons .tmp .nil) ?_ rfl) | (refine c0 (Aeh l 1 most hl) F151 ?_;((refine oO ?_)))))
 all_goals (refine congrArg Ab ?_)
 all_goals grind
theorem B3 (i:Int) (n:Nat):Sy.Spec Tryz.prog 46 [Aa i,Aa n] [] (Ab (Ag i n)) []:=cT F46 Tryz.ntmps46 fun F hF=>by
 conv=>whnf
 (repeat' (first | (refine⟨fun h=>?_,fun h=>?_⟩<;>(repeat (first | simp only[decide_eq_true_eq]at h | simp only[decide_eq_false_iff_not]at h))<;>((refine oO ?_))) | (refine Am rfl (.cons .tmp .nil) ?_ rfl)))
 all_goals (refine congrArg Ab ?_)
 all_goals grind [Ag]
theorem Kc {α:Type} {p:α→Bool} {l:List α} {j:Nat} (hI:C4 (fun _ x=>!(p x)) l j) (hj:l.length≤j):l.any p=false:=by
 rw[List.any_eq_false]
 intro x hx
 obtain ⟨i,hi,rfl⟩:=List.mem_iff_getElem.1 hx
 simpa using hI i hi qn
theorem Md {α:Type} {p:α→Bool} {l:List α} {j:Nat} (hj:j<l.length) (h:p l[j]=true):l.any p=true:=List.any_eq_true.2 ⟨_,List.getElem_mem hj,h⟩
theorem Qs (l:List Int) (x:Int) (hl:Aj l):Sy.Spec Tryz.prog 36 [.sl 1 Aa l,Aa x] [] (Ab (inB l x)) []:=cT F36 Tryz.ntmps36 fun F hF=>by
 unfold Aj at hl
 conv=>whnf
 refine Ay l.length (fun j=>C4 (fun _ y=>!(y == x)) l j) (fun j=>[(0,.sl 1 Aa l),(1,Aa x),(5,Aa j)]) (fun _=>[]) [] (At _ _) ⟨⟨E,E,E,E,E,E,Y⟩,Y,E,E⟩ ?_
 intro j hj hI
 refine oO ?_
 (repeat' (first | (refine⟨fun h=>?_,fun h=>?_⟩<;>(repeat (first | simp only[decide_eq_true_eq]at h | simp only[decide_eq_false_iff_not]at h | simp only[beq_iff_eq]at h | simp only[beq_eq_false_iff_ne]at h))<;>((refine oO ?_))) | (refine Am rfl (.cons .tmp .nil) ?_ rfl) | (refine⟨qq,?_⟩;((conv=>whnf))) | (refine⟨by (omega),by (omega),?_⟩;((conv=>whnf))) | (refine⟨by (unfold I64;omega),?_⟩;((conv=>whnf))) | refine Aw [] hI qn ?_ ⟨⟨rfl,rfl,rfl,rfl,rfl,rfl,trivial⟩,trivial,rfl,rfl⟩))
 all_goals try (refine congrArg Ab ?_)
 ·exact Md (j:=j) qn (by simpa using h)
 ·exact Ap hI qn (by simpa using h)
 ·exact Kc hI qn
theorem Zo (p:Port) (v:Int) (hl:Aj p.tagged):Sy.Spec Tryz.prog 99 [A2 p,Aa v] [] (Ab (Dk p v)) []:=cT F99 Tryz.ntmps99 fun F hF=>by
 conv=>whnf
 (repeat' (first | (refine⟨fun h=>?_,fun h=>?_⟩<;>(repeat (first | simp only[beq_iff_eq]at h | simp only[beq_eq_false_iff_ne]at h | simp only[bne_iff_ne]at h | simp only[bne_eq_false_iff_eq]at h))<;>((refine oO ?_))) | (refine Am rfl (.cons .tmp .nil) ?_ rfl) | (refine c0 (Qs p.tagged v hl) F36 ?_;((refine oO ?_)))))
 all_goals (refine congrArg Ab ?_)
 all_goals grind [Dk]
theorem V0 (n:Net) (dev vlan:Int) (hl:Aj n.domains):Sy.Spec Tryz.prog 35 [Al n,Aa dev,Aa vlan] [] (Aa (Tx n dev vlan)) []:=cT F35 Tryz.ntmps35 fun F hF=>by
 unfold Aj at hl
 conv=>whnf
 refine Ba 3 8 (Al n) E E E ?_
 refine Ay n.domains.length (fun j=>C4 (fun _ d=>!(d.dev == dev && d.vlan == vlan)) n.domains j) (fun j=>[(1,Aa dev),(2,Aa vlan),(3,.ref 8 (Al n) 0),(7,Aa j)]) (fun _=>[]) [] (At _ _) ⟨⟨E,E,E,E,E,E,E,E,Y⟩,Y,E,E⟩ ?_
 intro j hj hI
 refine oO ?_
 (repeat' (first | (refine⟨fun h=>?_,fun h=>?_⟩<;>(repeat (first | simp only[decide_eq_true_eq]at h | simp only[decide_eq_false_iff_not]at h | simp only[beq_iff_eq]at h | simp only[beq_eq_false_iff_ne]at h))<;>((refine oO ?_);repeat((refine aF ?_);(refine oO ?_)))) | (refine Am rfl (.cons .tmp .nil) ?_ rfl) | (refine⟨qq,?_⟩;((conv=>whnf))) | (refine⟨by (omega),by (omega),?_⟩;((conv=>whnf))) | (refine⟨by (unfold I64;omega),?_⟩;((conv=>whnf))) | refine Aw [] hI qn ?_ ⟨⟨rfl,rfl,rfl,rfl,rfl,rfl,rfl,rfl,trivial⟩,trivial,rfl,rfl⟩))
 all_goals try (refine congrArg Aa ?_)
 ·exact C6 qn (fun i hi hij=>by have:=hI i hi hij;grind) (by simp_all)
 ·exact Ap hI qn (by simp_all)
 ·exact Ap hI qn (by simp_all)
 ·exact Ds (fun i hi=>by have:=hI i hi qn;grind)
theorem Abs (n:Net) (hn:n.Fin):Sy.Spec Tryz.prog 31 [Al n] [] (Ab (Cg (Jz n) n.links)) []:=cT F31 Tryz.ntmps31 fun F hF=>by
 have hl:=hn.links
 unfold Aj at hl
 conv=>whnf
 refine Ba 1 8 (Al n) E E E ?_
 refine Ay n.links.length (fun j=>C4 (Jz n) n.links j) (fun j=>[(1,.ref 8 (Al n) 0),(3,Aa j)]) (fun _=>[]) [] (At _ _) ⟨⟨E,E,E,E,Y⟩,Y,E,E⟩ ?_
 intro j hj hI
 refine oO ?_
 (repeat' (first | (refine⟨fun h=>?_,fun h=>?_⟩<;>(repeat (first | simp only[Ag]at h | simp only[decide_eq_true_eq]at h | simp only[decide_eq_false_iff_not]at h | simp only[beq_iff_eq]at h | simp only[beq_eq_false_iff_ne]at h | simp only[bne_iff_ne]at h | simp only[bne_eq_false_iff_eq]at h | simp only[Bool.and_eq_true]at h | simp only[Bool.and_eq_false_iff]at h | simp only[Bool.not_eq_true']at h | simp only[Bool.not_eq_false']at h))<;>((first|refine rg ?_|refine rd qq ?_);(conv=>whnf);repeat((refine aT ?_);(first|refine rg ?_|refine rd qq ?_);(conv=>whnf)))) | (refine Am rfl (.cons .tmp .nil) ?_ rfl) | (refine⟨qq,?_⟩;((conv=>whnf);repeat((refine aT ?_);(refine oO ?_)))) | (refine⟨by (first | omega | (simp only[Int.toNat_natCast];omega)),by (first | omega | (simp only[Int.toNat_natCast];omega)),?_⟩;((conv=>whnf))) | (refine⟨by (unfold I64;omega),?_⟩;((conv=>whnf))) | (refine c0 (B3 (n.links[j]'qn).a n.ports.length) F46 ?_;((refine oO ?_))) | (refine c0 (B3 (n.links[j]'qn).b n.ports.length) F46 ?_;((refine oO ?_))) | refine Aw [] hI qn ?_ ⟨⟨rfl,rfl,rfl,rfl,trivial⟩,trivial,rfl,rfl⟩))
 all_goals (simp only[Int.toNat_natCast]at *)
 all_goals first
  | exact Ap hI qn (by clear hI hF;grind [Jz,Ag,Ai])
  | (refine congrArg Ab ?_;exact A1 (i:=j) qn (by clear hI hF;grind [Jz,Ag,Ai]))
  | (refine congrArg Ab ?_;exact B0 hI qn)
theorem Abr (n:Net) (hn:n.Fin):Sy.Spec Tryz.prog 30 [Al n] [] (Ab (Cg (Ec n) n.ports)) []:=cT F30 Tryz.ntmps30 fun F hF=>by
 have hl:=hn.ports
 unfold Aj at hl
 conv=>whnf
 refine Ba 1 8 (Al n) E E E ?_
 refine Ay n.ports.length (fun j=>C4 (Ec n) n.ports j) (fun j=>[(1,.ref 8 (Al n) 0),(3,Aa j)]) (fun _=>[]) [] (At _ _) ⟨⟨E,E,E,E,Y⟩,Y,E,E⟩ ?_
 intro j hj hI
 refine oO ?_
 refine⟨fun h=>?_,fun h=>?_⟩
 ·have hjl:j<n.ports.length:=by simpa using h
  have ht:=hn.tagged _ (List.getElem_mem hjl)
  generalize hp:n.ports[j]=p at ht
  have hp':n.ports[(j:Int).toNat]'qn=p:=hp
  refine oO ?_
  refine⟨E,by omega,by omega,?_⟩
  rw[hp']
  conv=>whnf
  (repeat' (first | (refine⟨fun h=>?_,fun h=>?_⟩<;>(repeat (first | simp only[Ag]at h | simp only[decide_eq_true_eq]at h | simp only[decide_eq_false_iff_not]at h | simp only[beq_iff_eq]at h | simp only[beq_eq_false_iff_ne]at h | simp only[Bool.and_eq_true]at h | simp only[Bool.or_eq_true]at h | simp only[Bool.and_eq_false_iff]at h | simp only[Bool.or_eq_false_iff]at h | simp only[Bool.not_eq_true']at h | simp only[Bool.not_eq_false']at h))<;>((refine oO ?_);repeat((first|refine aF ?_|refine aT ?_);(refine oO ?_)))) | (refine Am rfl (.cons .tmp .nil) ?_ rfl) | (refine c0 (B3 p.dev n.devices.length) F46 ?_;((refine oO ?_))) | (refine c0 (Kk p.tagged 4094 ht) F98 ?_;((refine oO ?_))) | (refine c0 (Qs p.tagged p.native ht) F36 ?_;((refine oO ?_))) | (refine c0 (V0 n p.dev p.native hn.domains) F35 ?_;((refine oO ?_)))))
  all_goals first
   | (refine congrArg Ab ?_;exact A1 hjl (by rw[hp];clear hI hF hp';grind [Ec,Ag,Bt]))
   | skip
  all_goals (
   refine Ba 4 7 (A2 p) E E E ?_
   refine Ay p.tagged.length (fun k=>C4 (fun _ v=>Bt n p.dev v) p.tagged k) (fun k=>[(1,.ref 8 (Al n) 0),(3,Aa j),(4,.ref 7 (A2 p) 0),(5,Aa k)]) (fun _=>[]) [] (At _ _) ⟨⟨E,E,E,E,E,E,E,E,Y⟩,Y,E,E⟩ ?_
   intro k hk hI2
   have hsh:=ht
   unfold Aj at hsh
   ((first|refine rG Γ hm ?_|refine rD Γ hm qq ?_);(conv=>whnf);repeat((first|refine aF ?_|refine aT ?_);(first|refine rG Γ hm ?_|refine rD Γ hm qq ?_);conv=>whnf)))
  all_goals (
   (repeat' (first | (refine⟨fun h=>?_,fun h=>?_⟩<;>(repeat (first | simp only[Ag]at h | simp only[decide_eq_true_eq]at h | simp only[decide_eq_false_iff_not]at h | simp only[beq_iff_eq]at h | simp only[beq_eq_false_iff_ne]at h | simp only[bne_iff_ne]at h | simp only[bne_eq_false_iff_eq]at h | simp only[Bool.and_eq_true]at h | simp only[Bool.and_eq_false_iff]at h | simp only[Bool.not_eq_true']at h | simp only[Bool.not_eq_false']at h))<;>((refine oO ?_);repeat((first|refine aF ?_|refine aT ?_);(refine oO ?_)))) | (refine Am rfl (.cons .tmp .nil) ?_ rfl) | (refine⟨qq,?_⟩;((conv=>whnf))) | (refine⟨by (omega),by (omega),?_⟩;((conv=>whnf))) | (refine⟨by (unfold I64;omega),?_⟩;((conv=>whnf))) | (refine cD (V0 n p.dev (p.tagged[k]'qn) hn.domains) F35 ?_;((refine rd qq ?_);(conv=>whnf))) | (refine c0 (B3 p.link n.links.length) F46 ?_;((refine oO ?_))) | refine Aw [] hI2 qn ?_ ⟨⟨rfl,rfl,rfl,rfl,rfl,rfl,rfl,rfl,trivial⟩,trivial,rfl,rfl⟩ | refine Aw [] hI qn ?_ ⟨⟨rfl,rfl,rfl,rfl,trivial⟩,trivial,rfl,rfl⟩)))
  all_goals first
   | exact Ap hI2 qn (by simp only[Bt,decide_eq_true_eq];omega)
   | (refine congrArg Ab ?_
      have h0:Cg (fun _ v=>Bt n p.dev v) p.tagged=false:=A1 (i:=k) qn (by simp only[Bt,decide_eq_false_iff_not];omega)
      exact A1 hjl (by rw[hp];clear hI hI2 hF hp';grind [Ec]))
   | skip
  all_goals have h0:Cg (fun _ v=>Bt n p.dev v) p.tagged=true:=B0 hI2 qn
  all_goals first
   | exact Ap hI hjl (by rw[hp];clear hI hI2 hF hp';grind [Ec,Ag,Bt,Ai])
   | (refine congrArg Ab ?_
      exact A1 hjl (by rw[hp];clear hI hI2 hF hp';grind [Ec,Ag,Bt,Ai]))
 ·refine oO ?_
  exact Am E (.cons .tmp .nil) (congrArg Ab (B0 hI (by simpa using h))) E
theorem Aek (n:Net) (i:Nat) (k:Int) (hn:n.Fin) (hi:i<n.domains.length) (hb:Cg (E5 n) n.domains=true):Sy.Spec Tryz.prog 97 [Al n,Aa i,Aa k] [] (Ab (K5 n i n.domains[i] k)) []:=cT F97 Tryz.ntmps97 fun F hF=>by
 have hd:=Kb hb hi
 have ha:n.domains[(i:Int).toNat]'qn=n.domains[i]:=rfl
 have hr:∀ x:Bool,K5 n i n.domains[i] k=x→K5 n i (n.domains[(i:Int).toNat]'qn) k=x:=fun x h=>h
 generalize n.domains[i]=d at *
 simp only[Ag,Bool.and_eq_true,decide_eq_true_eq]at hd
 conv=>whnf
 (repeat' (first | (refine⟨fun h=>?_,fun h=>?_⟩<;>(repeat (first | simp only[Ag]at h | simp only[decide_eq_true_eq]at h | simp only[decide_eq_false_iff_not]at h | simp only[beq_iff_eq]at h | simp only[beq_eq_false_iff_ne]at h | simp only[bne_iff_ne]at h | simp only[bne_eq_false_iff_eq]at h | simp only[Bool.and_eq_true]at h | simp only[Bool.and_eq_false_iff]at h | simp only[Bool.not_eq_true']at h | simp only[Bool.not_eq_false']at h))<;>((refine oO ?_);repeat((first|refine aF ?_|refine aT ?_);(refine oO ?_)))) | (refine Am rfl (.cons .tmp .nil) ?_ rfl) | (refine⟨qq,?_⟩;((conv=>whnf))) | (refine⟨by (first | omega | (first | (simp only[ha];omega) | (have hq:=Kb hb (i:=k.toNat) qn;simp only[Ag,Bool.and_eq_true,decide_eq_true_eq]at hq;omega))),by (first | omega | (first | (simp only[ha];omega) | (have hq:=Kb hb (i:=k.toNat) qn;simp only[Ag,Bool.and_eq_true,decide_eq_true_eq]at hq;omega))),?_⟩;((conv=>whnf))) | (refine c0 (B3 k n.domains.length) F46 ?_;((refine oO ?_))) | (refine c0 (Qs (n.domains[k.toNat]'qn).peers i (hn.peers _ (List.getElem_mem _))) F36 ?_;((refine oO ?_)))))
 all_goals (
  refine congrArg Ab ?_
  have hq:∀ h:k.toNat<n.domains.length,0≤n.domains[k.toNat].dev∧n.domains[k.toNat].dev<n.devices.length:=fun h=>by
   have:=Kb hb h
   simpa only [Ag,Bool.and_eq_true,decide_eq_true_eq] using this
  clear hF hr;grind [K5,Aax,Ag,Ai])
theorem Anr (l:List Int) (k:Nat) (hk:k<l.length):inB (l.take k) l[k]=!(B8 (· == l[k]) l == (k:Int)):=by
 have h0:∀ x,B8 (· == l[k]) l=x→inB (l.take k) l[k]=!(x == (k:Int)):=by
  intro x hx
  subst hx
  unfold B8
  split
  ·rename_i i h
   rw[List.findIdx?_eq_some_iff_getElem]at h
   obtain ⟨hi,h1,h2⟩:=h
   have hle:i≤k:=by
    rcases Nat.lt_or_ge k i with h3 | h3
    ·exact absurd (h2 k h3) qy
    ·exact h3
   by_cases he:i=k
   ·subst he
    simp only[inB,beq_self_eq_true,Bool.not_true]
    rw[List.any_eq_false]
    intro x hx
    obtain ⟨m,hm,rfl⟩:=List.mem_iff_getElem.1 hx
    simp only[List.length_take]at hm
    rw[List.getElem_take]
    have:=h2 m qn
    simpa using this
   ·have:((i:Int) == (k:Int))=false:=by simp;omega
    rw[this]
    simp only[inB,Bool.not_false]
    refine List.any_eq_true.2 ⟨l[i],?_,h1⟩
    exact List.mem_iff_getElem.2 ⟨i,by simp;omega,by simp⟩
  ·rename_i h
   rw[List.findIdx?_eq_none_iff]at h
   have:=h l[k] (List.getElem_mem hk)
   simp at this
 exact h0 _ E
theorem Oh {P:Program} (Γ:Ty P) {o:Oper} {s:SS} {t:TypeId} {ti:TI} {et:TypeId} {sz eb lo hi:Nat} {ez:List Value} {x:Operand} {lx hx:Option Operand} {α:Type} {e:α→SV} {l:List α} (r:List α)
  (h:o.op=.slice t x lx hx none) (ht:Γ.get t=some ti) (hk:ti.k=.slice et sz eb ez) (hxe:ev s x=.sl sz e l) (hlo:BoundIs s lx 0 lo) (hhi:BoundIs s hx l.length hi) (h1:lo≤hi) (h2:hi≤l.length) (hr:(l.take hi).drop lo=r) :
  Good P o s ⟨.sl sz e r,[],[]⟩:=by
 subst hr
 exact Cf Γ h ht hk hxe hlo hhi h1 h2
theorem Xr (n:Net) (hn:n.Fin):Sy.Spec Tryz.prog 29 [Al n] [] (Ab (Cg (E5 n) n.domains && Cg (Lq n) n.domains)) []:=cT F29 Tryz.ntmps29 fun F hF=>by
 have hl:=hn.domains
 unfold Aj at hl
 conv=>whnf
 refine Ba 1 8 (Al n) E E E ?_
 refine Ay n.domains.length (fun j=>C4 (E5 n) n.domains j) (fun j=>[(1,.ref 8 (Al n) 0),(3,Aa j)]) (fun _=>[]) [] (At _ _) ⟨⟨E,E,E,E,Y⟩,Y,E,E⟩ ?_
 intro j hj hI
 refine oO ?_
 refine⟨fun h=>?_,fun h=>?_⟩
 ·have hjl:j<n.domains.length:=by simpa using h
  generalize hp:n.domains[j]=p
  have hp':n.domains[(j:Int).toNat]'qn=p:=hp
  refine oO ?_
  refine⟨E,by omega,by omega,?_⟩
  rw[hp']
  conv=>whnf
  (repeat' (first | (refine⟨fun h=>?_,fun h=>?_⟩<;>(repeat (first | simp only[Ag]at h | simp only[decide_eq_true_eq]at h | simp only[decide_eq_false_iff_not]at h | simp only[bne_iff_ne]at h | simp only[bne_eq_false_iff_eq]at h | simp only[Bool.and_eq_true]at h | simp only[Bool.and_eq_false_iff]at h | simp only[Bool.not_eq_true']at h | simp only[Bool.not_eq_false']at h))<;>((refine oO ?_);repeat((first|refine aF ?_|refine aT ?_);(refine oO ?_)))) | (refine Am rfl (.cons .tmp .nil) ?_ rfl) | (refine⟨qq,?_⟩;((conv=>whnf))) | (refine⟨by (omega),by (omega),?_⟩;((conv=>whnf))) | (refine⟨by (unfold I64;omega),?_⟩;((conv=>whnf))) | (refine c0 (B3 p.dev n.devices.length) F46 ?_;((refine oO ?_))) | (refine c0 (B3 p.irb n.irbs.length) F46 ?_;((refine oO ?_))) | (refine c0 (V0 n p.dev p.vlan hn.domains) F35 ?_;((refine oO ?_))) | refine Aw [] hI qn ?_ ⟨⟨rfl,rfl,rfl,rfl,trivial⟩,trivial,rfl,rfl⟩))
  all_goals first
   | exact Ap hI hjl (by rw[hp];clear hI hF hp';grind [E5,Ag,Ai])
   | (refine congrArg Ab ?_;rw[A1 (p:=E5 n) hjl (by rw[hp];clear hI hF hp';grind [E5,Ag,Ai])];rfl)
 have hb:Cg (E5 n) n.domains=true:=B0 hI (by simpa using h)
 clear hI
 refine oO ?_
 refine Ay n.domains.length (fun j=>C4 (Lq n) n.domains j) (fun j=>[(1,.ref 8 (Al n) 0),(5,Aa j)]) (fun _=>[]) [] (At _ _) ⟨⟨E,E,E,E,Y⟩,Y,E,E⟩ ?_
 clear hj h
 intro j hj hI
 refine oO ?_
 refine⟨fun h=>?_,fun h=>?_⟩
 ·have hjl:j<n.domains.length:=by simpa using h
  have hpe:=fun k=>Aek n j k hn hjl hb
  have hsh:=hn.peers _ (List.getElem_mem hjl)
  generalize hp:n.domains[j]=p at hpe hsh
  have hp':n.domains[(j:Int).toNat]'qn=p:=hp
  refine oO ?_
  refine⟨E,by omega,by omega,?_⟩
  rw[hp']
  conv=>whnf
  refine Ba 6 6 (Ao p) E E E ?_
  refine Ay p.peers.length (fun k=>C4 (fun at_ k=>K5 n j p k && B8 (· == k) p.peers == at_) p.peers k) (fun k=>[(1,.ref 8 (Al n) 0),(5,Aa j),(6,.ref 6 (Ao p) 0),(7,Aa k)]) (fun _=>[]) [] (At _ _) ⟨⟨E,E,E,E,E,E,E,E,Y⟩,Y,E,E⟩ ?_
  intro k hk hI2
  unfold Aj at hsh
  refine oO ?_
  refine⟨fun h2=>?_,fun h2=>?_⟩
  ·have hkl:k<p.peers.length:=by simpa using h2
   have hkk:p.peers[(k:Int).toNat]'qn=p.peers[k]:=rfl
   have hty:=Anr p.peers k hkl
   refine oO ?_
   refine⟨qq,?_⟩
   refine⟨by omega,by omega,?_⟩
   rw[hkk]
   generalize p.peers[k]=x at *
   conv=>whnf
   (repeat' (first | (refine⟨fun h=>?_,fun h=>?_⟩<;>(repeat (first | simp only[Bool.not_eq_true']at h | simp only[Bool.not_eq_false']at h))<;>((first|refine rg ?_|refine rd qq ?_);(conv=>whnf))) | (refine Am rfl (.cons .tmp .nil) ?_ rfl) | (refine⟨qq,?_⟩;((conv=>whnf);repeat((refine aT ?_);(refine oO ?_)))) | (refine⟨by (omega),by (omega),?_⟩;((conv=>whnf))) | (refine⟨by (unfold I64;omega),?_⟩;((conv=>whnf))) | (refine cD (hpe x) F97 ?_;((refine rd qq ?_);(conv=>whnf))) | (refine cD (Qs (p.peers.take k) (p.peers[(k:Int).toNat]'qn) (by unfold Aj;simp;omega)) F36 ?_;((refine rd qq ?_);(conv=>whnf))) | refine Aw [] hI2 qn ?_ ⟨⟨rfl,rfl,rfl,rfl,rfl,rfl,rfl,rfl,trivial⟩,trivial,rfl,rfl⟩ | ((refine Bk (Oh Γ.toTy (lo:=0) (hi:=k) (p.peers.take k) rfl rfl rfl rfl (.inl ⟨rfl,rfl⟩) (.inr ⟨_,_,rfl,rfl⟩) qn qn rfl) qq rfl ?_;((refine rd qq ?_);(conv=>whnf))))))
   all_goals first
    | exact Ap hI2 hkl (by clear hF;grind)
    | (refine congrArg Ab ?_
       have h0:Lq n j p=false:=A1 hkl (by clear hF;grind)
       rw[hb,A1 (p:=Lq n) hjl (by rw[hp];exact h0)];rfl)
  ·have h0:Lq n j p=true:=B0 hI2 (by simpa using h2)
   refine oO ?_
   (repeat' (first | (refine⟨by (unfold I64;omega),?_⟩;((conv=>whnf))) | refine Aw [] hI qn ?_ ⟨⟨rfl,rfl,rfl,rfl,trivial⟩,trivial,rfl,rfl⟩))
   exact Ap hI hjl (by rw[hp];exact h0)
 ·refine oO ?_
  refine Am E (.cons .tmp .nil) (congrArg Ab ?_) E
  rw[hb,B0 hI (by simpa using h)]
  rfl
def Ll (n:Net):Bool:=Cg (fun _=>Eg n) n.statics && Cg (fun _=>Ji n) n.floods && Cg (fun _=>Xo n) n.vrfs && Cg (Uu n) n.irbs
theorem rest1 {n:Net} (h:Cg (fun _=>Eg n) n.statics=false):Ll n=false:=by simp[Ll,h]
theorem rest2 {n:Net} (h:Cg (fun _=>Ji n) n.floods=false):Ll n=false:=by simp[Ll,h]
theorem rest3 {n:Net} (h:Cg (fun _=>Xo n) n.vrfs=false):Ll n=false:=by simp[Ll,h]
theorem rest4 {n:Net} (h:Cg (Uu n) n.irbs=false):Ll n=false:=by simp[Ll,h]
theorem Aej (n:Net) (hn:n.Fin):Sy.Spec Tryz.prog 32 [Al n] [] (Ab (Ll n)) []:=cT F32 Tryz.ntmps32 fun F hF=>by
 have hl1:=hn.statics
 have hl2:=hn.floods
 have hl3:=hn.vrfs
 have hl4:=hn.irbs
 unfold Aj at hl1 hl2 hl3 hl4
 conv=>whnf
 refine Ba 1 8 (Al n) E E E ?_
 refine Ay n.statics.length (fun j=>C4 (fun _=>Eg n) n.statics j) (fun j=>[(1,.ref 8 (Al n) 0),(3,Aa j)]) (fun _=>[]) [] (At _ _) ⟨⟨E,E,E,E,Y⟩,Y,E,E⟩ ?_
 intro j hj hI
 refine oO ?_
 refine⟨fun h=>?_,fun h=>?_⟩
 ·have hjl:j<n.statics.length:=by simpa using h
  generalize hp:n.statics[j]=s
  have hp':n.statics[(j:Int).toNat]'qn=s:=hp
  refine oO ?_
  refine⟨E,by omega,by omega,?_⟩
  rw[hp']
  conv=>whnf
  (repeat' (first | (refine⟨fun h=>?_,fun h=>?_⟩<;>(repeat (first | simp only[Ag]at h | simp only[decide_eq_true_eq]at h | simp only[decide_eq_false_iff_not]at h | simp only[bne_iff_ne]at h | simp only[bne_eq_false_iff_eq]at h | simp only[Bool.and_eq_true]at h | simp only[Bool.and_eq_false_iff]at h | simp only[Bool.not_eq_true']at h | simp only[Bool.not_eq_false']at h))<;>((first|refine rg ?_|refine rd qq ?_);(conv=>whnf);repeat((refine aT ?_);(refine oO ?_)))) | (refine Am rfl (.cons .tmp .nil) ?_ rfl) | (refine⟨qq,?_⟩;((conv=>whnf);repeat((refine aT ?_);(refine oO ?_)))) | (refine⟨by (omega),by (omega),?_⟩;((conv=>whnf))) | (refine⟨by (unfold I64;omega),?_⟩;((conv=>whnf))) | (refine c0 (B3 s.domain n.domains.length) F46 ?_;((refine oO ?_))) | (refine c0 (B3 s.port n.ports.length) F46 ?_;((refine oO ?_))) | (refine cD (Zo (n.ports[s.port.toNat]'qn) (n.domains[s.domain.toNat]'qn).vlan (hn.tagged _ (List.getElem_mem _))) F99 ?_;((refine rd qq ?_);(conv=>whnf))) | refine Aw [] hI qn ?_ ⟨⟨rfl,rfl,rfl,rfl,trivial⟩,trivial,rfl,rfl⟩))
  all_goals first
   | exact Ap hI hjl (by rw[hp];clear hI hF hp';grind [Eg,Ag,Ai])
   | (refine congrArg Ab ?_;exact rest1 (A1 hjl (by rw[hp];clear hI hF hp';grind [Eg,Ag,Ai])))
 have a1:Cg (fun _=>Eg n) n.statics=true:=B0 hI (by simpa using h)
 clear hI
 refine oO ?_
 refine Ay n.floods.length (fun j=>C4 (fun _=>Ji n) n.floods j) (fun j=>[(1,.ref 8 (Al n) 0),(6,Aa j)]) (fun _=>[]) [] (At _ _) ⟨⟨E,E,E,E,Y⟩,Y,E,E⟩ ?_
 clear hj h
 intro j hj hI
 refine oO ?_
 refine⟨fun h=>?_,fun h=>?_⟩
 ·have hjl:j<n.floods.length:=by simpa using h
  refine oO ?_
  (repeat' (first | (refine⟨fun h=>?_,fun h=>?_⟩<;>(repeat (first | simp only[Ag]at h | simp only[decide_eq_true_eq]at h | simp only[decide_eq_false_iff_not]at h | simp only[Bool.and_eq_true]at h | simp only[Bool.and_eq_false_iff]at h | simp only[Bool.not_eq_true']at h | simp only[Bool.not_eq_false']at h))<;>((first|refine rg ?_|refine rd qq ?_);(conv=>whnf))) | (refine Am rfl (.cons .tmp .nil) ?_ rfl) | (refine⟨qq,?_⟩;((conv=>whnf);repeat((refine aT ?_);(refine oO ?_)))) | (refine⟨by (omega),by (omega),?_⟩;((conv=>whnf))) | (refine⟨by (unfold I64;omega),?_⟩;((conv=>whnf))) | (refine cD (B3 (n.floods[(j:Int).toNat]'qn).dev n.devices.length) F46 ?_;((refine rd qq ?_);(conv=>whnf))) | refine Aw [] hI qn ?_ ⟨⟨rfl,rfl,rfl,rfl,trivial⟩,trivial,rfl,rfl⟩))
  all_goals (simp only[Int.toNat_natCast]at *)
  all_goals first
   | exact Ap hI hjl (by clear hI hF;grind [Ji,Ag])
   | (refine congrArg Ab ?_;exact rest2 (A1 hjl (by clear hI hF;grind [Ji,Ag])))
 have a2:Cg (fun _=>Ji n) n.floods=true:=B0 hI (by simpa using h)
 clear hI
 refine oO ?_
 refine Ay n.vrfs.length (fun j=>C4 (fun _=>Xo n) n.vrfs j) (fun j=>[(1,.ref 8 (Al n) 0),(7,Aa j)]) (fun _=>[]) [] (At _ _) ⟨⟨E,E,E,E,Y⟩,Y,E,E⟩ ?_
 clear hj h
 intro j hj hI
 refine oO ?_
 refine⟨fun h=>?_,fun h=>?_⟩
 ·have hjl:j<n.vrfs.length:=by simpa using h
  have h1:=hn.imports _ (List.getElem_mem hjl)
  have h2:=hn.exports _ (List.getElem_mem hjl)
  generalize hp:n.vrfs[j]=v at h1 h2
  have hp':n.vrfs[(j:Int).toNat]'qn=v:=hp
  refine oO ?_
  refine⟨E,by omega,by omega,?_⟩
  rw[hp']
  conv=>whnf
  (repeat' (first | (refine⟨fun h=>?_,fun h=>?_⟩<;>(repeat (first | simp only[Ag]at h | simp only[decide_eq_true_eq]at h | simp only[decide_eq_false_iff_not]at h | simp only[Bool.and_eq_true]at h | simp only[Bool.or_eq_true]at h | simp only[Bool.and_eq_false_iff]at h | simp only[Bool.or_eq_false_iff]at h | simp only[Bool.not_eq_true']at h | simp only[Bool.not_eq_false']at h))<;>((refine oO ?_);repeat((refine aT ?_);(refine oO ?_)))) | (refine Am rfl (.cons .tmp .nil) ?_ rfl) | (refine⟨by (unfold I64;omega),?_⟩;((conv=>whnf))) | (refine c0 (B3 v.dev n.devices.length) F46 ?_;((refine oO ?_))) | (refine c0 (Kk v.imports 65535 h1) F98 ?_;((refine oO ?_))) | (refine c0 (Kk v.exports 65535 h2) F98 ?_;((refine oO ?_))) | refine Aw [] hI qn ?_ ⟨⟨rfl,rfl,rfl,rfl,trivial⟩,trivial,rfl,rfl⟩))
  all_goals first
   | exact Ap hI hjl (by rw[hp];clear hI hF hp';grind [Xo,Abl,Ag])
   | (refine congrArg Ab ?_;exact rest3 (A1 hjl (by rw[hp];clear hI hF hp';grind [Xo,Abl,Ag])))
 have a3:Cg (fun _=>Xo n) n.vrfs=true:=B0 hI (by simpa using h)
 clear hI
 refine oO ?_
 refine Ay n.irbs.length (fun j=>C4 (Uu n) n.irbs j) (fun j=>[(1,.ref 8 (Al n) 0),(9,Aa j)]) (fun _=>[]) [] (At _ _) ⟨⟨E,E,E,E,Y⟩,Y,E,E⟩ ?_
 clear hj h
 intro j hj hI
 refine oO ?_
 refine⟨fun h=>?_,fun h=>?_⟩
 ·have hjl:j<n.irbs.length:=by simpa using h
  generalize hp:n.irbs[j]=x
  have hp':n.irbs[(j:Int).toNat]'qn=x:=hp
  refine oO ?_
  refine⟨E,by omega,by omega,?_⟩
  rw[hp']
  conv=>whnf
  (repeat' (first | (refine⟨fun h=>?_,fun h=>?_⟩<;>(repeat (first | simp only[Ag]at h | simp only[decide_eq_true_eq]at h | simp only[decide_eq_false_iff_not]at h | simp only[bne_iff_ne]at h | simp only[bne_eq_false_iff_eq]at h | simp only[Bool.and_eq_true]at h | simp only[Bool.and_eq_false_iff]at h | simp only[Bool.not_eq_true']at h | simp only[Bool.not_eq_false']at h))<;>((first|refine rg ?_|refine rd qq ?_);(conv=>whnf);repeat((refine aT ?_);(refine oO ?_)))) | (refine Am rfl (.cons .tmp .nil) ?_ rfl) | (refine⟨qq,?_⟩;((conv=>whnf);repeat((refine aT ?_);(refine oO ?_)))) | (refine⟨by (omega),by (omega),?_⟩;((conv=>whnf))) | (refine⟨by (unfold I64;omega),?_⟩;((conv=>whnf))) | (refine c0 (B3 x.domain n.domains.length) F46 ?_;((refine oO ?_))) | (refine c0 (B3 x.vrf n.vrfs.length) F46 ?_;((refine oO ?_))) | refine Aw [] hI qn ?_ ⟨⟨rfl,rfl,rfl,rfl,trivial⟩,trivial,rfl,rfl⟩))
  all_goals first
   | exact Ap hI hjl (by rw[hp];clear hI hF hp';grind [Uu,Ag,Ai])
   | (refine congrArg Ab ?_;exact rest4 (A1 hjl (by rw[hp];clear hI hF hp';grind [Uu,Ag,Ai])))
 have a4:Cg (Uu n) n.irbs=true:=B0 hI (by simpa using h)
 refine oO ?_
 exact Am E (.cons .tmp .nil) (congrArg Ab (by simp[Ll,a1,a2,a3,a4])) E
theorem Abq (n:Net) (hn:n.Fin):Sy.Spec Tryz.prog 10 [Al n] [] (Ab (Ac n)) []:=cT F10 Tryz.ntmps10 fun F hF=>by
 conv=>whnf
 (repeat' (first | (refine⟨fun h=>?_,fun h=>?_⟩<;>(repeat (first | simp only[decide_eq_true_eq]at h | simp only[decide_eq_false_iff_not]at h | simp only[Bool.and_eq_true]at h | simp only[Bool.and_eq_false_iff]at h))<;>((refine oO ?_);repeat((first|refine aF ?_|refine aT ?_);(refine oO ?_)))) | (refine Am rfl (.cons .tmp .nil) ?_ rfl) | (refine c0 (Xr n hn) F29 ?_;((refine oO ?_))) | (refine c0 (Abr n hn) F30 ?_;((refine oO ?_))) | (refine c0 (Abs n hn) F31 ?_;((refine oO ?_))) | (refine c0 (Aej n hn) F32 ?_;((refine oO ?_)))))
 all_goals (refine congrArg Ab ?_;clear hF)
 all_goals (first | grind [Ac,Afn,Ll] | trace_state)
theorem Yr (a:Int):Sy.Spec Tryz.prog 334 [Aa a] [] (Ab false) []:=cT F334 Tryz.ntmps334 fun F hF=>by
 conv=>whnf
 exact Am E (.cons .tmp .nil) (congrArg Ab qy) E
theorem Yq (a:Int):Sy.Spec Tryz.prog 335 [A5 a] [] (Ab false) []:=cT F335 Tryz.ntmps335 fun F hF=>by
 conv=>whnf
 exact Am E (.cons .tmp .nil) (congrArg Ab qy) E
def cmpI (a b:Int):Int:=if a<b then -1 else if a>b then 1 else 0
theorem Ew (a b:Int):Sy.Spec Tryz.prog 284 [Aa a,Aa b] [] (Aa (cmpI a b)) []:=cT F284 Tryz.ntmps284 fun F hF=>by
 conv=>whnf
 (repeat' (first | (refine⟨fun h=>?_,fun h=>?_⟩<;>(repeat (first | simp only[decide_eq_true_eq]at h | simp only[decide_eq_false_iff_not]at h))<;>((refine oO ?_))) | (refine Am rfl (.cons .tmp .nil) ?_ rfl) | (refine c0 (Yr a) F334 ?_;((refine oO ?_))) | (refine c0 (Yr b) F334 ?_;((refine oO ?_);repeat((refine aF ?_);(refine oO ?_))))))
 all_goals (refine congrArg Aa ?_;clear hF;grind [cmpI])
theorem Ade (a b:Int):Sy.Spec Tryz.prog 285 [A5 a,A5 b] [] (Aa (cmpI a b)) []:=cT F285 Tryz.ntmps285 fun F hF=>by
 conv=>whnf
 (repeat' (first | (refine⟨fun h=>?_,fun h=>?_⟩<;>(repeat (first | simp only[decide_eq_true_eq]at h | simp only[decide_eq_false_iff_not]at h))<;>((refine oO ?_))) | (refine Am rfl (.cons .tmp .nil) ?_ rfl) | (refine c0 (Yq a) F335 ?_;((refine oO ?_))) | (refine c0 (Yq b) F335 ?_;((refine oO ?_);repeat((refine aF ?_);(refine oO ?_))))))
 all_goals (refine congrArg Aa ?_;clear hF;grind [cmpI])
def orI:List Int→Int
 | []=>0
 | x::l=>if x=0 then orI l else x
theorem Wa:∀ {l:List Int} {j:Nat},(∀ i (h:i<l.length),i<j→l[i]=0)→orI l=orI (l.drop j)
 | l,0,_=>rfl
 | [],j+1,_=>rfl
 | x::l,j+1,h=>by
  have h0:=h 0 qy qn
  simp only[List.getElem_cons_zero]at h0
  rw[orI,if_pos h0,List.drop_succ_cons]
  exact Wa fun i hi hij=>h (i+1) (by simp;omega) qn
theorem orS (l:List Int) (hl:Aj l):Sy.Spec Tryz.prog 283 [.sl 1 Aa l] [] (Aa (orI l)) []:=cT F283 Tryz.ntmps283 fun F hF=>by
 unfold Aj at hl
 conv=>whnf
 refine Ay l.length (fun j=>∀ i (h:i<l.length),i<j→l[i]=0) (fun j=>[(3,Aa 0),(6,.sl 1 Aa l),(7,Aa l.length),(8,Aa j)]) (fun _=>[]) [] (fun i h hj=>absurd hj qn) ⟨⟨E,E,E,E,E,E,E,E,Y⟩,Y,E,E⟩ ?_
 intro j hj hI
 refine oO ?_
 (repeat' (first | (refine⟨fun h=>?_,fun h=>?_⟩<;>(repeat (first | simp only[decide_eq_true_eq]at h | simp only[decide_eq_false_iff_not]at h | simp only[bne_iff_ne]at h | simp only[bne_eq_false_iff_eq]at h))<;>((refine oO ?_))) | (refine Am rfl (.cons .tmp .nil) ?_ rfl) | (refine⟨qq,?_⟩;((conv=>whnf))) | (refine⟨by (omega),by (omega),?_⟩;((conv=>whnf))) | (refine⟨by (unfold I64;omega),?_⟩;((conv=>whnf))) | refine Aw [] hI qn ?_ ⟨⟨rfl,rfl,rfl,rfl,rfl,rfl,rfl,rfl,trivial⟩,trivial,rfl,rfl⟩))
 all_goals try (refine congrArg Aa ?_)
 ·have hj2:j<l.length:=by omega
  rw[Wa hI,List.drop_eq_getElem_cons hj2,orI,if_neg (by simpa using h)]
  rfl
 ·intro i hi hij
  rcases Nat.lt_or_ge i j with h1 | h1
  ·exact hI i hi h1
  ·have:i=j:=by omega
   subst this
   simpa using h
 ·rw[Wa hI,List.drop_of_length_le qn]
  rfl
theorem Ko (a b:Int) (l:List Int):decide (orI (cmpI a b::l)<0)=if a≠b then decide (a<b) else decide (orI l<0):=by
 rw[orI,cmpI]
 by_cases h1:a<b
 ·simp[h1,show a≠b by omega]
 ·by_cases h2:a>b
  ·simp[h1,h2,show a≠b by omega]
  ·simp[show a=b by omega]
structure Vec where
 (root cost bridge port own:Int)
def Le (v:Vec):SV:=.agg [Aa v.root,Aa v.cost,Aa v.bridge,Aa v.port,Aa v.own]
def Yn (a b:Vec):Bool :=
 if a.root≠b.root then decide (a.root<b.root) else if a.cost≠b.cost then decide (a.cost<b.cost) else if a.bridge≠b.bridge then decide (a.bridge<b.bridge) else
  if a.port≠b.port then decide (a.port<b.port) else decide (a.own<b.own)
theorem lessS (a b:Vec):Sy.Spec Tryz.prog 338 [Le a,Le b] [] (Ab (Yn a b)) []:=cT F338 Tryz.ntmps338 fun F hF=>by
 conv=>whnf
 (repeat' (first | (refine⟨fun h=>?_,fun h=>?_⟩<;>(repeat (first | simp only[beq_iff_eq]at h | simp only[beq_eq_false_iff_ne]at h | simp only[Bool.and_eq_true]at h | simp only[Bool.and_eq_false_iff]at h))<;>((refine oO ?_))) | (refine Am rfl (.cons .tmp .nil) ?_ rfl) | (refine⟨qq,?_⟩;((conv=>whnf))) | (refine cD (Ew a.root b.root) F284 ?_;((refine rd qq ?_);(conv=>whnf))) | (refine cD (Ew a.cost b.cost) F284 ?_;((refine rd qq ?_);(conv=>whnf))) | (refine cD (Ew a.bridge b.bridge) F284 ?_;((refine rd qq ?_);(conv=>whnf))) | (refine cD (Ew a.port b.port) F284 ?_;((refine rd qq ?_);(conv=>whnf))) | (refine cD (Ew a.own b.own) F284 ?_;((refine rd qq ?_);(conv=>whnf))) | (refine Al9 [33] (orS [cmpI a.root b.root,cmpI a.cost b.cost,cmpI a.bridge b.bridge,cmpI a.port b.port,cmpI a.own b.own] (by simp[Aj])) F283 rfl (.cons (.lit rfl rfl rfl) .nil) rfl qq rfl ?_;((refine rd qq ?_);(conv=>whnf)))))
 all_goals (refine congrArg Ab ?_;clear hF)
 ·grind [Yn]
 ·rw[Ko,Ko,Ko,Ko,Ko,Yn]
  by_cases h1:a.own=b.own
  ·simp[h1,orI]
  ·simp[h1]
def Lx (lt:Int→Int→Bool) (x:Int):List Int→List Int
 | []=>[x]
 | y::r=>if lt x y then y::Lx lt x r else x::y::r
def Dz (lt:Int→Int→Bool) (l:List Int):List Int:=l.foldl (fun r x=>Lx lt x r) []
def Of (lt:Int→Int→Bool) (l:List Int):List Int:=(Dz lt l).reverse
theorem To (lt:Int→Int→Bool) (x:Int):∀ r,(Lx lt x r).Perm (x::r)
 | []=>.refl _
 | y::r=>by
  rw[Lx]
  split
  ·exact((To lt x r).cons y).trans (.swap x y r)
  ·exact .refl _
theorem K8 (lt:Int→Int→Bool):∀ (l r:List Int),(l.foldl (fun r x=>Lx lt x r) r).Perm (l++r)
 | [],r=>.refl _
 | x::l,r=>by
  rw[List.foldl_cons]
  refine(K8 lt l _).trans ?_
  refine((To lt x r).append_left l).trans ?_
  simp
theorem I1 (lt:Int→Int→Bool) (l:List Int):(Dz lt l).Perm l:=by
 have:=K8 lt l []
 simpa [Dz] using this
theorem O2 (lt:Int→Int→Bool) (l:List Int):(Of lt l).Perm l:=(List.reverse_perm _).trans (I1 lt l)
theorem Acn (lt:Int→Int→Bool) (l:List Int) (i:Nat) (h:i<l.length):Dz lt (l.take (i+1))=Lx lt l[i] (Dz lt (l.take i)):=by
 rw[List.take_succ_eq_append_getElem h,Dz,List.foldl_append]
 rfl
mutual
theorem Q9 {K:List Nat}:∀ x:SV,x.inn []=true→x.inn K=true
 | .ptr _ _,h=>by simp[SV.inn,Jw]at h
 | .rpt _ _ _ _,h=>by simp[SV.inn,Jw]at h
 | .osl _,h=>by simp[SV.inn,Jw]at h
 | .agg l,h=>by simp only[SV.inn]at h ⊢;exact Ly l h
 | .tup l,h=>by simp only[SV.inn]at h ⊢;exact Ly l h
 | .ifc _ x,h=>by simp only[SV.inn]at h ⊢;exact Q9 x h
 | .clo _ f l,h=>by simp only[SV.inn,Bool.and_eq_true]at h ⊢;exact⟨Ly f h.1,Ly l h.2⟩
 | .top,_=>rfl
 | .val _,_=>rfl
 | .sl _ _ _,_=>rfl
 | .ref _ _ _,_=>rfl
theorem Ly {K:List Nat}:∀ l:List SV,B1 [] l=true→B1 K l=true
 | [],_=>rfl
 | x::l,h=>by simp only[B1,Bool.and_eq_true]at h ⊢;exact⟨Q9 x h.1,Ly l h.2⟩
end
theorem Wj (l:List Int) (c:Int→Int→Int) (Q:Int→Prop) (f:FuncId) (first cap:List SV) (hc:(SV.clo (.func f) first cap).inn []=true) (hf:∀ a b,Q a→Q b→E6 Tryz.prog f (first++[Aa a,Aa b]++cap) (Aa (c a b))) (hQ:∀ a∈l,Q a) (hl:Aj l) :
  Sy.Spec Tryz.prog 373 [.osl 0,Aa 0,Aa l.length,.clo (.func f) first cap] [(0,.row 1 Aa l)] (.tup []) [(0,.row 1 Aa (Of (fun a b=>decide (c a b<0)) l))]:=cT F373 Tryz.ntmps373 fun F hF=>by
 unfold Aj at hl
 have hin:∀ x y:Int,B1 [] (first++[Aa x,Aa y]++cap)=true:=fun x y=>Cj hc rfl
 have hc':(SV.clo (.func f) first cap).inn [0]=true:=Q9 _ hc
 generalize hlt:(fun a b=>decide (c a b<0))=lt
 conv=>whnf
 (repeat' (refine⟨by (unfold I64;omega),?_⟩;((conv=>whnf))))
 refine Ay l.length (fun _=>True) (fun j=>[(0,.osl 0),(1,Aa 0),(2,Aa l.length),(3,.clo (.func f) first cap),(8,Aa ((j:Int)+1))]) (fun j=>[(0,.row 1 Aa ((Dz lt (l.take (j+1))).reverse++l.drop (j+1)))]) [] Y ⟨⟨E,E,E,E,E,E,A7 _,hc',E,E,Y⟩,⟨.inl (congrArg (Ob.row 1 Aa) ?_),E,Y⟩,E,E⟩ ?_
 ·cases l with
  | nil=>rfl
  | cons a l=>simp[Dz,Lx]
 intro j hj _
 refine oO ?_
 refine⟨fun h=>?_,fun h=>?_⟩
 ·have hjl:j+1<l.length:=qA h
  have hdrop:l.drop (j+1)=l[j+1]::l.drop (j+1+1):=List.drop_eq_getElem_cons hjl
  have htake:=Acn lt l (j+1) hjl
  have hr:(Dz lt (l.take (j+1))).length=j+1:=by rw[(I1 lt _).length_eq];simp;omega
  have hQx:Q l[j+1]:=hQ _ (List.getElem_mem hjl)
  have hQr:∀ z∈Dz lt (l.take (j+1)),Q z:=fun z hz=>hQ z (List.mem_of_mem_take ((I1 lt _).mem_iff.1 hz))
  rw[hdrop]
  generalize l[j+1]=x at htake hQx
  generalize Dz lt (l.take (j+1))=r at htake hr hQr
  generalize hR:l.drop (j+1+1)=R at *
  refine oO ?_
  refine Me (α:={p:List Int × List Int // Lx lt x r=p.2.reverse++Lx lt x p.1∧p.1.length+p.2.length=j+1∧∀ z∈p.1,Q z}) (fun p=>[(0,.osl 0),(1,Aa 0),(2,Aa l.length),(3,.clo (.func f) first cap),(8,Aa ((j:Int)+1)),(9,Aa p.1.1.length)]) (fun p=>[(0,.row 1 Aa (p.1.1.reverse++x::(p.1.2++R)))]) (fun p=>p.1.1.length) ⟨(r,[]),by simp,by simpa using hr,hQr⟩ []
   ⟨⟨rfl,rfl,rfl,rfl,rfl,rfl,A7 _,hc',rfl,rfl,congrArg Aa (by rw[hr];omega),rfl,trivial⟩,⟨.inl rfl,rfl,trivial⟩,rfl,rfl⟩ ?_
  rintro ⟨⟨A,B⟩,hp1,hp2,hp3⟩
  simp only at hp1 hp2 hp3
  dsimp only
  cases A with
  | nil =>
   simp only[Lx]at hp1
   (refine rg ?_;(conv=>whnf);refine aF ?_;refine oD ?_)
   refine⟨qq,?_⟩
   ((conv=>whnf);refine aF ?_;refine rg ?_;conv=>whnf)
   refine iW ?_
   refine Aw [] Y qn Y ⟨⟨E,E,E,E,E,E,A7 _,hc',congrArg Aa qn,E,Y⟩,⟨.inl (congrArg (Ob.row 1 Aa) ?_),E,Y⟩,E,E⟩
   show (Dz lt (l.take (j+1+1))).reverse++l.drop (j+1+1)=[].reverse++x::(B++R)
   rw[htake,hp1,hR]
   simp
  | cons y A =>
   have hQy:=hp3 y qy
   refine oO ?_
   refine⟨fun _=>?_,fun h=>absurd (of_decide_eq_false h) qy⟩
   refine oD ?_
   have e1:((y::A).reverse++x::(B++R))[(((y::A).length:Nat):Int).toNat]'qy=x:=by simp
   have e2:((y::A).reverse++x::(B++R))[((((y::A).length:Nat):Int)-1).toNat]'qy=y:=by simp
   refine⟨by omega,by simp,?_⟩
   conv=>whnf
   refine⟨E,by simp,?_⟩
   rw[e1]
   conv=>whnf
   refine⟨by unfold I64;simp at hp2;simp;omega,?_⟩
   conv=>whnf
   refine⟨by simp,by simp,?_⟩
   conv=>whnf
   refine⟨E,by simp,?_⟩
   rw[e2]
   conv=>whnf
   refine Afx (hf x y hQx hQy) E E E (by simp only[hin];rfl) qq E ?_
   refine oD ?_
   refine kW ?_
   refine⟨fun h2=>?_,fun h2=>?_⟩
   ·refine oO ?_
    refine⟨by unfold I64;simp at hp2;simp;omega,?_⟩
    conv=>whnf
    refine⟨by unfold I64;simp at hp2;simp;omega,?_⟩
    conv=>whnf
    refine⟨by simp,by simp,?_⟩
    conv=>whnf
    refine⟨E,by simp,?_⟩
    rw[e2]
    conv=>whnf
    refine⟨by omega,by simp,?_⟩
    conv=>whnf
    refine⟨E,by simp,?_⟩
    rw[e1]
    conv=>whnf
    refine⟨by omega,by simp,?_⟩
    conv=>whnf
    refine⟨E,by simp,y,E,E,?_⟩
    conv=>whnf
    refine⟨by simp,by simp,?_⟩
    conv=>whnf
    refine⟨E,by simp,x,E,E,?_⟩
    conv=>whnf
    refine kW ?_
    refine⟨by unfold I64;simp at hp2;simp;omega,?_⟩
    conv=>whnf
    have hxy:lt x y=true:=by rw[← hlt];exact h2
    refine On (α:={p:List Int × List Int // Lx lt x r=p.2.reverse++Lx lt x p.1∧p.1.length+p.2.length=j+1∧∀ z∈p.1,Q z}) (L:=fun p=>[(0,.osl 0),(1,Aa 0),(2,Aa l.length),(3,.clo (.func f) first cap),(8,Aa ((j:Int)+1)),(9,Aa p.1.1.length)]) (O:=fun p=>[(0,.row 1 Aa (p.1.1.reverse++x::(p.1.2++R)))]) (μ:=fun p=>p.1.1.length) (x:=⟨(y::A,B),hp1,hp2,hp3⟩)
     ⟨(A,y::B),by simp only[hp1,Lx,hxy,if_true];simp,by simp at hp2 ⊢;omega,fun z hz=>hp3 z (by simp[hz])⟩ [] qy
     ⟨⟨rfl,rfl,rfl,rfl,rfl,rfl,A7 _,hc',rfl,rfl,congrArg Aa qy,rfl,trivial⟩,⟨.inl (congrArg (Ob.row 1 Aa) ?_),rfl,trivial⟩,rfl,rfl⟩
    simp
   ·refine oO ?_
    have hxy:lt x y=false:=by rw[← hlt];exact h2
    refine iW ?_
    refine Aw [] Y qn Y ⟨⟨E,E,E,E,E,E,A7 _,hc',congrArg Aa qn,E,Y⟩,⟨.inl (congrArg (Ob.row 1 Aa) ?_),E,Y⟩,E,E⟩
    show (Dz lt (l.take (j+1+1))).reverse++l.drop (j+1+1)=(y::A).reverse++x::(B++R)
    rw[htake,hp1,hR,Lx,hxy]
    simp
 ·have h:=of_decide_eq_false h
  have e:(Dz lt (l.take (j+1))).reverse++l.drop (j+1)=Of lt l:=by
   rw[List.take_of_length_le qn,List.drop_of_length_le qn,List.append_nil]
   rfl
  rw[e]
  refine oO ?_
  exact A6 E .nil [] [(0,.row 1 Aa (Of lt l))] (fun _ h=>h) E E ⟨Y,⟨.inl E,E,Y⟩,E,E⟩
theorem Am6 (l:List Int) (c:Int→Int→Int) (Q:Int→Prop) (f:FuncId) (first cap:List SV) (hc:(SV.clo (.func f) first cap).inn []=true) (hf:∀ a b,Q a→Q b→E6 Tryz.prog f (first++[Aa a,Aa b]++cap) (Aa (c a b))) (hQ:∀ a∈l,Q a) (hl:l.length<20) :
  Sy.Spec Tryz.prog 333 [.osl 0,Aa l.length,.clo (.func f) first cap] [(0,.row 1 Aa l)] (.tup []) [(0,.row 1 Aa (Of (fun a b=>decide (c a b<0)) l))]:=cT F333 Tryz.ntmps333 fun F hF=>by
 have hc':(SV.clo (.func f) first cap).inn [0]=true:=Q9 _ hc
 have hins:=Wj l c Q f first cap hc hf hQ (by unfold Aj;omega)
 generalize Of (fun a b=>decide (c a b<0)) l=l' at hins
 conv=>whnf
 refine Az 0 (fun j=>[(0,.osl 0),(1,Aa l.length),(2,.clo (.func f) first cap),(6,Aa 20),(7,Aa 0),(8,Aa 20)]) (fun _=>[(0,.row 1 Aa l)]) [] ⟨⟨E,E,E,E,A7 _,hc',E,E,E,E,E,E,Y⟩,⟨.inl E,E,Y⟩,E,E⟩ ?_
 intro j hj
 refine oO ?_
 refine⟨fun h=>absurd (of_decide_eq_true h) qn,fun _=>?_⟩
 refine oO ?_
 refine Ad (Af [] E F373 hins (Ej _) ⟨E,Y⟩ (by
  have h0:B1 [0] [.osl 0,Aa 0,Aa l.length,.clo (.func f) first cap]=true:=by simp only[B1,hc'];rfl
  simp only[Ht,Obs.keys,List.map_cons,List.map_nil,h0];rfl) ⟨.inl rfl,trivial⟩) rfl rfl ?_
 refine oO ?_
 refine Az 0 (fun j=>[(1,Aa l.length),(6,Aa 20)]) (fun _=>[(0,.row 1 Aa l')]) [] ⟨⟨E,E,E,E,Y⟩,⟨.inl E,E,Y⟩,E,E⟩ ?_
 clear hj
 intro j hj
 refine oO ?_
 refine⟨fun h=>absurd (of_decide_eq_true h) qn,fun _=>?_⟩
 refine oO ?_
 exact A6 E .nil [] [(0,.row 1 Aa l')] (fun _ h=>h) E E ⟨Y,⟨.inl E,E,Y⟩,E,E⟩
theorem Abb (l:List Int) (c:Int→Int→Int) (Q:Int→Prop) (f:FuncId) (first cap:List SV) (hc:(SV.clo (.func f) first cap).inn []=true) (hf:∀ a b,Q a→Q b→E6 Tryz.prog f (first++[Aa a,Aa b]++cap) (Aa (c a b))) (hQ:∀ a∈l,Q a) (hl:l.length<20) :
  Sy.Spec Tryz.prog 281 [.osl 0,.clo (.func f) first cap] [(0,.row 1 Aa l)] (.tup []) [(0,.row 1 Aa (Of (fun a b=>decide (c a b<0)) l))]:=cT F281 Tryz.ntmps281 fun F hF=>by
 have hc':(SV.clo (.func f) first cap).inn [0]=true:=Q9 _ hc
 have hst:=Am6 l c Q f first cap hc hf hQ hl
 generalize Of (fun a b=>decide (c a b<0)) l=l' at hst
 conv=>whnf
 refine Ad (Af [] E F333 hst (Ej _) ⟨E,Y⟩ (by
  have h0:B1 [0] [.osl 0,Aa l.length,.clo (.func f) first cap]=true:=by simp only[B1,hc'];rfl
  simp only[Ht,Obs.keys,List.map_cons,List.map_nil,h0];rfl) ⟨.inl rfl,trivial⟩) rfl rfl ?_
 refine oO ?_
 exact A6 E .nil [] [(0,.row 1 Aa l')] (fun _ h=>h) E E ⟨Y,⟨.inl E,E,Y⟩,E,E⟩
end Go.Sy.YteinjapglfkamaaGreat
