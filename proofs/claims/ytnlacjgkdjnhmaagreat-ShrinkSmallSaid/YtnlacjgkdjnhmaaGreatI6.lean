/-
  K4 K5 D0 K6 K7 K26 Sy24 T1 T2 T3 T4 V6 V7 V8 T5 T6 T7 T8 T9 T10 T11 T12 T13: parts of a proof, joined by program.
-/
import Derived.Test.YtnlacjgkdjnhmaaGreatI5
import Derived.Test.YtnlacjgkdjnhmaaGreatI4
import Derived.Test.YtnlacjgkdjnhmaaGreatI3
namespace Go.Sy.YtnlacjgkdjnhmaaGreat
open Go.Proofs
attribute [local irreducible] Go.Sy.G Go.Sy.DR
set_option maxRecDepth 100000
set_option maxHeartbeats 4000000
theorem takeF_bad {b:List UInt8} (h:(takeF b).2≠0):(takeF b).1=noF:=by
 unfold takeF at h ⊢
 split
 ·rfl
 rw[if_neg (by assumption)]at h
 split
 ·rfl
 rw[if_neg (by assumption)]at h
 exact absurd E h
theorem Aah {b:List UInt8} (h:(takeF b).2=0):FrameOK (takeF b).1:=by
 unfold takeF at h ⊢
 split
 ·rw[if_pos (by assumption)]at h;cases h
 rw[if_neg (by assumption)]at h
 split
 ·rw[if_pos (by assumption)]at h;cases h
 rename_i h1 h2
 have l1:((b.take 6).length)=6:=by rw[List.length_take];omega
 have l2:(((b.drop 6).take 6).length)=6:=by rw[List.length_take,List.length_drop];omega
 have l3:(((b.drop 12).take 2).length)=2:=by rw[List.length_take,List.length_drop];omega
 have a1:=Jt _ _ l1
 have a2:=Jt _ _ l2
 have a3:=Jt _ _ l3
 refine⟨a1,a2,?_,?_⟩
 ·dsimp only;exact Nat.le_of_lt_succ a3
 ·dsimp only;rw[List.length_drop];omega
theorem Aii {f:FrameM} (hf:FrameOK f) (h:(stripT f).2.2.2=0):FrameOK (stripT f).1:=by
 unfold stripT at h ⊢
 split
 ·rw[if_pos (by assumption)]at h;cases h
 rw[if_neg (by assumption)]at h
 split
 ·rw[if_pos (by assumption)]at h;cases h
 rw[if_neg (by assumption)]at h
 split
 ·rw[if_pos (by assumption)]at h;cases h
 rename_i h1 h2 h3
 have l3:(((f.body.drop 2).take 2).length)=2:=by rw[List.length_take,List.length_drop];omega
 have a3:=Jt _ _ l3
 have hb:=hf.body
 refine⟨hf.dst,hf.src,?_,?_⟩
 ·dsimp only;exact Nat.le_of_lt_succ a3
 ·dsimp only;rw[List.length_drop];omega
theorem strip_bad {f:FrameM} (h:(stripT f).2.2.2≠0):(stripT f).1=noF∧(stripT f).2.1=0:=by
 unfold stripT at h ⊢
 split
 ·exact⟨E,E⟩
 rw[if_neg (by assumption)]at h
 split
 ·exact⟨E,E⟩
 rw[if_neg (by assumption)]at h
 split
 ·exact⟨E,E⟩
 rw[if_neg (by assumption)]at h
 exact absurd E h
theorem Ab6 (n:Net) (hn:n.Fin) (port:Int) (b:List UInt8) (hb:b.length<100000) :
  Sy.Spec Tryz.prog 66 [Aq n,Aa port,.sl 1 Ak b] [] (.tup [Aa (enterT n port b).1,By (enterT n port b).2.1,Aa (enterT n port b).2.2]) []:=Ab Γ hm 100 F66 Tryz.ntmps66 rfl fun F hF=>by
 have hres:=enterT.eq_1 n port b
 generalize enterT n port b=res at *
 have hr:=Bi n hn
 ((conv=>whnf);repeat((first|refine aF ?_|refine aT ?_);(first|refine rG Γ hm ?_|refine rD Γ hm qq ?_);conv=>whnf))
 by_cases hneg:port<0
 ·rw[if_pos (.inl (by rw[Ag,decide_eq_false qn];rfl))]at hres
  subst hres
  (repeat (first | (refine⟨fun h=>False.elim (by first | (exact absurd h qx) | (simp at h;done) | (simp at h;omega)),fun _=>?_⟩;((first|refine rG Γ hm ?_|refine rD Γ hm qq ?_);(conv=>whnf);repeat((first|refine aF ?_|refine aT ?_);(first|refine rG Γ hm ?_|refine rD Γ hm qq ?_);conv=>whnf))) | (refine⟨fun _=>?_,fun h=>False.elim (by first | (exact absurd h qx) | (simp at h;done) | (simp at h;omega))⟩;((first|refine rG Γ hm ?_|refine rD Γ hm qq ?_);(conv=>whnf);repeat((first|refine aF ?_|refine aT ?_);(first|refine rG Γ hm ?_|refine rD Γ hm qq ?_);conv=>whnf)))))
  refine A0 7 zF E (.cons (.refl _) (.cons (.refl _) (.cons (.refl _) (.cons .nil .nil)))) ?_
  exact Ac E (.cons .tmp (.cons (.cell E E E E) (.cons .tmp .nil))) E E
 refine⟨fun h=>absurd (of_decide_eq_true h) hneg,fun _=>?_⟩
 refine B0 3 8 (Aq n) E E E ?_
 by_cases hge:(n.ports.length:Int)≤port
 ·rw[if_pos (.inl (by rw[Ag,decide_eq_false (by omega:¬ port<_),Bool.and_false]))]at hres
  subst hres
  ((first|refine rG Γ hm ?_|refine rD Γ hm qq ?_);(conv=>whnf);repeat((first|refine aF ?_|refine aT ?_);(first|refine rG Γ hm ?_|refine rD Γ hm qq ?_);conv=>whnf))
  (repeat (first | (refine⟨fun h=>False.elim (by first | (exact absurd h qx) | (simp at h;done) | (simp at h;omega)),fun _=>?_⟩;((first|refine rG Γ hm ?_|refine rD Γ hm qq ?_);(conv=>whnf);repeat((first|refine aF ?_|refine aT ?_);(first|refine rG Γ hm ?_|refine rD Γ hm qq ?_);conv=>whnf))) | (refine⟨fun _=>?_,fun h=>False.elim (by first | (exact absurd h qx) | (simp at h;done) | (simp at h;omega))⟩;((first|refine rG Γ hm ?_|refine rD Γ hm qq ?_);(conv=>whnf);repeat((first|refine aF ?_|refine aT ?_);(first|refine rG Γ hm ?_|refine rD Γ hm qq ?_);conv=>whnf)))))
  refine A0 7 zF E (.cons (.refl _) (.cons (.refl _) (.cons (.refl _) (.cons .nil .nil)))) ?_
  exact Ac E (.cons .tmp (.cons (.cell E E E E) (.cons .tmp .nil))) E E
 have hpl:Ag port n.ports.length=true:=by rw[Ag,decide_eq_true qn,decide_eq_true qn];rfl
 ((first|refine rG Γ hm ?_|refine rD Γ hm qq ?_);(conv=>whnf);repeat((first|refine aF ?_|refine aT ?_);(first|refine rG Γ hm ?_|refine rD Γ hm qq ?_);conv=>whnf))
 (refine⟨fun h=>False.elim (by first | (exact absurd h qx) | (simp at h;done) | (simp at h;omega)),fun _=>?_⟩;((first|refine rG Γ hm ?_|refine rD Γ hm qq ?_);(conv=>whnf);repeat((first|refine aF ?_|refine aT ?_);(first|refine rG Γ hm ?_|refine rD Γ hm qq ?_);conv=>whnf)))
 refine Ah hr F20 E E E E E ?_
 cases hbn:Af n
 ·rw[if_pos (.inr hbn)]at hres
  subst hres
  ((first|refine rG Γ hm ?_|refine rD Γ hm qq ?_);(conv=>whnf);repeat((first|refine aF ?_|refine aT ?_);(first|refine rG Γ hm ?_|refine rD Γ hm qq ?_);conv=>whnf))
  refine A0 7 zF E (.cons (.refl _) (.cons (.refl _) (.cons (.refl _) (.cons .nil .nil)))) ?_
  exact Ac E (.cons .tmp (.cons (.cell E E E E) (.cons .tmp .nil))) E E
 rw[if_neg (by simp[hbn,hpl])]at hres
 have hp0:0≤port:=by omega
 have hk:port.toNat<n.ports.length:=by omega
 have e1:nth n.ports port=n.ports[port.toNat]:=Ao hk
 have hsh:=hn.tagged _ (List.getElem_mem hk)
 obtain ⟨p,hp⟩:∃ p,n.ports[port.toNat]'hk=p:=⟨_,rfl⟩
 rw[hp]at e1 hsh
 have qt:=Of b hb
 have hto:=@Aah b
 have htb:=@takeF_bad b
 generalize takeF b=tf at *
 obtain ⟨f,e⟩:=tf
 dsimp only at hres qt hto htb
 have qi:=Lp f
 ((first|refine rG Γ hm ?_|refine rD Γ hm qq ?_);(conv=>whnf);repeat((first|refine aF ?_|refine aT ?_);(first|refine rG Γ hm ?_|refine rD Γ hm qq ?_);conv=>whnf))
 refine Ah qt F93 E E E E E ?_
 ((first|refine rG Γ hm ?_|refine rD Γ hm qq ?_);(conv=>whnf);repeat((first|refine aF ?_|refine aT ?_);(first|refine rG Γ hm ?_|refine rD Γ hm qq ?_);conv=>whnf))
 refine Ah qi F94 E E E E E ?_
 by_cases he:e=0
 rotate_left
 ·rw[if_pos he]at hres
  subst hres
  obtain rfl:=htb he
  ((first|refine rG Γ hm ?_|refine rD Γ hm qq ?_);(conv=>whnf);repeat((first|refine aF ?_|refine aT ?_);(first|refine rG Γ hm ?_|refine rD Γ hm qq ?_);conv=>whnf))
  (refine⟨fun h=>False.elim (by first | (exact absurd h qx) | (simp at h;done) | (simp at h;omega)),fun _=>?_⟩;((first|refine rG Γ hm ?_|refine rD Γ hm qq ?_);(conv=>whnf);repeat((first|refine aF ?_|refine aT ?_);(first|refine rG Γ hm ?_|refine rD Γ hm qq ?_);conv=>whnf)))
  (refine⟨fun h=>False.elim (by first | (exact absurd h qx) | (simp at h;done) | (simp at h;omega)),fun _=>?_⟩;((first|refine rG Γ hm ?_|refine rD Γ hm qq ?_);(conv=>whnf);repeat((first|refine aF ?_|refine aT ?_);(first|refine rG Γ hm ?_|refine rD Γ hm qq ?_);conv=>whnf)))
  refine⟨E,hp0,hk,?_⟩
  rw[hp]
  ((conv=>whnf);repeat((first|refine aF ?_|refine aT ?_);(first|refine rG Γ hm ?_|refine rD Γ hm qq ?_);conv=>whnf))
  refine Ah (Kc p false 0 hsh) F97 E E E E E ?_
  ((first|refine rG Γ hm ?_|refine rD Γ hm qq ?_);(conv=>whnf);repeat((first|refine aF ?_|refine aT ?_);(first|refine rG Γ hm ?_|refine rD Γ hm qq ?_);conv=>whnf))
  (repeat (first | (refine⟨fun h=>False.elim (by first | (exact absurd h qx) | (simp at h;done) | (simp at h;omega)),fun _=>?_⟩;((first|refine rG Γ hm ?_|refine rD Γ hm qq ?_);(conv=>whnf);repeat((first|refine aF ?_|refine aT ?_);(first|refine rG Γ hm ?_|refine rD Γ hm qq ?_);conv=>whnf))) | (refine⟨fun _=>?_,fun h=>False.elim (by first | (exact absurd h qx) | (simp at h;done) | (simp at h;omega))⟩;((first|refine rG Γ hm ?_|refine rD Γ hm qq ?_);(conv=>whnf);repeat((first|refine aF ?_|refine aT ?_);(first|refine rG Γ hm ?_|refine rD Γ hm qq ?_);conv=>whnf)))))
  refine A0 7 zF E (.cons (.refl _) (.cons (.refl _) (.cons (.refl _) (.cons .nil .nil)))) ?_
  exact Ac E (.cons .tmp (.cons (.cell E E E E) (.cons .tmp .nil))) E E
 subst he
 rw[if_neg qx]at hres
 have hfo:=hto rfl
 by_cases ht:f.typ=33024
 ·rw[if_pos ht]at hres
  rw[decide_eq_true ht]
  have qs:=Af6 f (by have:=hfo.body;omega)
  have hso:=@Aii f hfo
  have hsb:=@strip_bad f
  generalize stripT f=st at *
  obtain ⟨g,vid,prio,e2⟩:=st
  dsimp only at hres qs hso hsb
  ((first|refine rG Γ hm ?_|refine rD Γ hm qq ?_);(conv=>whnf);repeat((first|refine aF ?_|refine aT ?_);(first|refine rG Γ hm ?_|refine rD Γ hm qq ?_);conv=>whnf))
  refine Ah qs F95 E E E E E ?_
  by_cases he2:e2=0
  rotate_left
  ·rw[if_pos he2]at hres
   subst hres
   obtain ⟨rfl,rfl⟩:=hsb he2
   ((first|refine rG Γ hm ?_|refine rD Γ hm qq ?_);(conv=>whnf);repeat((first|refine aF ?_|refine aT ?_);(first|refine rG Γ hm ?_|refine rD Γ hm qq ?_);conv=>whnf))
   (refine⟨fun h=>False.elim (by first | (exact absurd h qx) | (simp at h;done) | (simp at h;omega)),fun _=>?_⟩;((first|refine rG Γ hm ?_|refine rD Γ hm qq ?_);(conv=>whnf);repeat((first|refine aF ?_|refine aT ?_);(first|refine rG Γ hm ?_|refine rD Γ hm qq ?_);conv=>whnf)))
   refine⟨E,hp0,hk,?_⟩
   rw[hp]
   ((conv=>whnf);repeat((first|refine aF ?_|refine aT ?_);(first|refine rG Γ hm ?_|refine rD Γ hm qq ?_);conv=>whnf))
   refine Ah (Kc p true 0 hsh) F97 E E E E E ?_
   ((first|refine rG Γ hm ?_|refine rD Γ hm qq ?_);(conv=>whnf);repeat((first|refine aF ?_|refine aT ?_);(first|refine rG Γ hm ?_|refine rD Γ hm qq ?_);conv=>whnf))
   (repeat (first | (refine⟨fun h=>False.elim (by first | (exact absurd h qx) | (simp at h;done) | (simp at h;omega)),fun _=>?_⟩;((first|refine rG Γ hm ?_|refine rD Γ hm qq ?_);(conv=>whnf);repeat((first|refine aF ?_|refine aT ?_);(first|refine rG Γ hm ?_|refine rD Γ hm qq ?_);conv=>whnf))) | (refine⟨fun _=>?_,fun h=>False.elim (by first | (exact absurd h qx) | (simp at h;done) | (simp at h;omega))⟩;((first|refine rG Γ hm ?_|refine rD Γ hm qq ?_);(conv=>whnf);repeat((first|refine aF ?_|refine aT ?_);(first|refine rG Γ hm ?_|refine rD Γ hm qq ?_);conv=>whnf)))))
   refine A0 7 zF E (.cons (.refl _) (.cons (.refl _) (.cons (.refl _) (.cons .nil .nil)))) ?_
   exact Ac E (.cons .tmp (.cons (.cell E E E E) (.cons .tmp .nil))) E E
  subst he2
  rw[if_neg qx]at hres
  have hgo:=hso rfl
  have hgs:=hgo.src
  have qg:=Jf g.src qn
  rw[Ij,e1]at hres
  have qv:=Kc p true vid hsh
  have qd:=Qa n hn p.dev (vlanT p true vid).1
  ((first|refine rG Γ hm ?_|refine rD Γ hm qq ?_);(conv=>whnf);repeat((first|refine aF ?_|refine aT ?_);(first|refine rG Γ hm ?_|refine rD Γ hm qq ?_);conv=>whnf))
  refine Ah qg F96 E E E E E ?_
  cases hgb:E6 g.src
  rotate_left
  ·rw[if_pos hgb]at hres
   subst hres
   ((first|refine rG Γ hm ?_|refine rD Γ hm qq ?_);(conv=>whnf);repeat((first|refine aF ?_|refine aT ?_);(first|refine rG Γ hm ?_|refine rD Γ hm qq ?_);conv=>whnf))
   refine⟨E,hp0,hk,?_⟩
   rw[hp]
   ((conv=>whnf);repeat((first|refine aF ?_|refine aT ?_);(first|refine rG Γ hm ?_|refine rD Γ hm qq ?_);conv=>whnf))
   refine Ah qv F97 E E E E E ?_
   ((first|refine rG Γ hm ?_|refine rD Γ hm qq ?_);(conv=>whnf);repeat((first|refine aF ?_|refine aT ?_);(first|refine rG Γ hm ?_|refine rD Γ hm qq ?_);conv=>whnf))
   (repeat (first | (refine⟨fun h=>False.elim (by first | (exact absurd h qx) | (simp at h;done) | (simp at h;omega)),fun _=>?_⟩;((first|refine rG Γ hm ?_|refine rD Γ hm qq ?_);(conv=>whnf);repeat((first|refine aF ?_|refine aT ?_);(first|refine rG Γ hm ?_|refine rD Γ hm qq ?_);conv=>whnf))) | (refine⟨fun _=>?_,fun h=>False.elim (by first | (exact absurd h qx) | (simp at h;done) | (simp at h;omega))⟩;((first|refine rG Γ hm ?_|refine rD Γ hm qq ?_);(conv=>whnf);repeat((first|refine aF ?_|refine aT ?_);(first|refine rG Γ hm ?_|refine rD Γ hm qq ?_);conv=>whnf)))))
   refine A0 7 zF E (.cons (.refl _) (.cons (.refl _) (.cons (.refl _) (.cons .nil .nil)))) ?_
   exact Ac E (.cons .tmp (.cons (.cell E E E E) (.cons .tmp .nil))) E E
  rw[if_neg (by simp[hgb])]at hres
  ((first|refine rG Γ hm ?_|refine rD Γ hm qq ?_);(conv=>whnf);repeat((first|refine aF ?_|refine aT ?_);(first|refine rG Γ hm ?_|refine rD Γ hm qq ?_);conv=>whnf))
  refine⟨E,hp0,hk,?_⟩
  rw[hp]
  ((conv=>whnf);repeat((first|refine aF ?_|refine aT ?_);(first|refine rG Γ hm ?_|refine rD Γ hm qq ?_);conv=>whnf))
  refine Ah qv F97 E E E E E ?_
  generalize vlanT p true vid=vl at *
  obtain ⟨vl,vok⟩:=vl
  dsimp only at hres qd ⊢
  cases vok
  ·rw[if_pos rfl]at hres
   subst hres
   ((first|refine rG Γ hm ?_|refine rD Γ hm qq ?_);(conv=>whnf);repeat((first|refine aF ?_|refine aT ?_);(first|refine rG Γ hm ?_|refine rD Γ hm qq ?_);conv=>whnf))
   refine A0 7 zF E (.cons (.refl _) (.cons (.refl _) (.cons (.refl _) (.cons .nil .nil)))) ?_
   exact Ac E (.cons .tmp (.cons (.cell E E E E) (.cons .tmp .nil))) E E
  rw[if_neg qy]at hres
  subst hres
  ((first|refine rG Γ hm ?_|refine rD Γ hm qq ?_);(conv=>whnf);repeat((first|refine aF ?_|refine aT ?_);(first|refine rG Γ hm ?_|refine rD Γ hm qq ?_);conv=>whnf))
  refine An qd F98 E E E qq E ?_
  ((first|refine rG Γ hm ?_|refine rD Γ hm qq ?_);(conv=>whnf);repeat((first|refine aF ?_|refine aT ?_);(first|refine rG Γ hm ?_|refine rD Γ hm qq ?_);conv=>whnf))
  refine⟨qq,?_⟩
  ((conv=>whnf);repeat((first|refine aF ?_|refine aT ?_);(first|refine rG Γ hm ?_|refine rD Γ hm qq ?_);conv=>whnf))
  exact Ac E (.cons .tmp (.cons (.cell E E E E) (.cons .tmp .nil))) E E
 ·rw[if_neg ht]at hres
  rw[decide_eq_false ht]
  have hgo:=hfo
  have hgs:=hgo.src
  have qg:=Jf f.src qn
  rw[Ij,e1]at hres
  have qv:=Kc p false 0 hsh
  have qd:=Qa n hn p.dev (vlanT p false 0).1
  ((first|refine rG Γ hm ?_|refine rD Γ hm qq ?_);(conv=>whnf);repeat((first|refine aF ?_|refine aT ?_);(first|refine rG Γ hm ?_|refine rD Γ hm qq ?_);conv=>whnf))
  refine Ah qg F96 E E E E E ?_
  cases hgb:E6 f.src
  rotate_left
  ·rw[if_pos hgb]at hres
   subst hres
   ((first|refine rG Γ hm ?_|refine rD Γ hm qq ?_);(conv=>whnf);repeat((first|refine aF ?_|refine aT ?_);(first|refine rG Γ hm ?_|refine rD Γ hm qq ?_);conv=>whnf))
   refine⟨E,hp0,hk,?_⟩
   rw[hp]
   ((conv=>whnf);repeat((first|refine aF ?_|refine aT ?_);(first|refine rG Γ hm ?_|refine rD Γ hm qq ?_);conv=>whnf))
   refine Ah qv F97 E E E E E ?_
   ((first|refine rG Γ hm ?_|refine rD Γ hm qq ?_);(conv=>whnf);repeat((first|refine aF ?_|refine aT ?_);(first|refine rG Γ hm ?_|refine rD Γ hm qq ?_);conv=>whnf))
   (repeat (first | (refine⟨fun h=>False.elim (by first | (exact absurd h qx) | (simp at h;done) | (simp at h;omega)),fun _=>?_⟩;((first|refine rG Γ hm ?_|refine rD Γ hm qq ?_);(conv=>whnf);repeat((first|refine aF ?_|refine aT ?_);(first|refine rG Γ hm ?_|refine rD Γ hm qq ?_);conv=>whnf))) | (refine⟨fun _=>?_,fun h=>False.elim (by first | (exact absurd h qx) | (simp at h;done) | (simp at h;omega))⟩;((first|refine rG Γ hm ?_|refine rD Γ hm qq ?_);(conv=>whnf);repeat((first|refine aF ?_|refine aT ?_);(first|refine rG Γ hm ?_|refine rD Γ hm qq ?_);conv=>whnf)))))
   refine A0 7 zF E (.cons (.refl _) (.cons (.refl _) (.cons (.refl _) (.cons .nil .nil)))) ?_
   exact Ac E (.cons .tmp (.cons (.cell E E E E) (.cons .tmp .nil))) E E
  rw[if_neg (by simp[hgb])]at hres
  ((first|refine rG Γ hm ?_|refine rD Γ hm qq ?_);(conv=>whnf);repeat((first|refine aF ?_|refine aT ?_);(first|refine rG Γ hm ?_|refine rD Γ hm qq ?_);conv=>whnf))
  refine⟨E,hp0,hk,?_⟩
  rw[hp]
  ((conv=>whnf);repeat((first|refine aF ?_|refine aT ?_);(first|refine rG Γ hm ?_|refine rD Γ hm qq ?_);conv=>whnf))
  refine Ah qv F97 E E E E E ?_
  generalize vlanT p false 0=vl at *
  obtain ⟨vl,vok⟩:=vl
  dsimp only at hres qd ⊢
  cases vok
  ·rw[if_pos rfl]at hres
   subst hres
   ((first|refine rG Γ hm ?_|refine rD Γ hm qq ?_);(conv=>whnf);repeat((first|refine aF ?_|refine aT ?_);(first|refine rG Γ hm ?_|refine rD Γ hm qq ?_);conv=>whnf))
   refine A0 7 zF E (.cons (.refl _) (.cons (.refl _) (.cons (.refl _) (.cons .nil .nil)))) ?_
   exact Ac E (.cons .tmp (.cons (.cell E E E E) (.cons .tmp .nil))) E E
  rw[if_neg qy]at hres
  subst hres
  ((first|refine rG Γ hm ?_|refine rD Γ hm qq ?_);(conv=>whnf);repeat((first|refine aF ?_|refine aT ?_);(first|refine rG Γ hm ?_|refine rD Γ hm qq ?_);conv=>whnf))
  refine An qd F98 E E E qq E ?_
  ((first|refine rG Γ hm ?_|refine rD Γ hm qq ?_);(conv=>whnf);repeat((first|refine aF ?_|refine aT ?_);(first|refine rG Γ hm ?_|refine rD Γ hm qq ?_);conv=>whnf))
  refine⟨qq,?_⟩
  ((conv=>whnf);repeat((first|refine aF ?_|refine aT ?_);(first|refine rG Γ hm ?_|refine rD Γ hm qq ?_);conv=>whnf))
  exact Ac E (.cons .tmp (.cons (.cell E E E E) (.cons .tmp .nil))) E E
theorem Bk {i:Int} {n:Nat} (h:Ag i n=true):0≤i∧i<n:=by simpa [Ag] using h
end Go.Sy.YtnlacjgkdjnhmaaGreat
namespace Go.Sy.YtnlacjgkdjnhmaaGreat
open Go.Proofs
attribute [local irreducible] Go.Sy.G Go.Sy.DR
set_option maxRecDepth 20000
set_option maxHeartbeats 8000000
theorem Ir {i:Int} {n:Nat} (h:0≤i∧i<n):Ag i n=true:=by simp only[Ag,Bool.and_eq_true,decide_eq_true_eq];exact h
theorem O4 {i:Int} {n:Nat} (h:¬ (0≤i∧i<n)):Ag i n=false:=by simp only[Ag,Bool.and_eq_false_iff,decide_eq_false_iff_not];omega
end Go.Sy.YtnlacjgkdjnhmaaGreat
namespace Go.Sy.YtnlacjgkdjnhmaaGreat
open Go.Proofs
attribute [local irreducible] Go.Sy.G Go.Sy.DR
set_option maxRecDepth 100000
set_option maxHeartbeats 4000000
theorem It (i:Int) (n:Nat):Sy.Spec Tryz.prog 140 [Aa i,Aa n] [] (Ad (Ag i n)) []:=Ab Γ hm 100 F140 Tryz.ntmps140 rfl fun F hF=>by
 ((conv=>whnf);repeat((first|refine aF ?_|refine aT ?_);(first|refine rG Γ hm ?_|refine rD Γ hm qq ?_);conv=>whnf))
 (repeat' (first | (refine⟨fun h=>?_,fun h=>?_⟩<;>(repeat (first | simp only[decide_eq_true_eq]at h | simp only[decide_eq_false_iff_not]at h | simp only[beq_iff_eq]at h | simp only[beq_eq_false_iff_ne]at h | simp only[bne_iff_ne]at h | simp only[bne_eq_false_iff_eq]at h | simp only[Bool.and_eq_true]at h | simp only[Bool.or_eq_true]at h | simp only[Bool.and_eq_false_iff]at h | simp only[Bool.or_eq_false_iff]at h | simp only[Bool.not_eq_true']at h | simp only[Bool.not_eq_false']at h | simp only[Bool.not_eq_eq_eq_not]at h | simp only[Bool.not_true]at h | simp only[Bool.not_false]at h))<;>((first|refine rg ?_|refine rd qq ?_);(conv=>whnf);repeat((first|refine aF ?_|refine aT ?_);(first|refine rg ?_|refine rd qq ?_);(conv=>whnf)))) | (refine Ac rfl (.cons .tmp .nil) ?_ rfl) | (refine⟨qq,?_⟩;((conv=>whnf);repeat((first|refine aF ?_|refine aT ?_);(first|refine rg ?_|refine rd qq ?_);(conv=>whnf)))) | (refine⟨by (first | (unfold I64;omega) | omega | (simp only[Int.toNat_natCast];omega) | done),by (first | (unfold I64;omega) | omega | (simp only[Int.toNat_natCast];omega) | done),?_⟩;((conv=>whnf);repeat((first|refine aF ?_|refine aT ?_);(first|refine rg ?_|refine rd qq ?_);(conv=>whnf)))) | (refine⟨by (first | (unfold I64;omega) | omega | (simp only[Int.toNat_natCast];omega) | done),?_⟩;((conv=>whnf);repeat((first|refine aF ?_|refine aT ?_);(first|refine rg ?_|refine rd qq ?_);(conv=>whnf))))))
 all_goals (refine congrArg Ad ?_)
 all_goals grind [Ag]
theorem Adx (n:Net) (f:FrameM) (h:FrameOK f) (v:Int):Sy.Spec Tryz.prog 142 [Aq n,By f,Aa v] [] (.tup [.sl 1 Ak (Ws f),Aa 0]) []:=Ab Γ hm 100 F142 Tryz.ntmps142 rfl fun F hF=>by
 ((conv=>whnf);repeat((first|refine aF ?_|refine aT ?_);(first|refine rG Γ hm ?_|refine rD Γ hm qq ?_);conv=>whnf))
 refine Ai (Aj [(0,55)] E F184 (L4 f h) E Y E ⟨.inr E,Y⟩) E E ?_
 refine Au 55 E ?_
 ((first|refine rG Γ hm ?_|refine rD Γ hm qq ?_);(conv=>whnf);repeat((first|refine aF ?_|refine aT ?_);(first|refine rG Γ hm ?_|refine rD Γ hm qq ?_);conv=>whnf))
 exact Ac E (.cons .tmp (.cons .tmp .nil)) E E
theorem tag_ok {f:FrameM} (hf:FrameOK f) (v:Nat) (hv:v≤4094) (h:(tagT f v).2=0):FrameOK (tagT f v).1:=by
 unfold tagT at h ⊢
 split
 ·rw[if_pos (by assumption)]at h;cases h
 rw[if_neg (by assumption)]at h
 split
 ·rw[if_pos (by assumption)]at h;cases h
 refine⟨hf.dst,hf.src,?_,?_⟩
 ·show (33024:Nat)≤65535;decide
 ·dsimp only;simp;omega
theorem Za (n:Net) (f:FrameM) (h:FrameOK f) (v:Nat) (hv:v≤4094) :
  Sy.Spec Tryz.prog 141 [Aq n,By f,Aa v] [] (.tup [.sl 1 Ak (if (tagT f v).2≠0 then [] else Ws (tagT f v).1),Aa (if (tagT f v).2≠0 then (tagT f v).2 else 0)]) []:=by
 have q:=Aif f v h hv
 have ho:=tag_ok h v hv
 generalize tagT f v=t at *
 obtain ⟨g,e⟩:=t
 dsimp only at q ho ⊢
 refine Ab Γ hm 100 F141 Tryz.ntmps141 E fun F hF=>by
  ((conv=>whnf);repeat((first|refine aF ?_|refine aT ?_);(first|refine rG Γ hm ?_|refine rD Γ hm qq ?_);conv=>whnf))
  refine Ah q F183 E E E E E ?_
  ((first|refine rG Γ hm ?_|refine rD Γ hm qq ?_);(conv=>whnf);repeat((first|refine aF ?_|refine aT ?_);(first|refine rG Γ hm ?_|refine rD Γ hm qq ?_);conv=>whnf))
  by_cases he:e=0
  ·subst he
   (repeat (first | (refine⟨fun h=>False.elim (by first | (exact absurd h qx) | (simp at h;done) | (simp at h;omega)),fun _=>?_⟩;((first|refine rG Γ hm ?_|refine rD Γ hm qq ?_);(conv=>whnf);repeat((first|refine aF ?_|refine aT ?_);(first|refine rG Γ hm ?_|refine rD Γ hm qq ?_);conv=>whnf))) | (refine⟨fun _=>?_,fun h=>False.elim (by first | (exact absurd h qx) | (simp at h;done) | (simp at h;omega))⟩;((first|refine rG Γ hm ?_|refine rD Γ hm qq ?_);(conv=>whnf);repeat((first|refine aF ?_|refine aT ?_);(first|refine rG Γ hm ?_|refine rD Γ hm qq ?_);conv=>whnf)))))
   refine B0 8 4 (By g) E E E ?_
   ((first|refine rG Γ hm ?_|refine rD Γ hm qq ?_);(conv=>whnf);repeat((first|refine aF ?_|refine aT ?_);(first|refine rG Γ hm ?_|refine rD Γ hm qq ?_);conv=>whnf))
   refine Ai (Aj [(0,55)] E F184 (L4 g (ho E)) E Y E ⟨.inr E,Y⟩) E E ?_
   refine Au 55 E ?_
   ((first|refine rG Γ hm ?_|refine rD Γ hm qq ?_);(conv=>whnf);repeat((first|refine aF ?_|refine aT ?_);(first|refine rG Γ hm ?_|refine rD Γ hm qq ?_);conv=>whnf))
   exact Ac E (.cons .tmp (.cons .tmp .nil)) E E
  ·rw[if_pos he,if_pos he]
   (repeat (first | (refine⟨fun h=>False.elim (by first | (exact absurd h qx) | (simp at h;done) | (simp at h;omega)),fun _=>?_⟩;((first|refine rG Γ hm ?_|refine rD Γ hm qq ?_);(conv=>whnf);repeat((first|refine aF ?_|refine aT ?_);(first|refine rG Γ hm ?_|refine rD Γ hm qq ?_);conv=>whnf))) | (refine⟨fun _=>?_,fun h=>False.elim (by first | (exact absurd h qx) | (simp at h;done) | (simp at h;omega))⟩;((first|refine rG Γ hm ?_|refine rD Γ hm qq ?_);(conv=>whnf);repeat((first|refine aF ?_|refine aT ?_);(first|refine rG Γ hm ?_|refine rD Γ hm qq ?_);conv=>whnf)))))
   refine Ap 6 1 Ak E ?_
   exact Ac E (.cons .tmp (.cons .tmp .nil)) E E
theorem Aei {n:Net} (h:Af n=true) {i:Nat} (hi:i<n.domains.length):1≤n.domains[i].vlan∧n.domains[i].vlan≤4094:=by
 simp only[Af,Bool.and_eq_true]at h
 have hb:En (Km n) n.domains=true:=h.1.1.1.1.1.1.1.2
 have:=allB_iff.1 hb i hi
 simp only[Km,Bool.and_eq_true,decide_eq_true_eq]at this
 omega
theorem Ajy (n:Net) (hn:n.Fin) (port dom:Int) (f:FrameM) (h:FrameOK f) :
  Sy.Spec Tryz.prog 106 [Aq n,Aa port,Aa dom,By f] [] (.tup [.sl 1 Ak (leaveT n port dom f).1,Aa (leaveT n port dom f).2]) []:=Ab Γ hm 100 F106 Tryz.ntmps106 rfl fun F hF=>by
 have hres:=leaveT.eq_1 n port dom f
 generalize leaveT n port dom f=res at *
 have hr:=Bi n hn
 have hpS:=It port n.ports.length
 have hdS:=It dom n.domains.length
 ((conv=>whnf);repeat((first|refine aF ?_|refine aT ?_);(first|refine rG Γ hm ?_|refine rD Γ hm qq ?_);conv=>whnf))
 refine Ah hpS F140 E E E E E ?_
 cases hpl:Ag port n.ports.length
 ·rw[if_pos (.inl hpl)]at hres
  subst hres
  ((first|refine rG Γ hm ?_|refine rD Γ hm qq ?_);(conv=>whnf);repeat((first|refine aF ?_|refine aT ?_);(first|refine rG Γ hm ?_|refine rD Γ hm qq ?_);conv=>whnf))
  refine Ap 8 1 Ak E ?_
  exact Ac E (.cons .tmp (.cons .tmp .nil)) E E
 ((first|refine rG Γ hm ?_|refine rD Γ hm qq ?_);(conv=>whnf);repeat((first|refine aF ?_|refine aT ?_);(first|refine rG Γ hm ?_|refine rD Γ hm qq ?_);conv=>whnf))
 refine Ah hdS F140 E E E E E ?_
 cases hdl:Ag dom n.domains.length
 ·rw[if_pos (.inr (.inl hdl))]at hres
  subst hres
  ((first|refine rG Γ hm ?_|refine rD Γ hm qq ?_);(conv=>whnf);repeat((first|refine aF ?_|refine aT ?_);(first|refine rG Γ hm ?_|refine rD Γ hm qq ?_);conv=>whnf))
  refine Ap 8 1 Ak E ?_
  exact Ac E (.cons .tmp (.cons .tmp .nil)) E E
 ((first|refine rG Γ hm ?_|refine rD Γ hm qq ?_);(conv=>whnf);repeat((first|refine aF ?_|refine aT ?_);(first|refine rG Γ hm ?_|refine rD Γ hm qq ?_);conv=>whnf))
 refine Ah hr F20 E E E E E ?_
 cases hbn:Af n
 ·rw[if_pos (.inr (.inr hbn))]at hres
  subst hres
  ((first|refine rG Γ hm ?_|refine rD Γ hm qq ?_);(conv=>whnf);repeat((first|refine aF ?_|refine aT ?_);(first|refine rG Γ hm ?_|refine rD Γ hm qq ?_);conv=>whnf))
  refine Ap 8 1 Ak E ?_
  exact Ac E (.cons .tmp (.cons .tmp .nil)) E E
 rw[if_neg (by simp[hbn,hpl,hdl])]at hres
 have hpi:=Bk hpl
 have hdi:=Bk hdl
 have hp0:0≤port:=hpi.1
 have hd0:0≤dom:=hdi.1
 have hk:port.toNat<n.ports.length:=by omega
 have hkd:dom.toNat<n.domains.length:=by omega
 have e1:nth n.ports port=n.ports[port.toNat]:=Ao hk
 have e2:nth n.domains dom=n.domains[dom.toNat]:=Ao hkd
 have hsh:=hn.tagged _ (List.getElem_mem hk)
 have hv:=Aei hbn hkd
 obtain ⟨p,hp⟩:∃ p,n.ports[port.toNat]'hk=p:=⟨_,rfl⟩
 obtain ⟨d,hd⟩:∃ d,n.domains[dom.toNat]'hkd=d:=⟨_,rfl⟩
 rw[hp]at e1 hsh
 rw[hd]at e2 hv
 rw[e1,e2]at hres
 have qm:=T6 p d.vlan hsh
 ((first|refine rG Γ hm ?_|refine rD Γ hm qq ?_);(conv=>whnf);repeat((first|refine aF ?_|refine aT ?_);(first|refine rG Γ hm ?_|refine rD Γ hm qq ?_);conv=>whnf))
 refine⟨E,hp0,hk,E,hd0,hkd,?_⟩
 rw[hp,hd]
 ((conv=>whnf);repeat((first|refine aF ?_|refine aT ?_);(first|refine rG Γ hm ?_|refine rD Γ hm qq ?_);conv=>whnf))
 refine⟨qq,?_⟩
 ((conv=>whnf);repeat((first|refine aF ?_|refine aT ?_);(first|refine rG Γ hm ?_|refine rD Γ hm qq ?_);conv=>whnf))
 refine⟨fun h1=>?_,fun h1=>?_⟩
 ·rw[if_pos (.inl (by simpa using h1))]at hres
  subst hres
  ((first|refine rG Γ hm ?_|refine rD Γ hm qq ?_);(conv=>whnf);repeat((first|refine aF ?_|refine aT ?_);(first|refine rG Γ hm ?_|refine rD Γ hm qq ?_);conv=>whnf))
  refine Ap 8 1 Ak E ?_
  exact Ac E (.cons .tmp (.cons .tmp .nil)) E E
 refine B0 10 7 (A3 p) E E E ?_
 ((first|refine rG Γ hm ?_|refine rD Γ hm qq ?_);(conv=>whnf);repeat((first|refine aF ?_|refine aT ?_);(first|refine rG Γ hm ?_|refine rD Γ hm qq ?_);conv=>whnf))
 refine Ah qm F57 E E E E E ?_
 cases hm1:J6 p d.vlan
 ·rw[if_pos (.inr hm1)]at hres
  subst hres
  ((first|refine rG Γ hm ?_|refine rD Γ hm qq ?_);(conv=>whnf);repeat((first|refine aF ?_|refine aT ?_);(first|refine rG Γ hm ?_|refine rD Γ hm qq ?_);conv=>whnf))
  refine Ap 8 1 Ak E ?_
  exact Ac E (.cons .tmp (.cons .tmp .nil)) E E
 rw[if_neg (by simp at h1;simp[hm1,h1])]at hres
 have qt:=Lp f
 by_cases ht:f.typ=33024
 ·rw[if_pos ht]at hres
  subst hres
  rw[decide_eq_true ht]at qt
  ((first|refine rG Γ hm ?_|refine rD Γ hm qq ?_);(conv=>whnf);repeat((first|refine aF ?_|refine aT ?_);(first|refine rG Γ hm ?_|refine rD Γ hm qq ?_);conv=>whnf))
  refine Ah qt F94 E E E E E ?_
  ((first|refine rG Γ hm ?_|refine rD Γ hm qq ?_);(conv=>whnf);repeat((first|refine aF ?_|refine aT ?_);(first|refine rG Γ hm ?_|refine rD Γ hm qq ?_);conv=>whnf))
  refine Ap 8 1 Ak E ?_
  exact Ac E (.cons .tmp (.cons .tmp .nil)) E E
 rw[if_neg ht]at hres
 rw[decide_eq_false ht]at qt
 ((first|refine rG Γ hm ?_|refine rD Γ hm qq ?_);(conv=>whnf);repeat((first|refine aF ?_|refine aT ?_);(first|refine rG Γ hm ?_|refine rD Γ hm qq ?_);conv=>whnf))
 refine Ah qt F94 E E E E E ?_
 ((first|refine rG Γ hm ?_|refine rD Γ hm qq ?_);(conv=>whnf);repeat((first|refine aF ?_|refine aT ?_);(first|refine rG Γ hm ?_|refine rD Γ hm qq ?_);conv=>whnf))
 refine⟨fun h2=>?_,fun h2=>?_⟩
 ·rw[if_pos (by simpa using h2)]at hres
  subst hres
  ((first|refine rG Γ hm ?_|refine rD Γ hm qq ?_);(conv=>whnf);repeat((first|refine aF ?_|refine aT ?_);(first|refine rG Γ hm ?_|refine rD Γ hm qq ?_);conv=>whnf))
  refine Dx ⟨⟨_,_,F142⟩,Adx n f h d.vlan⟩ E E E E E E ?_
  ((first|refine rG Γ hm ?_|refine rD Γ hm qq ?_);(conv=>whnf);repeat((first|refine aF ?_|refine aT ?_);(first|refine rG Γ hm ?_|refine rD Γ hm qq ?_);conv=>whnf))
  exact Ac E (.cons .tmp (.cons .tmp .nil)) E E
 rw[if_neg (by simpa using h2)]at hres
 ((first|refine rG Γ hm ?_|refine rD Γ hm qq ?_);(conv=>whnf);repeat((first|refine aF ?_|refine aT ?_);(first|refine rG Γ hm ?_|refine rD Γ hm qq ?_);conv=>whnf))
 have hv0:(d.vlan.toNat:Int)=d.vlan:=by omega
 have qg:=Za n f h d.vlan.toNat qn
 rw[hv0]at qg
 refine Dx ⟨⟨_,_,F141⟩,qg⟩ E E E E E E ?_
 ((first|refine rG Γ hm ?_|refine rD Γ hm qq ?_);(conv=>whnf);repeat((first|refine aF ?_|refine aT ?_);(first|refine rG Γ hm ?_|refine rD Γ hm qq ?_);conv=>whnf))
 by_cases he:(tagT f d.vlan).2=0
 ·rw[if_neg (by simpa using he)]at hres
  subst hres
  rw[if_neg (by simpa using he),if_neg (by simpa using he)]
  exact Ac E (.cons .tmp (.cons .tmp .nil)) E E
 ·rw[if_pos he]at hres
  subst hres
  rw[if_pos he,if_pos he]
  exact Ac E (.cons .tmp (.cons .tmp .nil)) E E
theorem inB_mem {l:List Int} {x:Int}:inB l x=true↔x∈l:=by
 simp[inB]
theorem Adv (n:Net) (hn:n.Fin) (port:Int) (b:List UInt8) (hb:b.length<100000) :
  Sy.Spec Tryz.prog 111 [Aq n,Aa port,.sl 1 Ak b] [] (.tup [Aa (linkT n port b).1,Aa (linkT n port b).2.1,By (linkT n port b).2.2.1,Aa (linkT n port b).2.2.2]) []:=Ab Γ hm 100 F111 Tryz.ntmps111 rfl fun F hF=>by
 have hres:=linkT.eq_1 n port b
 generalize linkT n port b=res at *
 have qo:=Y8 n hn port
 have qe:=Ab6 n hn (Hl n port) b hb
 generalize Hl n port=o at *
 ((conv=>whnf);repeat((first|refine aF ?_|refine aT ?_);(first|refine rG Γ hm ?_|refine rD Γ hm qq ?_);conv=>whnf))
 refine Ah qo F148 E E E E E ?_
 ((first|refine rG Γ hm ?_|refine rD Γ hm qq ?_);(conv=>whnf);repeat((first|refine aF ?_|refine aT ?_);(first|refine rG Γ hm ?_|refine rD Γ hm qq ?_);conv=>whnf))
 refine⟨fun h1=>?_,fun h1=>?_⟩
 ·rw[if_pos (by simpa using h1)]at hres
  subst hres
  ((first|refine rG Γ hm ?_|refine rD Γ hm qq ?_);(conv=>whnf);repeat((first|refine aF ?_|refine aT ?_);(first|refine rG Γ hm ?_|refine rD Γ hm qq ?_);conv=>whnf))
  refine A0 8 zF E (.cons (.refl _) (.cons (.refl _) (.cons (.refl _) (.cons .nil .nil)))) ?_
  exact Ac E (.cons .tmp (.cons .tmp (.cons (.cell E E E E) (.cons .tmp .nil)))) E E
 rw[if_neg (by simpa using h1)]at hres
 ((first|refine rG Γ hm ?_|refine rD Γ hm qq ?_);(conv=>whnf);repeat((first|refine aF ?_|refine aT ?_);(first|refine rG Γ hm ?_|refine rD Γ hm qq ?_);conv=>whnf))
 refine Ah qe F66 E E E E E ?_
 generalize enterT n o b=en at *
 obtain ⟨x1,g,x2⟩:=en
 subst hres
 ((first|refine rG Γ hm ?_|refine rD Γ hm qq ?_);(conv=>whnf);repeat((first|refine aF ?_|refine aT ?_);(first|refine rG Γ hm ?_|refine rD Γ hm qq ?_);conv=>whnf))
 refine⟨qq,?_⟩
 ((conv=>whnf);repeat((first|refine aF ?_|refine aT ?_);(first|refine rG Γ hm ?_|refine rD Γ hm qq ?_);conv=>whnf))
 exact Ac E (.cons .tmp (.cons .tmp (.cons (.cell E E E E) (.cons .tmp .nil)))) E E
end Go.Sy.YtnlacjgkdjnhmaaGreat
namespace Go.Sy.YtnlacjgkdjnhmaaGreat
open Go.Proofs
theorem Iz (l:List Nat):(Cr l).length=2 * l.length:=by
 induction l with
 | nil=>rfl
 | cons a l ih=>simp only[Cr,List.flatMap_cons,List.length_append,List.length_cons,List.length_nil]at ih ⊢;omega
theorem Hc (l:List Nat) (n:Nat):Cr (l++[n])=Cr l++[UInt8.ofNat (n / 256),UInt8.ofNat n]:=by simp[Cr]
theorem Jd (b:List UInt8) (k m:Nat):numAt b k m<256 ^ m:=by
 have h:=Jt _ ((b.drop k).take m) rfl
 have h2:((b.drop k).take m).length≤m:=by rw[List.length_take];omega
 exact Nat.lt_of_lt_of_le h (Nat.pow_le_pow_right qx h2)
theorem M7 {b:List UInt8} {k:Nat} (h:k+2≤b.length):numAt b k 2=(b[k]'qn).toNat * 256+(b[k+1]'qn).toNat:=by
 rw[numAt,Oo h,Ae1]
theorem Z1 {b:List UInt8} {k:Nat} (h:k<b.length):bAt b k=b[k]:=Aea h
theorem Aie {b:List UInt8} {k:Nat} (h:k+3≤b.length):(b.drop k).take 3=[b[k]'qn,b[k+1]'qn,b[k+2]'qn]:=by
 rw[List.drop_eq_getElem_cons qn,List.drop_eq_getElem_cons (i:=k+1) qn,List.drop_eq_getElem_cons (i:=k+2) qn]
 rfl
theorem Aid {b:List UInt8} {k:Nat} (h:k+4≤b.length):(b.drop k).take 4=[b[k]'qn,b[k+1]'qn,b[k+2]'qn,b[k+3]'qn]:=by
 rw[List.drop_eq_getElem_cons qn,List.drop_eq_getElem_cons (i:=k+1) qn,List.drop_eq_getElem_cons (i:=k+2) qn,List.drop_eq_getElem_cons (i:=k+3) qn]
 rfl
theorem numAt3 {b:List UInt8} {k:Nat} (h:k+3≤b.length):numAt b k 3=((b[k]'qn).toNat * 256+(b[k+1]'qn).toNat) * 256+(b[k+2]'qn).toNat:=by
 rw[numAt,Aie h]
 simp[Hr]
theorem numAt4 {b:List UInt8} {k:Nat} (h:k+4≤b.length):numAt b k 4=numAt b k 2 * 65536+numAt b (k+2) 2:=by
 have e:b[k+2+1]'qn=b[k+3]'qn:=rfl
 rw[numAt,Aid h,M7 qn,M7 qn,e]
 simp[Hr]
 omega
theorem Iq (f:FrameM):(Ws f).length=14+f.body.length:=by
 simp[Ws,frame,Cv]
 omega
theorem Mr (p:PacketM) (s:Nat):(Hm p s).length=20:=by rw[Hm,Iz];rfl
theorem K2 (p:PacketM):(Tv p).length=20+p.body.length:=by rw[Tv,List.length_append,Mr]
theorem Aaf (s d:Nat) (b:List UInt8):(Ah8 s d b).length=8+b.length:=by rw[Ah8,List.length_append,Iz];rfl
theorem H2 (v:Nat):(Ki v).length=8:=rfl
theorem C6:FrameOK noF:=⟨by decide,by decide,by decide,by decide⟩
theorem Vx (ip:Nat) (h:ip<4294967296):Hp ip<281474976710656:=by rw[Hp,Int.toNat_natCast];omega
theorem W0 (n:Net) (port dom:Int) (f:FrameM) (hf:FrameOK f):(leaveT n port dom f).1.length≤1518:=by
 have h4:=hf.body
 unfold leaveT
 split
 ·simp
 split
 ·simp
 split
 ·simp
 split
 ·rw[Iq];omega
 split
 ·simp
 ·rw[Iq]
  rename_i h
  have h2:(tagT f (nth n.domains dom).vlan).2=0:=Classical.byContradiction h
  unfold tagT at h2 ⊢
  split
  ·rw[if_pos (by assumption)]at h2;cases h2
  rw[if_neg (by assumption)]at h2
  split
  ·rw[if_pos (by assumption)]at h2;cases h2
  ·dsimp only
   simp
   omega
theorem Vu {b:List UInt8} (h:(ipTakeT b).2=0):PacketOK (ipTakeT b).1∧(ipTakeT b).1.body.length+20≤b.length:=by
 unfold ipTakeT at h ⊢
 split
 ·rw[if_pos (by assumption)]at h;cases h
 rw[if_neg (by assumption)]at h
 split
 ·rw[if_pos (by assumption)]at h;cases h
 rw[if_neg (by assumption)]at h
 split
 ·rw[if_pos (by assumption)]at h;cases h
 rw[if_neg (by assumption)]at h
 split
 ·rw[if_pos (by assumption)]at h;cases h
 rw[if_neg (by assumption)]at h
 split
 ·rw[if_pos (by assumption)]at h;cases h
 have l1:=(bAt b 1).toNat_lt
 have l8:=(bAt b 8).toNat_lt
 have l9:=(bAt b 9).toNat_lt
 have n4:=Jd b 4 2
 have n12:=Jd b 12 4
 have n16:=Jd b 16 4
 refine⟨⟨?_,?_,?_,?_,?_,?_⟩,?_⟩
 ·show (bAt b 1).toNat≤255;omega
 ·show numAt b 4 2≤65535;omega
 ·show (bAt b 8).toNat≤255;omega
 ·show (bAt b 9).toNat≤255;omega
 ·exact n12
 ·exact n16
 ·show ((b.take (numAt b 2 2)).drop 20).length+20≤b.length
  rw[List.length_drop,List.length_take]
  omega
theorem Amt {b:List UInt8} (h:(ipTakeT b).2≠0):(ipTakeT b).1=noP:=by
 unfold ipTakeT at h ⊢
 split
 ·rfl
 rw[if_neg (by assumption)]at h
 split
 ·rfl
 rw[if_neg (by assumption)]at h
 split
 ·rfl
 rw[if_neg (by assumption)]at h
 split
 ·rfl
 rw[if_neg (by assumption)]at h
 split
 ·rfl
 rw[if_neg (by assumption)]at h
 exact absurd E h
theorem Adq:PacketOK noP:=⟨by decide,by decide,by decide,by decide,by decide,by decide⟩
theorem Ad1 (p:PacketM) (s:Nat):((Hm p 0).set 10 (UInt8.ofNat (s / 256))).set 11 (UInt8.ofNat s)=Hm p s:=by
 simp only[Hm,Cr,List.flatMap_cons,List.flatMap_nil,List.cons_append,List.nil_append,List.set_cons_succ,List.set_cons_zero]
theorem Ah0 (a b v:Nat) (f:FrameM) (ha:a<4294967296) (hb:b<4294967296):PacketOK (Mf a b v f):=⟨Nat.zero_le _,Nat.zero_le _,by show (64:Nat)≤255;decide,by show (17:Nat)≤255;decide,ha,hb⟩
theorem Hq (a b v:Nat) (f:FrameM):(Mf a b v f).body.length=30+f.body.length:=by
 simp only[Mf,Aaf,List.length_append,H2,Iq];omega
theorem Yj (a b:Nat) (v:Int) (f:FrameM):(wrapT a b v f).1.length≤1514:=by
 unfold wrapT
 split
 ·simp
 split
 ·simp
 split
 ·simp
 ·simp only[frame,List.length_append,Cv,K2,Hq,List.length_cons,List.length_nil];omega
theorem Y6 (n:Net) (dom peer:Int) (f:FrameM):(meshT n dom peer f).1.length≤1514:=by
 unfold meshT
 split
 ·simp
 split
 ·simp
 ·exact Yj _ _ _ _
theorem Ak9 {b:List UInt8}:(udpTakeT b).2.2.1.length≤b.length:=by
 unfold udpTakeT
 repeat' split
 all_goals first | (simp;done) | (simp only[List.length_drop,List.length_take];omega)
theorem vniT_body {b:List UInt8}:(vniT b).2.1.length≤b.length:=by
 unfold vniT
 repeat' split
 all_goals first | (simp;done) | (simp only[List.length_drop];omega)
theorem Sd (b:List UInt8):PacketOK (outerT b).1∧(outerT b).1.body.length≤b.length:=by
 unfold outerT
 split
 ·exact⟨Adq,by simp[noP]⟩
 split
 ·exact⟨Adq,by simp[noP]⟩
 split
 ·exact⟨Adq,by simp[noP]⟩
 ·rename_i h1 h2 h3
  have h4:(takeF b).2=0:=Classical.byContradiction h1
  have h5:(ipTakeT (takeF b).1.body).2=0:=Classical.byContradiction h3
  obtain ⟨h6,h7⟩:=Vu h5
  refine⟨h6,?_⟩
  have h8:(takeF b).1.body.length≤b.length:=by
   unfold takeF
   repeat' split
   all_goals simp[noF]
  dsimp only
  omega
theorem Xz (b:List UInt8):FrameOK (I5 b).2.1∧0≤(I5 b).1:=by
 unfold I5
 repeat' split
 all_goals first | exact⟨C6,Int.le_refl _⟩ | skip
 rename_i h1 h2 h3 h4 h5
 refine⟨Aah (Classical.byContradiction h4),?_⟩
 show 0≤(vniT (udpTakeT b).2.2.1).1
 unfold vniT
 repeat' split
 all_goals omega
theorem Uh (b:List UInt8):(Br b).1<4294967296∧(Br b).2.1<4294967296∧0≤(Br b).2.2.1∧FrameOK (Br b).2.2.2.1:=by
 unfold Br
 split
 ·exact⟨Nat.zero_lt_succ _,Nat.zero_lt_succ _,Int.le_refl _,C6⟩
 split
 ·exact⟨Nat.zero_lt_succ _,Nat.zero_lt_succ _,Int.le_refl _,C6⟩
 ·exact⟨(Sd b).1.src,(Sd b).1.dst,(Xz _).2,(Xz _).1⟩
theorem X8 (n:Net) (port:Int) (f:FrameM) (hf:FrameOK f) (tg:Bool) (vid:Int):FrameOK (Ij n port f tg vid).2.1:=by
 unfold Ij
 split
 ·exact C6
 split
 ·exact C6
 ·exact hf
theorem So (n:Net) (port:Int) (b:List UInt8):FrameOK (enterT n port b).2.1:=by
 unfold enterT
 split
 ·exact C6
 split
 ·exact C6
 rename_i h1 h2
 have h3:=Aah (Classical.byContradiction h2)
 split
 ·split
  ·exact C6
  ·rename_i h5
   exact X8 _ _ _ (Aii h3 (Classical.byContradiction h5)) _ _
 ·exact X8 _ _ _ h3 _ _
theorem Abk (n:Net) (port:Int) (b:List UInt8):FrameOK (linkT n port b).2.2.1:=by
 unfold linkT
 split
 ·exact C6
 ·exact So _ _ _
theorem Ach (n:Net) (b:List UInt8):FrameOK (comeT n b).2.2.1:=by
 unfold comeT
 split
 ·exact C6
 split
 ·exact C6
 split
 ·exact C6
 split
 ·exact C6
 ·exact(Uh b).2.2.2
theorem Al4 (n:Net) (hm:n.Num) (irb:Int) (f:FrameM) (hin:∀ (d:Int),(lookT n irb d).2=true→0≤(lookT n irb d).1∧(lookT n irb d).1.toNat<n.irbs.length):FrameOK (hopT n irb f).2.1:=by
 unfold hopT
 split
 ·exact C6
 split
 ·exact C6
 split
 ·exact C6
 split
 ·exact C6
 split
 ·exact C6
 split
 ·exact C6
 rename_i h1 h2 h3 h4 h5 h6
 have hp:=(Vu (Classical.byContradiction h3)).1
 have hl:=hin ((ipTakeT f.body).1.dst:Int) (by simpa using h5)
 have ha:=hm.addr _ (List.getElem_mem hl.2)
 rw[← Ao hl.2]at ha
 refine⟨Vx _ hp.dst,?_,?_,?_⟩
 ·show Hp (nth n.irbs _).addr<_
  rw[Hp];omega
 ·show (2048:Nat)≤65535;decide
 ·show (Tv (Ad5 (ipTakeT f.body).1)).length≤1504
  rw[K2]
  show 20+(ipTakeT f.body).1.body.length≤1504
  omega
end Go.Sy.YtnlacjgkdjnhmaaGreat
namespace Go.Sy
structure Meth (P:Program) (t:TypeId) (name:String) (f:FuncId) (pr:Bool) (e:TypeId):Prop where
 row:∃ i m,P.info? t=some i∧i.methods.find? (·.name == name)=some m∧m.path=#[]∧m.func=some (f,pr)
 under:P.underlying t=some (.pointer e)
theorem Ut {P:Program} {t:TypeId} {name:String} {f:FuncId} {e:TypeId} (hm:Meth P t name f true e) (w:World) (v:Value):(Go.method (P.types.size+Made.depth) t v name).run P w=.ok (f,v) w:=by
 obtain ⟨⟨i,m,h1,h2,h3,h4⟩,hu⟩:=hm
 show (Go.method (P.types.size+99+1) t v name).run P w=_
 rw[Go.method]
 simp only[Sem.run_bind,run_typeInfo w h1,Result.andThen_ok,h2,h3,Go.follow,Sem.run_pure,h4,Go.receiverAt,run_underlying hu,Go.Place.get]
theorem Us {P:Program} {t:TypeId} {name:String} {f:FuncId} {e:TypeId} (hm:Meth P t name f false e) (w:World) (a:Addr) {v:Value} (hv:(loadVar e a).run P w=.ok v w):(Go.method (P.types.size+Made.depth) t (.pointer (some a)) name).run P w=.ok (f,v) w:=by
 obtain ⟨⟨i,m,h1,h2,h3,h4⟩,hu⟩:=hm
 show (Go.method (P.types.size+99+1) t (.pointer (some a)) name).run P w=_
 rw[Go.method]
 have he:(#[]:Array FieldStep).isEmpty=true:=rfl
 simp only[Sem.run_bind,run_typeInfo w h1,Result.andThen_ok,h2,h3,Go.follow,Sem.run_pure,h4,Go.receiverAt,run_underlying hu,Go.Place.get,he,if_true]
 have hs : ∀ n : String, (Builtin.ssaWrapNilChk_ #[t] t #[.pointer (some a), strVal "", strVal n]).run P w = .ok (.pointer (some a)) w := fun n => rfl
 simp only[hs,Result.andThen_ok,asAddr,Sem.run_pure,hv]
theorem Mz {P:Program} {o:Oper} {s:SS} {rd:List Nat} {f:FuncId} {fn:Func} {c:Code} {t e:TypeId} {name:String} {x:Operand} {xs:List Operand} {ts:Array TypeId} {y:SV} (hm:Meth P t name f true e) (hf:Fun P f fn c) (h:o.op=.call ⟨.invoke x name,xs.toArray,ts⟩) (hx:ev s x=.ifc t y) :
  Kf P o s rd f (y::xs.map (ev s)) :=
 fun κ a w hr _=>by
  have h1:=hr x (by simp[h,Op.operands,Call.operands])
  rw[hx]at h1
  simp only[Rd]at h1
  obtain ⟨u,e1,e2⟩:=h1
  refine⟨u::xs.map a.eval,?_,?_⟩
  ·have hcall:=Ht hf (u::xs.map a.eval).toArray w
   have hmeth:=Ut hm w u
   simp only[execOp,h,resolve,invoke,e1,Sem.run_bind,Sem.run_pure,Result.andThen_ok]at hcall ⊢
   simp only[callMethod]
   rw[← hcall]
   have htk:(xs.map a.eval).take xs.length=xs.map a.eval:=List.take_of_length_le qy
   simp[hmeth,Sem.run_bind,htk]
  ·simp only[RdL]
   exact⟨_,_,E,e2,Iy xs (fun y hy=>hr y (by simp[h,Op.operands,Call.operands,hy]))⟩
theorem A6 {P:Program} (Γ:Ty P) {o:Oper} {s:SS} {f:FuncId} {fn:Func} {c:Code} {t e:TypeId} {ti:TI} {name:String} {x:Operand} {xs:List Operand} {ts:Array TypeId} {k off:Nat} {l:List SV} {z:SV} (hm:Meth P t name f false e) (hf:Fun P f fn c) (h:o.op=.call ⟨.invoke x name,xs.toArray,ts⟩)
  (hx:ev s x=.ifc t (.ptr k off)) (hk:s.h k=.box l) (ht:Γ.get e=some ti) (hz:Ie ti l off=some z):Kf P o s [k] f (z::xs.map (ev s)) :=
 fun κ a w hr ho=>by
  have h1:=hr x (by simp[h,Op.operands,Call.operands])
  rw[hx]at h1
  simp only[Rd]at h1
  obtain ⟨u,e1,e2⟩:=h1
  have hob:=ho k qy
  rw[hk]at hob
  obtain ⟨b,f1,f2⟩:=hob.cellsAt
  rw[f1]at e2
  simp only at e2
  subst e2
  obtain ⟨v,g1,g2⟩:=H6 (P:=P) Γ ht f2 hz
  rw[Nat.zero_add]at g1
  refine⟨v::xs.map a.eval,?_,?_⟩
  ·have hcall:=Ht hf (v::xs.map a.eval).toArray w
   have hmeth:=Us hm w ⟨b,off,none⟩ g1
   simp only[execOp,h,resolve,invoke,e1,Sem.run_bind,Sem.run_pure,Result.andThen_ok]at hcall ⊢
   simp only[callMethod]
   rw[← hcall]
   have htk:(xs.map a.eval).take xs.length=xs.map a.eval:=List.take_of_length_le qy
   simp[hmeth,Sem.run_bind,htk]
  ·simp only[RdL]
   exact⟨_,_,E,g2,Iy xs (fun y hy=>hr y (by simp[h,Op.operands,Call.operands,hy]))⟩
theorem Td {P:Program} (Γ:Ty P) {o:Oper} {s:SS} {x:Operand} {xt t:TypeId} {ti:TI} {y:SV} {ok:Bool} (h:o.op=.typeAssert x xt t ok) (hx:ev s x=.ifc t y) (ht:Γ.get t=some ti) (hk:ti.k matches .bool | .int _ | .string | .slice .. | .struct _ | .ptr | .func) :
  Good P o s ⟨if ok then .tup [y,Ad true] else y,[],[]⟩ :=
 Good.pure fun κ a w _ hr _=>by
  have h1:=hr x (by simp[h,Op.operands])
  rw[hx]at h1
  simp only[Rd]at h1
  obtain ⟨u,e1,e2⟩:=h1
  obtain ⟨d,info,z,k1,k2,_⟩:=Γ.ok t ti ht
  have hni:∀ ms,d≠.interface ms:=by
   obtain ⟨k,n,zz⟩:=ti
   intro ms hd
   subst hd
   cases k<;>simp_all[TK.ok]
  have hrun:(Instr.typeAssert (.iface t u) xt t ok).run P w=.ok (if ok then .tuple #[u,.bool true] else u) w:=by
   cases d<;>first
    | exact absurd rfl (hni _)
    | (cases ok<;>simp[Instr.typeAssert,run_underlying k1])
  refine⟨if ok then .tuple #[u,.bool true] else u,by simp[execOp,h,e1,hrun],?_⟩
  cases ok
  ·exact e2
  ·simp only[if_true,Rd,RdL]
   exact⟨[u,.bool true],E,_,_,E,e2,_,_,E,by simp[Ad,Rd],E⟩
def Ams (P:Program) (t:TypeId) (name:String) (f:FuncId) (pr:Bool):Bool :=
 match P.info? t with
 | some i=>(match i.methods.find? (·.name == name) with
  | some m=>m.path.isEmpty && (match m.func with | some (g,b)=>Nat.beq g f && (b == pr) | none=>false)
  | none=>false)
 | none=>false
theorem Meth.of {P:Program} {t:TypeId} {name:String} {f:FuncId} {pr:Bool} {e:TypeId} (h:Ams P t name f pr=true) (hu:P.underlying t=some (.pointer e)):Meth P t name f pr e:=by
 refine⟨?_,hu⟩
 unfold Ams at h
 split at h
 ·rename_i i hi
  split at h
  ·rename_i m hm
   simp only[Bool.and_eq_true]at h
   obtain ⟨h1,h2⟩:=h
   split at h2
   ·rename_i g b hf
    simp only[Bool.and_eq_true,beq_iff_eq]at h2
    obtain ⟨h3,rfl⟩:=h2
    have h3:=Nat.eq_of_beq_eq_true h3
    subst h3
    exact⟨i,m,hi,hm,by simpa using h1,hf⟩
   ·cases h2
  ·cases h
 ·cases h
end Go.Sy
namespace Go.Sy.YtnlacjgkdjnhmaaGreat
open Go.Proofs
attribute [local irreducible] Go.Sy.G Go.Sy.DR
set_option maxRecDepth 20000
set_option maxHeartbeats 4000000
structure Item where
 (root cost dev:Int)
instance:Inhabited Item:=⟨⟨0,0,0⟩⟩
def A8 (x:Item):SV:=.agg [Aa x.root,Aa x.cost,Aa x.dev]
def Bo (x y:Item):Bool:=decide (x.root<y.root) || (x.root == y.root && decide (x.cost<y.cost))
theorem Sb (q:List Item):Sy.Spec Tryz.prog 160 [.sl 3 A8 q] [] (Aa q.length) []:=Ab Γ hm 100 F160 Tryz.ntmps160 rfl fun F hF=>by
 ((conv=>whnf);repeat((first|refine aF ?_|refine aT ?_);(first|refine rG Γ hm ?_|refine rD Γ hm qq ?_);conv=>whnf))
 exact Ac E (.cons .tmp .nil) E E
theorem Ia (q:List Item) (i j:Nat) (hi:i<q.length) (hj:j<q.length):Sy.Spec Tryz.prog 265 [.sl 3 A8 q,Aa i,Aa j] [] (Ad (Bo q[i] q[j])) []:=Ab Γ hm 100 F265 Tryz.ntmps265 rfl fun F hF=>by
 have e1:q[(i:Int).toNat]'qn=q[i]:=rfl
 have e2:q[(j:Int).toNat]'qn=q[j]:=rfl
 ((conv=>whnf);repeat((first|refine aF ?_|refine aT ?_);(first|refine rG Γ hm ?_|refine rD Γ hm qq ?_);conv=>whnf))
 (repeat' (first | (refine⟨fun h=>?_,fun h=>?_⟩<;>(repeat (first | simp only[Ag]at h | simp only[decide_eq_true_eq]at h | simp only[decide_eq_false_iff_not]at h | simp only[beq_iff_eq]at h | simp only[beq_eq_false_iff_ne]at h | simp only[bne_iff_ne]at h | simp only[bne_eq_false_iff_eq]at h | simp only[Bool.and_eq_true]at h | simp only[Bool.or_eq_true]at h | simp only[Bool.and_eq_false_iff]at h | simp only[Bool.or_eq_false_iff]at h | simp only[Bool.not_eq_true']at h | simp only[Bool.not_eq_false']at h | simp only[Bool.not_eq_eq_eq_not]at h | simp only[Bool.not_true]at h | simp only[Bool.not_false]at h))<;>((first|refine rg ?_|refine rd qq ?_);(conv=>whnf);repeat((first|refine aF ?_|refine aT ?_);(first|refine rg ?_|refine rd qq ?_);(conv=>whnf)))) | (refine Ac rfl (.cons .tmp .nil) ?_ rfl) | (refine⟨qq,?_⟩;((conv=>whnf);repeat((first|refine aF ?_|refine aT ?_);(first|refine rg ?_|refine rd qq ?_);(conv=>whnf)))) | (refine⟨by (first | (unfold I64;omega) | omega | (simp only[Int.toNat_natCast];omega) | done),by (first | (unfold I64;omega) | omega | (simp only[Int.toNat_natCast];omega) | done),?_⟩;((conv=>whnf);repeat((first|refine aF ?_|refine aT ?_);(first|refine rg ?_|refine rd qq ?_);(conv=>whnf)))) | (refine⟨by (first | (unfold I64;omega) | omega | (simp only[Int.toNat_natCast];omega) | done),?_⟩;((conv=>whnf);repeat((first|refine aF ?_|refine aT ?_);(first|refine rg ?_|refine rd qq ?_);(conv=>whnf))))))
 all_goals (refine congrArg Ad ?_;clear hF;grind [Bo])
theorem H9 (q:List Item) (i j:Nat) (hi:i<q.length) (hj:j<q.length):Sy.Spec Tryz.prog 268 [.osl 0,Aa i,Aa j] [(0,.row 3 A8 q)] (.tup []) [(0,.row 3 A8 ((q.set i q[j]).set j q[i]))]:=Ab Γ hm 100 F268 Tryz.ntmps268 rfl fun F hF=>by
 have e1:q[(i:Int).toNat]'qn=q[i]:=rfl
 have e2:q[(j:Int).toNat]'qn=q[j]:=rfl
 ((conv=>whnf);repeat((first|refine aF ?_|refine aT ?_);(first|refine rG Γ hm ?_|refine rD Γ hm qq ?_);conv=>whnf))
 refine⟨by omega,by omega,?_⟩
 ((conv=>whnf);repeat((first|refine aF ?_|refine aT ?_);(first|refine rG Γ hm ?_|refine rD Γ hm qq ?_);conv=>whnf))
 refine⟨E,by omega,?_⟩
 rw[e2]
 ((conv=>whnf);repeat((first|refine aF ?_|refine aT ?_);(first|refine rG Γ hm ?_|refine rD Γ hm qq ?_);conv=>whnf))
 refine⟨by omega,by omega,?_⟩
 ((conv=>whnf);repeat((first|refine aF ?_|refine aT ?_);(first|refine rG Γ hm ?_|refine rD Γ hm qq ?_);conv=>whnf))
 refine⟨E,by omega,?_⟩
 rw[e1]
 ((conv=>whnf);repeat((first|refine aF ?_|refine aT ?_);(first|refine rG Γ hm ?_|refine rD Γ hm qq ?_);conv=>whnf))
 refine⟨by omega,by omega,?_⟩
 ((conv=>whnf);repeat((first|refine aF ?_|refine aT ?_);(first|refine rG Γ hm ?_|refine rD Γ hm qq ?_);conv=>whnf))
 refine⟨E,by omega,q[j],E,E,?_⟩
 ((conv=>whnf);repeat((first|refine aF ?_|refine aT ?_);(first|refine rG Γ hm ?_|refine rD Γ hm qq ?_);conv=>whnf))
 refine⟨by omega,by simp;omega,?_⟩
 ((conv=>whnf);repeat((first|refine aF ?_|refine aT ?_);(first|refine rG Γ hm ?_|refine rD Γ hm qq ?_);conv=>whnf))
 refine⟨E,by simp;omega,q[i],E,E,?_⟩
 ((conv=>whnf);repeat((first|refine aF ?_|refine aT ?_);(first|refine rG Γ hm ?_|refine rD Γ hm qq ?_);conv=>whnf))
 refine⟨qq,?_⟩
 ((conv=>whnf);repeat((first|refine aF ?_|refine aT ?_);(first|refine rG Γ hm ?_|refine rD Γ hm qq ?_);conv=>whnf))
 exact Bm E .nil [] [(0,.row 3 A8 ((q.set i q[j]).set j q[i]))] (fun _ h=>h) E E ⟨Y,⟨.inl E,E,Y⟩,E,E⟩
theorem Add (q:List Item) (x:Item) (hq:q.length<1000000):Sy.Spec Tryz.prog 267 [.ptr 0 0,.ifc 280 (A8 x)] [(0,.box [.osl 1]),(1,.row 3 A8 q)] (.tup []) [(0,.box [.osl 2]),(1,.non),(2,.row 3 A8 (q++[x]))]:=Ab Γ hm 100 F267 Tryz.ntmps267 rfl fun F hF=>by
 ((conv=>whnf);repeat((first|refine aF ?_|refine aT ?_);(first|refine rG Γ hm ?_|refine rD Γ hm qq ?_);conv=>whnf))
 refine Ai (Td Γ.toTy E E E E) E E ?_
 ((first|refine rG Γ hm ?_|refine rD Γ hm qq ?_);(conv=>whnf);repeat((first|refine aF ?_|refine aT ?_);(first|refine rG Γ hm ?_|refine rD Γ hm qq ?_);conv=>whnf))
 refine Bv (Al Γ.toTy 18 E E E E E (.row E) (.lit (l:=[x]) E E) qy (by simp;omega) (by simp;omega)) qq E ?_
 ((first|refine rG Γ hm ?_|refine rD Γ hm qq ?_);(conv=>whnf);repeat((first|refine aF ?_|refine aT ?_);(first|refine rG Γ hm ?_|refine rD Γ hm qq ?_);conv=>whnf))
 refine⟨qq,?_⟩
 ((conv=>whnf);repeat((first|refine aF ?_|refine aT ?_);(first|refine rG Γ hm ?_|refine rD Γ hm qq ?_);conv=>whnf))
 exact Bm E .nil [(2,18)] [(0,.box [.osl 2]),(1,.non),(2,.row 3 A8 (q++[x]))] (fun _ h=>h) E E ⟨Y,⟨.inl E,E,.inl E,E,.inl E,E,Y⟩,E,E⟩
theorem Agr (q:List Item) (hq:q≠[]) (hl:q.length<1000000):Sy.Spec Tryz.prog 266 [.ptr 0 0] [(0,.box [.osl 1]),(1,.row 3 A8 q)] (.ifc 280 (A8 (q.getLast hq))) [(0,.box [.osl 2]),(1,.non),(2,.row 3 A8 q.dropLast)]:=Ab Γ hm 100 F266 Tryz.ntmps266 rfl fun F hF=>by
 have h0:0<q.length:=List.length_pos_iff.2 hq
 have e1:q[((q.length:Int)-1).toNat]'qn=q.getLast hq:=by
  rw[List.getLast_eq_getElem]
  congr 1
  omega
 ((conv=>whnf);repeat((first|refine aF ?_|refine aT ?_);(first|refine rG Γ hm ?_|refine rD Γ hm qq ?_);conv=>whnf))
 refine⟨by unfold I64;omega,?_⟩
 ((conv=>whnf);repeat((first|refine aF ?_|refine aT ?_);(first|refine rG Γ hm ?_|refine rD Γ hm qq ?_);conv=>whnf))
 refine⟨by omega,by omega,?_⟩
 ((conv=>whnf);repeat((first|refine aF ?_|refine aT ?_);(first|refine rG Γ hm ?_|refine rD Γ hm qq ?_);conv=>whnf))
 refine⟨E,by omega,?_⟩
 rw[e1]
 ((conv=>whnf);repeat((first|refine aF ?_|refine aT ?_);(first|refine rG Γ hm ?_|refine rD Γ hm qq ?_);conv=>whnf))
 refine⟨qq,?_⟩
 ((conv=>whnf);repeat((first|refine aF ?_|refine aT ?_);(first|refine rG Γ hm ?_|refine rD Γ hm qq ?_);conv=>whnf))
 refine⟨by unfold I64;omega,?_⟩
 ((conv=>whnf);repeat((first|refine aF ?_|refine aT ?_);(first|refine rG Γ hm ?_|refine rD Γ hm qq ?_);conv=>whnf))
 refine Bv (Vz Γ.toTy (d:=23) (hi:=q.length-1) E E E E E qx E (.inl ⟨E,E⟩) (.inr ⟨_,_,E,congrArg (fun z=>SV.val (.int .i64 z)) qn⟩) qn) qq E ?_
 rw[← List.dropLast_eq_take]
 ((first|refine rG Γ hm ?_|refine rD Γ hm qq ?_);(conv=>whnf);repeat((first|refine aF ?_|refine aT ?_);(first|refine rG Γ hm ?_|refine rD Γ hm qq ?_);conv=>whnf))
 refine⟨qq,?_⟩
 ((conv=>whnf);repeat((first|refine aF ?_|refine aT ?_);(first|refine rG Γ hm ?_|refine rD Γ hm qq ?_);conv=>whnf))
 exact done E (.cons .tmp .nil) [(2,23)] [(0,.box [.osl 2]),(1,.non),(2,.row 3 A8 q.dropLast)] (fun _ h=>h) E E ⟨Y,⟨.inl E,E,.inl E,E,.inl E,E,Y⟩,E,E⟩
end Go.Sy.YtnlacjgkdjnhmaaGreat
namespace Go.Sy.YtnlacjgkdjnhmaaGreat
open Go.Proofs
attribute [local irreducible] Go.Sy.G Go.Sy.DR
set_option maxRecDepth 100000
set_option maxHeartbeats 4000000
theorem mLen : Meth Tryz.prog 275 "Len" 160 false 277 := .of (by kernel_rfl) Tryz.underlying275
theorem Abe : Meth Tryz.prog 275 "Less" 265 false 277 := .of (by kernel_rfl) Tryz.underlying275
theorem Abd : Meth Tryz.prog 275 "Swap" 268 false 277 := .of (by kernel_rfl) Tryz.underlying275
theorem mPush : Meth Tryz.prog 275 "Push" 267 true 277 := .of (by kernel_rfl) Tryz.underlying275
theorem mPop : Meth Tryz.prog 275 "Pop" 266 true 277 := .of (by kernel_rfl) Tryz.underlying275
def C4 (q:List Item) (i j:Nat):List Item:=(q.set i (q.getD j default)).set j (q.getD i default)
theorem Aw (q:List Item) (i j:Nat):(C4 q i j).length=q.length:=by simp[C4]
def upF:Nat→List Item→Nat→List Item
 | 0,q,_=>q
 | n+1,q,j=>if j=0 then q else if Bo (q.getD j default) (q.getD ((j-1) / 2) default) then upF n (C4 q ((j-1) / 2) j) ((j-1) / 2) else q
theorem Aad:∀ (n m:Nat) (q:List Item) (j:Nat),j≤n→j≤m→upF n q j=upF m q j
 | 0,m,q,j,h,_=>by
  have:j=0:=by omega
  subst this
  cases m<;>simp[upF]
 | n+1,0,q,j,_,h=>by
  have:j=0:=by omega
  subst this
  simp[upF]
 | n+1,m+1,q,j,h1,h2=>by
  rw[upF,upF]
  split
  ·rfl
  ·split
   ·exact Aad n m _ _ qn qn
   ·rfl
theorem Ah6 (r:List Item):∀ (i:Nat),i≠0→upF i r i=if Bo (r.getD i default) (r.getD ((i-1) / 2) default) then upF ((i-1) / 2) (C4 r ((i-1) / 2) i) ((i-1) / 2) else r
 | 0,h=>absurd rfl h
 | m+1,_=>by
  rw[upF,if_neg qn]
  split
  ·exact Aad _ _ _ _ qn qn
  ·rfl
theorem upS (q:List Item) (j:Nat) (hj:j<q.length) (hl:q.length<1000000) :
  Sy.Spec Tryz.prog 203 [.ifc 275 (.ptr 0 0),Aa j] [(0,.box [.osl 1]),(1,.row 3 A8 q)] (.tup []) [(0,.box [.osl 1]),(1,.row 3 A8 (upF j q j))]:=Ab Γ hm 100 F203 Tryz.ntmps203 rfl fun F hF=>by
 ((conv=>whnf);repeat((first|refine aF ?_|refine aT ?_);(first|refine rG Γ hm ?_|refine rD Γ hm qq ?_);conv=>whnf))
 refine Ln (α:={p:List Item × Nat // upF p.2 p.1 p.2=upF j q j∧p.1.length=q.length∧p.2<p.1.length}) (fun p=>[(0,.ifc 275 (.ptr 0 0)),(1,Aa p.1.2)]) (fun p=>[(0,.box [.osl 1]),(1,.row 3 A8 p.1.1)]) (fun p=>p.1.2) ⟨(q,j),E,E,hj⟩ []
  ⟨⟨rfl,rfl,rfl,rfl,trivial⟩,⟨.inl rfl,rfl,.inl rfl,rfl,trivial⟩,rfl,rfl⟩ ?_
 rintro ⟨⟨r,i⟩,h1,h2,h3⟩
 simp only at h1 h2 h3
 dsimp only
 have hw:IntKind.i64.wrap (((i:Int)-1).tdiv 2)=(((i-1) / 2:Nat):Int):=by
  rcases Nat.eq_zero_or_pos i with h0 | h0
  ·subst h0;rfl
  ·have:((i:Int)-1)=((i-1:Nat):Int):=by omega
   rw[this,Int.tdiv_eq_ediv_of_nonneg qn,IntKind.wrap_i64]
   omega
 ((first|refine rG Γ hm ?_|refine rD Γ hm qq ?_);(conv=>whnf);repeat((first|refine aF ?_|refine aT ?_);(first|refine rG Γ hm ?_|refine rD Γ hm qq ?_);conv=>whnf))
 refine⟨by unfold I64;omega,?_⟩
 ((conv=>whnf);repeat((first|refine aF ?_|refine aT ?_);(first|refine rG Γ hm ?_|refine rD Γ hm qq ?_);conv=>whnf))
 refine⟨by decide,?_⟩
 rw[hw]
 ((conv=>whnf);repeat((first|refine aF ?_|refine aT ?_);(first|refine rG Γ hm ?_|refine rD Γ hm qq ?_);conv=>whnf))
 refine⟨fun h=>?_,fun h=>?_⟩
 ·have h0:i=0:=by
   have:(((i-1) / 2:Nat):Int)=i:=by simpa using h
   omega
  subst h0
  have e:upF j q j=r:=by rw[← h1];rfl
  rw[e]
  ((first|refine rG Γ hm ?_|refine rD Γ hm qq ?_);(conv=>whnf);repeat((first|refine aF ?_|refine aT ?_);(first|refine rG Γ hm ?_|refine rD Γ hm qq ?_);conv=>whnf))
  exact Bm E .nil [] [(0,.box [.osl 1]),(1,.row 3 A8 r)] (fun _ h=>h) E E ⟨Y,⟨.inl E,E,.inl E,E,Y⟩,E,E⟩
 have h0:i≠0:=by
  intro h0
  subst h0
  exact absurd h qx
 have hp:(i-1) / 2<r.length:=by omega
 have hless:=Ia r i ((i-1) / 2) h3 hp
 ((first|refine rG Γ hm ?_|refine rD Γ hm qq ?_);(conv=>whnf);repeat((first|refine aF ?_|refine aT ?_);(first|refine rG Γ hm ?_|refine rD Γ hm qq ?_);conv=>whnf))
 refine Ai (Da [1] (A6 Γ.toTy Abe F265 E E E E E) hless (.cons (.row E E) (.cons (.refl _) (.cons (.refl _) .nil))) E E) E E ?_
 ((first|refine rG Γ hm ?_|refine rD Γ hm qq ?_);(conv=>whnf);repeat((first|refine aF ?_|refine aT ?_);(first|refine rG Γ hm ?_|refine rD Γ hm qq ?_);conv=>whnf))
 have hu:upF i r i=if Bo r[i] r[(i-1) / 2] then upF ((i-1) / 2) (C4 r ((i-1) / 2) i) ((i-1) / 2) else r:=by
  rw[Ah6 r i h0,Az h3,Az hp]
 refine⟨fun h=>?_,fun h=>?_⟩
 ·have hlt:Bo r[i] r[(i-1) / 2]=false:=by simpa using h
  have e:upF j q j=r:=by rw[← h1,hu,hlt];rfl
  rw[e]
  ((first|refine rG Γ hm ?_|refine rD Γ hm qq ?_);(conv=>whnf);repeat((first|refine aF ?_|refine aT ?_);(first|refine rG Γ hm ?_|refine rD Γ hm qq ?_);conv=>whnf))
  exact Bm E .nil [] [(0,.box [.osl 1]),(1,.row 3 A8 r)] (fun _ h=>h) E E ⟨Y,⟨.inl E,E,.inl E,E,Y⟩,E,E⟩
 have hlt:Bo r[i] r[(i-1) / 2]=true:=by simpa using h
 rw[hlt,if_pos rfl]at hu
 have hsw:=H9 r ((i-1) / 2) i hp h3
 have e:(r.set ((i-1) / 2) r[i]).set i r[(i-1) / 2]=C4 r ((i-1) / 2) i:=by
  rw[C4,Az h3,Az hp]
 rw[e]at hsw
 ((first|refine rG Γ hm ?_|refine rD Γ hm qq ?_);(conv=>whnf);repeat((first|refine aF ?_|refine aT ?_);(first|refine rG Γ hm ?_|refine rD Γ hm qq ?_);conv=>whnf))
 refine Ai (Cn [(0,1)] (A6 Γ.toTy Abd F268 E E E E E) hsw E ⟨E,Y⟩ E ⟨.inl E,Y⟩) E E ?_
 ((first|refine rG Γ hm ?_|refine rD Γ hm qq ?_);(conv=>whnf);repeat((first|refine aF ?_|refine aT ?_);(first|refine rG Γ hm ?_|refine rD Γ hm qq ?_);conv=>whnf))
 exact M2 (α:={p:List Item × Nat // upF p.2 p.1 p.2=upF j q j∧p.1.length=q.length∧p.2<p.1.length}) (L:=fun p=>[(0,.ifc 275 (.ptr 0 0)),(1,Aa p.1.2)]) (O:=fun p=>[(0,.box [.osl 1]),(1,.row 3 A8 p.1.1)]) (μ:=fun p=>p.1.2) (x:=⟨(r,i),h1,h2,h3⟩)
  ⟨(C4 r ((i-1) / 2) i,(i-1) / 2),by rw[← h1,hu],by rw[Aw];exact h2,by rw[Aw];exact hp⟩ [] (by simp only;omega)
  ⟨⟨rfl,rfl,rfl,rfl,trivial⟩,⟨.inl rfl,rfl,.inl rfl,rfl,trivial⟩,rfl,rfl⟩
theorem Ug:∀ (n:Nat) (q:List Item) (j:Nat),(upF n q j).length=q.length
 | 0,q,j=>rfl
 | n+1,q,j=>by
  rw[upF]
  split
  ·rfl
  ·split
   ·rw[Ug n,Aw]
   ·rfl
def Mm (q:List Item) (x:Item):List Item:=upF q.length (q++[x]) q.length
theorem X1 (q:List Item) (x:Item) (hl:q.length<999999) :
  Sy.Spec Tryz.prog 159 [.ifc 275 (.ptr 0 0),.ifc 280 (A8 x)] [(0,.box [.osl 1]),(1,.row 3 A8 q)] (.tup []) [(0,.box [.osl 2]),(1,.non),(2,.row 3 A8 (Mm q x))]:=Ab Γ hm 100 F159 Tryz.ntmps159 rfl fun F hF=>by
 have hpush:=Add q x qn
 have hlen:=Sb (q++[x])
 have hup:=upS (q++[x]) q.length qy (by simp;omega)
 have hln:(((q++[x]).length:Nat):Int)-1=(q.length:Int):=by simp
 ((conv=>whnf);repeat((first|refine aF ?_|refine aT ?_);(first|refine rG Γ hm ?_|refine rD Γ hm qq ?_);conv=>whnf))
 refine Ai (Cn (rd:=[]) [(2,6)] (Mz mPush F267 E E) hpush E ⟨E,E,Y⟩ E ⟨.inl E,.inl E,.inr E,Y⟩) E E ?_
 ((first|refine rG Γ hm ?_|refine rD Γ hm qq ?_);(conv=>whnf);repeat((first|refine aF ?_|refine aT ?_);(first|refine rG Γ hm ?_|refine rD Γ hm qq ?_);conv=>whnf))
 refine Ai (Da [6] (A6 Γ.toTy mLen F160 E E E E E) hlen (.cons (.row E E) .nil) E E) E E ?_
 ((first|refine rG Γ hm ?_|refine rD Γ hm qq ?_);(conv=>whnf);repeat((first|refine aF ?_|refine aT ?_);(first|refine rG Γ hm ?_|refine rD Γ hm qq ?_);conv=>whnf))
 refine⟨by unfold I64;simp;omega,?_⟩
 rw[hln]
 ((conv=>whnf);repeat((first|refine aF ?_|refine aT ?_);(first|refine rG Γ hm ?_|refine rD Γ hm qq ?_);conv=>whnf))
 refine Ai (Aj [(1,6)] E F203 hup E ⟨E,E,Y⟩ E ⟨.inl E,.inl E,Y⟩) E E ?_
 ((first|refine rG Γ hm ?_|refine rD Γ hm qq ?_);(conv=>whnf);repeat((first|refine aF ?_|refine aT ?_);(first|refine rG Γ hm ?_|refine rD Γ hm qq ?_);conv=>whnf))
 exact Bm E .nil [(2,6)] [(0,.box [.osl 2]),(1,.non),(2,.row 3 A8 (Mm q x))] (fun _ h=>h) E E ⟨Y,⟨.inl E,E,.inl E,E,.inl E,E,Y⟩,E,E⟩
def C0 (q:List Item) (i n:Nat):Nat:=if 2 * i+2<n∧Bo (q.getD (2 * i+2) default) (q.getD (2 * i+1) default)=true then 2 * i+2 else 2 * i+1
theorem Jp (q:List Item) (i n:Nat) (h:2 * i+1<n):C0 q i n<n∧i<C0 q i n:=by
 unfold C0
 split<;>omega
def C1:Nat→List Item→Nat→Nat→List Item × Nat
 | 0,q,i,_=>(q,i)
 | f+1,q,i,n=>if 2 * i+1<n then (if Bo (q.getD (C0 q i n) default) (q.getD i default) then C1 f (C4 q i (C0 q i n)) (C0 q i n) n else (q,i)) else (q,i)
theorem Og:∀ (f g:Nat) (q:List Item) (i n:Nat),n≤f+i→n≤g+i→C1 f q i n=C1 g q i n
 | 0,g,q,i,n,h1,h2=>by
  cases g with
  | zero=>rfl
  | succ g=>rw[C1,C1,if_neg qn]
 | f+1,0,q,i,n,h1,h2=>by rw[C1,C1,if_neg qn]
 | f+1,g+1,q,i,n,h1,h2=>by
  rw[C1,C1]
  split
  ·rename_i h
   have:=Jp q i n h
   split
   ·exact Og f g _ _ n qn qn
   ·rfl
  ·rfl
theorem Ael (r:List Item) (i n:Nat):C1 (n-i) r i n=if 2 * i+1<n then (if Bo (r.getD (C0 r i n) default) (r.getD i default) then C1 (n-C0 r i n) (C4 r i (C0 r i n)) (C0 r i n) n else (r,i)) else (r,i):=by
 rw[Og (n-i) (n-i+1) r i n qn qn,C1]
 split
 ·rename_i h
  have:=Jp r i n h
  split
  ·exact Og _ _ _ _ _ qn qn
  ·rfl
 ·rfl
theorem Qs:∀ (f:Nat) (q:List Item) (i n:Nat),(C1 f q i n).1.length=q.length
 | 0,_,_,_=>rfl
 | f+1,q,i,n=>by
  rw[C1]
  split
  ·split
   ·rw[Qs f,Aw]
   ·rfl
  ·rfl
theorem downS (q:List Item) (i0 n:Nat) (hn:n≤q.length) (hi:i0<q.length) (hl:q.length<1000000) :
  Sy.Spec Tryz.prog 204 [.ifc 275 (.ptr 0 0),Aa i0,Aa n] [(0,.box [.osl 1]),(1,.row 3 A8 q)] (Ad (decide (((C1 (n-i0) q i0 n).2:Int)>i0))) [(0,.box [.osl 1]),(1,.row 3 A8 (C1 (n-i0) q i0 n).1)]:=Ab Γ hm 100 F204 Tryz.ntmps204 rfl fun F hF=>by
 generalize hD:C1 (n-i0) q i0 n=D
 ((conv=>whnf);repeat((first|refine aF ?_|refine aT ?_);(first|refine rG Γ hm ?_|refine rD Γ hm qq ?_);conv=>whnf))
 refine Ln (α:={p:List Item × Nat // C1 (n-p.2) p.1 p.2 n=D∧p.1.length=q.length∧p.2<p.1.length}) (fun p=>[(0,.ifc 275 (.ptr 0 0)),(1,Aa i0),(2,Aa n),(7,Aa p.1.2)]) (fun p=>[(0,.box [.osl 1]),(1,.row 3 A8 p.1.1)]) (fun p=>n-p.1.2) ⟨(q,i0),hD,E,hi⟩ []
  ⟨⟨rfl,rfl,rfl,rfl,rfl,rfl,rfl,rfl,trivial⟩,⟨.inl rfl,rfl,.inl rfl,rfl,trivial⟩,rfl,rfl⟩ ?_
 rintro ⟨⟨r,i⟩,h1,h2,h3⟩
 simp only at h1 h2 h3
 dsimp only
 have h10:=h1
 rw[Ael]at h1
 have hj1:(2:Int) * i+1=((2 * i+1:Nat):Int):=by omega
 have hj2:((2 * i+1:Nat):Int)+1=((2 * i+2:Nat):Int):=by omega
 ((first|refine rG Γ hm ?_|refine rD Γ hm qq ?_);(conv=>whnf);repeat((first|refine aF ?_|refine aT ?_);(first|refine rG Γ hm ?_|refine rD Γ hm qq ?_);conv=>whnf))
 refine⟨by unfold I64;omega,?_⟩
 ((conv=>whnf);repeat((first|refine aF ?_|refine aT ?_);(first|refine rG Γ hm ?_|refine rD Γ hm qq ?_);conv=>whnf))
 refine⟨by unfold I64;omega,?_⟩
 rw[hj1]
 ((conv=>whnf);repeat((first|refine aF ?_|refine aT ?_);(first|refine rG Γ hm ?_|refine rD Γ hm qq ?_);conv=>whnf))
 refine⟨fun h=>?_,fun h=>?_⟩
 ·have hge:¬ 2 * i+1<n:=by have:=of_decide_eq_true h;omega
  rw[if_neg hge]at h1
  rw[← h1]
  ((first|refine rG Γ hm ?_|refine rD Γ hm qq ?_);(conv=>whnf);repeat((first|refine aF ?_|refine aT ?_);(first|refine rG Γ hm ?_|refine rD Γ hm qq ?_);conv=>whnf))
  exact done E (.cons .tmp .nil) [] [(0,.box [.osl 1]),(1,.row 3 A8 r)] (fun _ h=>h) E E ⟨Y,⟨.inl E,E,.inl E,E,Y⟩,E,E⟩
 have hlt:2 * i+1<n:=by have:=of_decide_eq_false h;omega
 rw[if_pos hlt]at h1
 ((first|refine rG Γ hm ?_|refine rD Γ hm qq ?_);(conv=>whnf);repeat((first|refine aF ?_|refine aT ?_);(first|refine rG Γ hm ?_|refine rD Γ hm qq ?_);conv=>whnf))
 refine⟨by unfold I64;omega,?_⟩
 rw[hj2]
 ((conv=>whnf);repeat((first|refine aF ?_|refine aT ?_);(first|refine rG Γ hm ?_|refine rD Γ hm qq ?_);conv=>whnf))
 refine⟨fun h=>?_,fun h=>?_⟩
 ·have h2n:2 * i+2<n:=by have:=of_decide_eq_true h;omega
  have hA:2 * i+2<r.length:=by omega
  have hB:2 * i+1<r.length:=by omega
  have hlc:=Ia r (2 * i+2) (2 * i+1) hA hB
  ((first|refine rG Γ hm ?_|refine rD Γ hm qq ?_);(conv=>whnf);repeat((first|refine aF ?_|refine aT ?_);(first|refine rG Γ hm ?_|refine rD Γ hm qq ?_);conv=>whnf))
  refine Ai (Da [1] (A6 Γ.toTy Abe F265 E E E E E) hlc (.cons (.row E E) (.cons (.refl _) (.cons (.refl _) .nil))) E E) E E ?_
  ((first|refine rG Γ hm ?_|refine rD Γ hm qq ?_);(conv=>whnf);repeat((first|refine aF ?_|refine aT ?_);(first|refine rG Γ hm ?_|refine rD Γ hm qq ?_);conv=>whnf))
  refine⟨fun h=>?_,fun h=>?_⟩
  ·have hc:C0 r i n=2 * i+2:=by rw[C0,if_pos ⟨h2n,by rw[Az hA,Az hB];exact h⟩]
   have hJ:=hA
   ((first|refine rG Γ hm ?_|refine rD Γ hm qq ?_);(conv=>whnf);repeat((first|refine aF ?_|refine aT ?_);(first|refine rG Γ hm ?_|refine rD Γ hm qq ?_);conv=>whnf))
   rw[hc,Az hJ,Az h3]at h1
   have hls:=Ia r (2 * i+2) i hJ h3
   refine Ai (Da [1] (A6 Γ.toTy Abe F265 E E E E E) hls (.cons (.row E E) (.cons (.refl _) (.cons (.refl _) .nil))) E E) E E ?_
   ((first|refine rG Γ hm ?_|refine rD Γ hm qq ?_);(conv=>whnf);repeat((first|refine aF ?_|refine aT ?_);(first|refine rG Γ hm ?_|refine rD Γ hm qq ?_);conv=>whnf))
   refine⟨fun h=>?_,fun h=>?_⟩
   ·have hf:Bo r[2 * i+2] r[i]=false:=by simpa using h
    rw[hf]at h1
    have e:D=(r,i):=h1.symm
    rw[e]
    ((first|refine rG Γ hm ?_|refine rD Γ hm qq ?_);(conv=>whnf);repeat((first|refine aF ?_|refine aT ?_);(first|refine rG Γ hm ?_|refine rD Γ hm qq ?_);conv=>whnf))
    exact done E (.cons .tmp .nil) [] [(0,.box [.osl 1]),(1,.row 3 A8 r)] (fun _ h=>h) E E ⟨Y,⟨.inl E,E,.inl E,E,Y⟩,E,E⟩
   have hf:Bo r[2 * i+2] r[i]=true:=by simpa using h
   rw[hf,if_pos rfl]at h1
   have hsw:=H9 r i (2 * i+2) h3 hJ
   have e:(r.set i r[2 * i+2]).set (2 * i+2) r[i]=C4 r i (2 * i+2):=by
    rw[C4,Az h3,Az hJ]
   rw[e]at hsw
   ((first|refine rG Γ hm ?_|refine rD Γ hm qq ?_);(conv=>whnf);repeat((first|refine aF ?_|refine aT ?_);(first|refine rG Γ hm ?_|refine rD Γ hm qq ?_);conv=>whnf))
   refine Ai (Cn [(0,1)] (A6 Γ.toTy Abd F268 E E E E E) hsw E ⟨E,Y⟩ E ⟨.inl E,Y⟩) E E ?_
   ((first|refine rG Γ hm ?_|refine rD Γ hm qq ?_);(conv=>whnf);repeat((first|refine aF ?_|refine aT ?_);(first|refine rG Γ hm ?_|refine rD Γ hm qq ?_);conv=>whnf))
   exact M2 (α:={p:List Item × Nat // C1 (n-p.2) p.1 p.2 n=D∧p.1.length=q.length∧p.2<p.1.length}) (L:=fun p=>[(0,.ifc 275 (.ptr 0 0)),(1,Aa i0),(2,Aa n),(7,Aa p.1.2)]) (O:=fun p=>[(0,.box [.osl 1]),(1,.row 3 A8 p.1.1)]) (μ:=fun p=>n-p.1.2) (x:=⟨(r,i),h10,h2,h3⟩)
    ⟨(C4 r i (2 * i+2),2 * i+2),h1,by rw[Aw];exact h2,by rw[Aw];exact hJ⟩ [] (by simp only;omega)
    ⟨⟨rfl,rfl,rfl,rfl,rfl,rfl,rfl,rfl,trivial⟩,⟨.inl rfl,rfl,.inl rfl,rfl,trivial⟩,rfl,rfl⟩
  ·have hc:C0 r i n=2 * i+1:=by rw[C0,if_neg (fun hh=>by rw[Az hA,Az hB,h]at hh;exact absurd hh.2 qy)]
   have hJ:=hB
   ((first|refine rG Γ hm ?_|refine rD Γ hm qq ?_);(conv=>whnf);repeat((first|refine aF ?_|refine aT ?_);(first|refine rG Γ hm ?_|refine rD Γ hm qq ?_);conv=>whnf))
   rw[hc,Az hJ,Az h3]at h1
   have hls:=Ia r (2 * i+1) i hJ h3
   refine Ai (Da [1] (A6 Γ.toTy Abe F265 E E E E E) hls (.cons (.row E E) (.cons (.refl _) (.cons (.refl _) .nil))) E E) E E ?_
   ((first|refine rG Γ hm ?_|refine rD Γ hm qq ?_);(conv=>whnf);repeat((first|refine aF ?_|refine aT ?_);(first|refine rG Γ hm ?_|refine rD Γ hm qq ?_);conv=>whnf))
   refine⟨fun h=>?_,fun h=>?_⟩
   ·have hf:Bo r[2 * i+1] r[i]=false:=by simpa using h
    rw[hf]at h1
    have e:D=(r,i):=h1.symm
    rw[e]
    ((first|refine rG Γ hm ?_|refine rD Γ hm qq ?_);(conv=>whnf);repeat((first|refine aF ?_|refine aT ?_);(first|refine rG Γ hm ?_|refine rD Γ hm qq ?_);conv=>whnf))
    exact done E (.cons .tmp .nil) [] [(0,.box [.osl 1]),(1,.row 3 A8 r)] (fun _ h=>h) E E ⟨Y,⟨.inl E,E,.inl E,E,Y⟩,E,E⟩
   have hf:Bo r[2 * i+1] r[i]=true:=by simpa using h
   rw[hf,if_pos rfl]at h1
   have hsw:=H9 r i (2 * i+1) h3 hJ
   have e:(r.set i r[2 * i+1]).set (2 * i+1) r[i]=C4 r i (2 * i+1):=by
    rw[C4,Az h3,Az hJ]
   rw[e]at hsw
   ((first|refine rG Γ hm ?_|refine rD Γ hm qq ?_);(conv=>whnf);repeat((first|refine aF ?_|refine aT ?_);(first|refine rG Γ hm ?_|refine rD Γ hm qq ?_);conv=>whnf))
   refine Ai (Cn [(0,1)] (A6 Γ.toTy Abd F268 E E E E E) hsw E ⟨E,Y⟩ E ⟨.inl E,Y⟩) E E ?_
   ((first|refine rG Γ hm ?_|refine rD Γ hm qq ?_);(conv=>whnf);repeat((first|refine aF ?_|refine aT ?_);(first|refine rG Γ hm ?_|refine rD Γ hm qq ?_);conv=>whnf))
   exact M2 (α:={p:List Item × Nat // C1 (n-p.2) p.1 p.2 n=D∧p.1.length=q.length∧p.2<p.1.length}) (L:=fun p=>[(0,.ifc 275 (.ptr 0 0)),(1,Aa i0),(2,Aa n),(7,Aa p.1.2)]) (O:=fun p=>[(0,.box [.osl 1]),(1,.row 3 A8 p.1.1)]) (μ:=fun p=>n-p.1.2) (x:=⟨(r,i),h10,h2,h3⟩)
    ⟨(C4 r i (2 * i+1),2 * i+1),h1,by rw[Aw];exact h2,by rw[Aw];exact hJ⟩ [] (by simp only;omega)
    ⟨⟨rfl,rfl,rfl,rfl,rfl,rfl,rfl,rfl,trivial⟩,⟨.inl rfl,rfl,.inl rfl,rfl,trivial⟩,rfl,rfl⟩
 ·have h2n:¬ 2 * i+2<n:=by have:=of_decide_eq_false h;omega
  have hJ:2 * i+1<r.length:=by omega
  have hc:C0 r i n=2 * i+1:=by rw[C0,if_neg (fun hh=>h2n hh.1)]
  ((first|refine rG Γ hm ?_|refine rD Γ hm qq ?_);(conv=>whnf);repeat((first|refine aF ?_|refine aT ?_);(first|refine rG Γ hm ?_|refine rD Γ hm qq ?_);conv=>whnf))
  rw[hc,Az hJ,Az h3]at h1
  have hls:=Ia r (2 * i+1) i hJ h3
  refine Ai (Da [1] (A6 Γ.toTy Abe F265 E E E E E) hls (.cons (.row E E) (.cons (.refl _) (.cons (.refl _) .nil))) E E) E E ?_
  ((first|refine rG Γ hm ?_|refine rD Γ hm qq ?_);(conv=>whnf);repeat((first|refine aF ?_|refine aT ?_);(first|refine rG Γ hm ?_|refine rD Γ hm qq ?_);conv=>whnf))
  refine⟨fun h=>?_,fun h=>?_⟩
  ·have hf:Bo r[2 * i+1] r[i]=false:=by simpa using h
   rw[hf]at h1
   have e:D=(r,i):=h1.symm
   rw[e]
   ((first|refine rG Γ hm ?_|refine rD Γ hm qq ?_);(conv=>whnf);repeat((first|refine aF ?_|refine aT ?_);(first|refine rG Γ hm ?_|refine rD Γ hm qq ?_);conv=>whnf))
   exact done E (.cons .tmp .nil) [] [(0,.box [.osl 1]),(1,.row 3 A8 r)] (fun _ h=>h) E E ⟨Y,⟨.inl E,E,.inl E,E,Y⟩,E,E⟩
  have hf:Bo r[2 * i+1] r[i]=true:=by simpa using h
  rw[hf,if_pos rfl]at h1
  have hsw:=H9 r i (2 * i+1) h3 hJ
  have e:(r.set i r[2 * i+1]).set (2 * i+1) r[i]=C4 r i (2 * i+1):=by
   rw[C4,Az h3,Az hJ]
  rw[e]at hsw
  ((first|refine rG Γ hm ?_|refine rD Γ hm qq ?_);(conv=>whnf);repeat((first|refine aF ?_|refine aT ?_);(first|refine rG Γ hm ?_|refine rD Γ hm qq ?_);conv=>whnf))
  refine Ai (Cn [(0,1)] (A6 Γ.toTy Abd F268 E E E E E) hsw E ⟨E,Y⟩ E ⟨.inl E,Y⟩) E E ?_
  ((first|refine rG Γ hm ?_|refine rD Γ hm qq ?_);(conv=>whnf);repeat((first|refine aF ?_|refine aT ?_);(first|refine rG Γ hm ?_|refine rD Γ hm qq ?_);conv=>whnf))
  exact M2 (α:={p:List Item × Nat // C1 (n-p.2) p.1 p.2 n=D∧p.1.length=q.length∧p.2<p.1.length}) (L:=fun p=>[(0,.ifc 275 (.ptr 0 0)),(1,Aa i0),(2,Aa n),(7,Aa p.1.2)]) (O:=fun p=>[(0,.box [.osl 1]),(1,.row 3 A8 p.1.1)]) (μ:=fun p=>n-p.1.2) (x:=⟨(r,i),h10,h2,h3⟩)
   ⟨(C4 r i (2 * i+1),2 * i+1),h1,by rw[Aw];exact h2,by rw[Aw];exact hJ⟩ [] (by simp only;omega)
   ⟨⟨rfl,rfl,rfl,rfl,rfl,rfl,rfl,rfl,trivial⟩,⟨.inl rfl,rfl,.inl rfl,rfl,trivial⟩,rfl,rfl⟩
def Cd (q:List Item):List Item:=(C1 (q.length-1-0) (C4 q 0 (q.length-1)) 0 (q.length-1)).1
theorem C9 (q:List Item):(Cd q).length=q.length:=by rw[Cd,Qs,Aw]
theorem C3 {q:List Item} (h:q≠[]):Cd q≠[]:=fun e=>h (List.eq_nil_of_length_eq_zero (by rw[← C9,e];rfl))
theorem Aj4 (q:List Item) (hq:q≠[]) (hl:q.length<1000000) :
  Sy.Spec Tryz.prog 161 [.ifc 275 (.ptr 0 0)] [(0,.box [.osl 1]),(1,.row 3 A8 q)] (.ifc 280 (A8 ((Cd q).getLast (C3 hq)))) [(0,.box [.osl 2]),(1,.non),(2,.row 3 A8 (Cd q).dropLast)]:=Ab Γ hm 100 F161 Tryz.ntmps161 rfl fun F hF=>by
 have h0:0<q.length:=List.length_pos_iff.2 hq
 have hlen:=Sb q
 have hsw:=H9 q 0 (q.length-1) h0 qn
 have e:(q.set 0 q[q.length-1]).set (q.length-1) q[0]=C4 q 0 (q.length-1):=by
  rw[C4,Az (show q.length-1<q.length by omega),Az h0]
 rw[e]at hsw
 have hdn:=downS (C4 q 0 (q.length-1)) 0 (q.length-1) (by rw[Aw];omega) (by rw[Aw];exact h0) (by rw[Aw];exact hl)
 have hpop:=Agr (Cd q) (C3 hq) (by rw[C9];exact hl)
 have hln:(q.length:Int)-1=((q.length-1:Nat):Int):=by omega
 ((conv=>whnf);repeat((first|refine aF ?_|refine aT ?_);(first|refine rG Γ hm ?_|refine rD Γ hm qq ?_);conv=>whnf))
 refine Ai (Da [1] (A6 Γ.toTy mLen F160 E E E E E) hlen (.cons (.row E E) .nil) E E) E E ?_
 ((first|refine rG Γ hm ?_|refine rD Γ hm qq ?_);(conv=>whnf);repeat((first|refine aF ?_|refine aT ?_);(first|refine rG Γ hm ?_|refine rD Γ hm qq ?_);conv=>whnf))
 refine⟨by unfold I64;omega,?_⟩
 rw[hln]
 ((conv=>whnf);repeat((first|refine aF ?_|refine aT ?_);(first|refine rG Γ hm ?_|refine rD Γ hm qq ?_);conv=>whnf))
 refine Ai (Cn [(0,1)] (A6 Γ.toTy Abd F268 E E E E E) hsw E ⟨E,Y⟩ E ⟨.inl E,Y⟩) E E ?_
 ((first|refine rG Γ hm ?_|refine rD Γ hm qq ?_);(conv=>whnf);repeat((first|refine aF ?_|refine aT ?_);(first|refine rG Γ hm ?_|refine rD Γ hm qq ?_);conv=>whnf))
 refine Ai (Aj [] E F204 hdn E ⟨E,E,Y⟩ E ⟨.inl E,.inl E,Y⟩) E E ?_
 ((first|refine rG Γ hm ?_|refine rD Γ hm qq ?_);(conv=>whnf);repeat((first|refine aF ?_|refine aT ?_);(first|refine rG Γ hm ?_|refine rD Γ hm qq ?_);conv=>whnf))
 refine Ai (Cn (rd:=[]) [(2,14)] (Mz mPop F266 E E) hpop E ⟨E,E,Y⟩ E ⟨.inl E,.inl E,.inr E,Y⟩) E E ?_
 ((first|refine rG Γ hm ?_|refine rD Γ hm qq ?_);(conv=>whnf);repeat((first|refine aF ?_|refine aT ?_);(first|refine rG Γ hm ?_|refine rD Γ hm qq ?_);conv=>whnf))
 exact done E (.cons .tmp .nil) [(2,14)] [(0,.box [.osl 2]),(1,.non),(2,.row 3 A8 (Cd q).dropLast)] (fun _ h=>h) E E ⟨Y,⟨.inl E,E,.inl E,E,.inl E,E,Y⟩,E,E⟩
end Go.Sy.YtnlacjgkdjnhmaaGreat
namespace Go.Sy.YtnlacjgkdjnhmaaGreat
open Go.Proofs
attribute [local irreducible] Go.Sy.G Go.Sy.DR
set_option maxRecDepth 20000
set_option maxHeartbeats 4000000
theorem great1 {n:Net} (h:n.ports.any (fun p=>decide (100<p.tagged.length))=true):D7 n=true:=by simp only[D7,h,Bool.or_true,Bool.true_or]
theorem great2 {n:Net} (h:n.domains.any (fun p=>decide (100<p.peers.length))=true):D7 n=true:=by simp only[D7,h,Bool.or_true,Bool.true_or]
theorem great3 {n:Net} (h:n.floods.any (fun p=>decide (100<p.addrs.length))=true):D7 n=true:=by simp only[D7,h,Bool.or_true,Bool.true_or]
theorem great4 {n:Net} (h:n.vrfs.any (fun v=>decide (100<v.imports.length) || decide (100<v.exports.length))=true):D7 n=true:=by simp only[D7,h,Bool.or_true]
theorem greatS (n:Net):Sy.Spec Tryz.prog 10 [Aq n] [] (Ad (D7 n)) []:=Ab Γ hm 100 F10 Tryz.ntmps10 rfl fun F hF=>by
 ((conv=>whnf);repeat((first|refine aF ?_|refine aT ?_);(first|refine rG Γ hm ?_|refine rD Γ hm qq ?_);conv=>whnf))
 (repeat' (first | (refine⟨fun h=>?_,fun h=>?_⟩<;>(repeat (first | simp only[Ag]at h | simp only[decide_eq_true_eq]at h | simp only[decide_eq_false_iff_not]at h | simp only[beq_iff_eq]at h | simp only[beq_eq_false_iff_ne]at h | simp only[bne_iff_ne]at h | simp only[bne_eq_false_iff_eq]at h | simp only[Bool.and_eq_true]at h | simp only[Bool.or_eq_true]at h | simp only[Bool.and_eq_false_iff]at h | simp only[Bool.or_eq_false_iff]at h | simp only[Bool.not_eq_true']at h | simp only[Bool.not_eq_false']at h | simp only[Bool.not_eq_eq_eq_not]at h | simp only[Bool.not_true]at h | simp only[Bool.not_false]at h))<;>((first|refine rg ?_|refine rd qq ?_);(conv=>whnf);repeat((first|refine aF ?_|refine aT ?_);(first|refine rg ?_|refine rd qq ?_);(conv=>whnf)))) | (refine Ac rfl (.cons .tmp .nil) ?_ rfl) | (refine⟨qq,?_⟩;((conv=>whnf);repeat((first|refine aF ?_|refine aT ?_);(first|refine rg ?_|refine rd qq ?_);(conv=>whnf)))) | (refine⟨by (first | (unfold I64;omega) | omega | (simp only[Int.toNat_natCast];omega) | decide),by (first | (unfold I64;omega) | omega | (simp only[Int.toNat_natCast];omega) | decide),?_⟩;((conv=>whnf);repeat((first|refine aF ?_|refine aT ?_);(first|refine rg ?_|refine rd qq ?_);(conv=>whnf)))) | (refine⟨by (first | (unfold I64;omega) | omega | (simp only[Int.toNat_natCast];omega) | decide),?_⟩;((conv=>whnf);repeat((first|refine aF ?_|refine aT ?_);(first|refine rg ?_|refine rd qq ?_);(conv=>whnf))))))
 all_goals first
  | (refine congrArg Ad ?_;clear hF;grind [D7])
  | skip
 have l1:n.ports.length≤200:=by omega
 have l2:n.domains.length≤200:=by omega
 have l3:n.floods.length≤200:=by omega
 have l4:n.vrfs.length≤200:=by omega
 refine B0 1 8 (Aq n) E E E ?_
 refine Bc n.ports.length (fun j=>Dy (fun _ p=>!(decide (100<p.tagged.length))) n.ports j) (fun j=>[(1,.ref 8 (Aq n) 0),(3,Aa j)]) (fun _=>[]) [] (Bd _ _) ⟨⟨E,E,E,E,Y⟩,Y,E,E⟩ ?_
 intro j hj hI
 ((first|refine rG Γ hm ?_|refine rD Γ hm qq ?_);(conv=>whnf);repeat((first|refine aF ?_|refine aT ?_);(first|refine rG Γ hm ?_|refine rD Γ hm qq ?_);conv=>whnf))
 refine⟨fun h=>?_,fun h=>?_⟩
 ·have hjl:j<n.ports.length:=by simpa using h
  ((first|refine rG Γ hm ?_|refine rD Γ hm qq ?_);(conv=>whnf);repeat((first|refine aF ?_|refine aT ?_);(first|refine rG Γ hm ?_|refine rD Γ hm qq ?_);conv=>whnf))
  (repeat' (first | (refine⟨fun h=>?_,fun h=>?_⟩<;>(repeat (first | simp only[Ag]at h | simp only[decide_eq_true_eq]at h | simp only[decide_eq_false_iff_not]at h | simp only[beq_iff_eq]at h | simp only[beq_eq_false_iff_ne]at h | simp only[bne_iff_ne]at h | simp only[bne_eq_false_iff_eq]at h | simp only[Bool.and_eq_true]at h | simp only[Bool.or_eq_true]at h | simp only[Bool.and_eq_false_iff]at h | simp only[Bool.or_eq_false_iff]at h | simp only[Bool.not_eq_true']at h | simp only[Bool.not_eq_false']at h | simp only[Bool.not_eq_eq_eq_not]at h | simp only[Bool.not_true]at h | simp only[Bool.not_false]at h))<;>((first|refine rg ?_|refine rd qq ?_);(conv=>whnf);repeat((first|refine aF ?_|refine aT ?_);(first|refine rg ?_|refine rd qq ?_);(conv=>whnf)))) | (refine Ac rfl (.cons .tmp .nil) ?_ rfl) | (refine⟨qq,?_⟩;((conv=>whnf);repeat((first|refine aF ?_|refine aT ?_);(first|refine rg ?_|refine rd qq ?_);(conv=>whnf)))) | (refine⟨by (first | (unfold I64;omega) | omega | (simp only[Int.toNat_natCast];omega) | decide),by (first | (unfold I64;omega) | omega | (simp only[Int.toNat_natCast];omega) | decide),?_⟩;((conv=>whnf);repeat((first|refine aF ?_|refine aT ?_);(first|refine rg ?_|refine rd qq ?_);(conv=>whnf)))) | (refine⟨by (first | (unfold I64;omega) | omega | (simp only[Int.toNat_natCast];omega) | decide),?_⟩;((conv=>whnf);repeat((first|refine aF ?_|refine aT ?_);(first|refine rg ?_|refine rd qq ?_);(conv=>whnf)))) | refine A9 [] hI hjl ?_ ⟨⟨rfl,rfl,rfl,rfl,trivial⟩,trivial,rfl,rfl⟩))
  all_goals (simp only[Int.toNat_natCast]at *)
  ·refine congrArg Ad ?_
   exact great1 (Qy hjl (by simp;omega))
  ·exact Ba hI hjl (by simp;omega)
 have a1:n.ports.any (fun p=>decide (100<p.tagged.length))=false:=L7 hI (by simpa using h)
 clear hI hj h
 ((first|refine rG Γ hm ?_|refine rD Γ hm qq ?_);(conv=>whnf);repeat((first|refine aF ?_|refine aT ?_);(first|refine rG Γ hm ?_|refine rD Γ hm qq ?_);conv=>whnf))
 refine Bc n.domains.length (fun j=>Dy (fun _ p=>!(decide (100<p.peers.length))) n.domains j) (fun j=>[(1,.ref 8 (Aq n) 0),(4,Aa j)]) (fun _=>[]) [] (Bd _ _) ⟨⟨E,E,E,E,Y⟩,Y,E,E⟩ ?_
 intro j hj hI
 ((first|refine rG Γ hm ?_|refine rD Γ hm qq ?_);(conv=>whnf);repeat((first|refine aF ?_|refine aT ?_);(first|refine rG Γ hm ?_|refine rD Γ hm qq ?_);conv=>whnf))
 refine⟨fun h=>?_,fun h=>?_⟩
 ·have hjl:j<n.domains.length:=by simpa using h
  ((first|refine rG Γ hm ?_|refine rD Γ hm qq ?_);(conv=>whnf);repeat((first|refine aF ?_|refine aT ?_);(first|refine rG Γ hm ?_|refine rD Γ hm qq ?_);conv=>whnf))
  (repeat' (first | (refine⟨fun h=>?_,fun h=>?_⟩<;>(repeat (first | simp only[Ag]at h | simp only[decide_eq_true_eq]at h | simp only[decide_eq_false_iff_not]at h | simp only[beq_iff_eq]at h | simp only[beq_eq_false_iff_ne]at h | simp only[bne_iff_ne]at h | simp only[bne_eq_false_iff_eq]at h | simp only[Bool.and_eq_true]at h | simp only[Bool.or_eq_true]at h | simp only[Bool.and_eq_false_iff]at h | simp only[Bool.or_eq_false_iff]at h | simp only[Bool.not_eq_true']at h | simp only[Bool.not_eq_false']at h | simp only[Bool.not_eq_eq_eq_not]at h | simp only[Bool.not_true]at h | simp only[Bool.not_false]at h))<;>((first|refine rg ?_|refine rd qq ?_);(conv=>whnf);repeat((first|refine aF ?_|refine aT ?_);(first|refine rg ?_|refine rd qq ?_);(conv=>whnf)))) | (refine Ac rfl (.cons .tmp .nil) ?_ rfl) | (refine⟨qq,?_⟩;((conv=>whnf);repeat((first|refine aF ?_|refine aT ?_);(first|refine rg ?_|refine rd qq ?_);(conv=>whnf)))) | (refine⟨by (first | (unfold I64;omega) | omega | (simp only[Int.toNat_natCast];omega) | decide),by (first | (unfold I64;omega) | omega | (simp only[Int.toNat_natCast];omega) | decide),?_⟩;((conv=>whnf);repeat((first|refine aF ?_|refine aT ?_);(first|refine rg ?_|refine rd qq ?_);(conv=>whnf)))) | (refine⟨by (first | (unfold I64;omega) | omega | (simp only[Int.toNat_natCast];omega) | decide),?_⟩;((conv=>whnf);repeat((first|refine aF ?_|refine aT ?_);(first|refine rg ?_|refine rd qq ?_);(conv=>whnf)))) | refine A9 [] hI hjl ?_ ⟨⟨rfl,rfl,rfl,rfl,trivial⟩,trivial,rfl,rfl⟩))
  all_goals (simp only[Int.toNat_natCast]at *)
  ·refine congrArg Ad ?_
   exact great2 (Qy hjl (by simp;omega))
  ·exact Ba hI hjl (by simp;omega)
 have a2:n.domains.any (fun p=>decide (100<p.peers.length))=false:=L7 hI (by simpa using h)
 clear hI hj h
 ((first|refine rG Γ hm ?_|refine rD Γ hm qq ?_);(conv=>whnf);repeat((first|refine aF ?_|refine aT ?_);(first|refine rG Γ hm ?_|refine rD Γ hm qq ?_);conv=>whnf))
 refine Bc n.floods.length (fun j=>Dy (fun _ p=>!(decide (100<p.addrs.length))) n.floods j) (fun j=>[(1,.ref 8 (Aq n) 0),(5,Aa j)]) (fun _=>[]) [] (Bd _ _) ⟨⟨E,E,E,E,Y⟩,Y,E,E⟩ ?_
 intro j hj hI
 ((first|refine rG Γ hm ?_|refine rD Γ hm qq ?_);(conv=>whnf);repeat((first|refine aF ?_|refine aT ?_);(first|refine rG Γ hm ?_|refine rD Γ hm qq ?_);conv=>whnf))
 refine⟨fun h=>?_,fun h=>?_⟩
 ·have hjl:j<n.floods.length:=by simpa using h
  ((first|refine rG Γ hm ?_|refine rD Γ hm qq ?_);(conv=>whnf);repeat((first|refine aF ?_|refine aT ?_);(first|refine rG Γ hm ?_|refine rD Γ hm qq ?_);conv=>whnf))
  (repeat' (first | (refine⟨fun h=>?_,fun h=>?_⟩<;>(repeat (first | simp only[Ag]at h | simp only[decide_eq_true_eq]at h | simp only[decide_eq_false_iff_not]at h | simp only[beq_iff_eq]at h | simp only[beq_eq_false_iff_ne]at h | simp only[bne_iff_ne]at h | simp only[bne_eq_false_iff_eq]at h | simp only[Bool.and_eq_true]at h | simp only[Bool.or_eq_true]at h | simp only[Bool.and_eq_false_iff]at h | simp only[Bool.or_eq_false_iff]at h | simp only[Bool.not_eq_true']at h | simp only[Bool.not_eq_false']at h | simp only[Bool.not_eq_eq_eq_not]at h | simp only[Bool.not_true]at h | simp only[Bool.not_false]at h))<;>((first|refine rg ?_|refine rd qq ?_);(conv=>whnf);repeat((first|refine aF ?_|refine aT ?_);(first|refine rg ?_|refine rd qq ?_);(conv=>whnf)))) | (refine Ac rfl (.cons .tmp .nil) ?_ rfl) | (refine⟨qq,?_⟩;((conv=>whnf);repeat((first|refine aF ?_|refine aT ?_);(first|refine rg ?_|refine rd qq ?_);(conv=>whnf)))) | (refine⟨by (first | (unfold I64;omega) | omega | (simp only[Int.toNat_natCast];omega) | decide),by (first | (unfold I64;omega) | omega | (simp only[Int.toNat_natCast];omega) | decide),?_⟩;((conv=>whnf);repeat((first|refine aF ?_|refine aT ?_);(first|refine rg ?_|refine rd qq ?_);(conv=>whnf)))) | (refine⟨by (first | (unfold I64;omega) | omega | (simp only[Int.toNat_natCast];omega) | decide),?_⟩;((conv=>whnf);repeat((first|refine aF ?_|refine aT ?_);(first|refine rg ?_|refine rd qq ?_);(conv=>whnf)))) | refine A9 [] hI hjl ?_ ⟨⟨rfl,rfl,rfl,rfl,trivial⟩,trivial,rfl,rfl⟩))
  all_goals (simp only[Int.toNat_natCast]at *)
  ·refine congrArg Ad ?_
   exact great3 (Qy hjl (by simp;omega))
  ·exact Ba hI hjl (by simp;omega)
 have a3:n.floods.any (fun p=>decide (100<p.addrs.length))=false:=L7 hI (by simpa using h)
 clear hI hj h
 ((first|refine rG Γ hm ?_|refine rD Γ hm qq ?_);(conv=>whnf);repeat((first|refine aF ?_|refine aT ?_);(first|refine rG Γ hm ?_|refine rD Γ hm qq ?_);conv=>whnf))
 refine Bc n.vrfs.length (fun j=>Dy (fun _ v=>!(decide (100<v.imports.length) || decide (100<v.exports.length))) n.vrfs j) (fun j=>[(1,.ref 8 (Aq n) 0),(6,Aa j)]) (fun _=>[]) [] (Bd _ _) ⟨⟨E,E,E,E,Y⟩,Y,E,E⟩ ?_
 intro j hj hI
 ((first|refine rG Γ hm ?_|refine rD Γ hm qq ?_);(conv=>whnf);repeat((first|refine aF ?_|refine aT ?_);(first|refine rG Γ hm ?_|refine rD Γ hm qq ?_);conv=>whnf))
 refine⟨fun h=>?_,fun h=>?_⟩
 ·have hjl:j<n.vrfs.length:=by simpa using h
  ((first|refine rG Γ hm ?_|refine rD Γ hm qq ?_);(conv=>whnf);repeat((first|refine aF ?_|refine aT ?_);(first|refine rG Γ hm ?_|refine rD Γ hm qq ?_);conv=>whnf))
  (repeat' (first | (refine⟨fun h=>?_,fun h=>?_⟩<;>(repeat (first | simp only[Ag]at h | simp only[decide_eq_true_eq]at h | simp only[decide_eq_false_iff_not]at h | simp only[beq_iff_eq]at h | simp only[beq_eq_false_iff_ne]at h | simp only[bne_iff_ne]at h | simp only[bne_eq_false_iff_eq]at h | simp only[Bool.and_eq_true]at h | simp only[Bool.or_eq_true]at h | simp only[Bool.and_eq_false_iff]at h | simp only[Bool.or_eq_false_iff]at h | simp only[Bool.not_eq_true']at h | simp only[Bool.not_eq_false']at h | simp only[Bool.not_eq_eq_eq_not]at h | simp only[Bool.not_true]at h | simp only[Bool.not_false]at h))<;>((first|refine rg ?_|refine rd qq ?_);(conv=>whnf);repeat((first|refine aF ?_|refine aT ?_);(first|refine rg ?_|refine rd qq ?_);(conv=>whnf)))) | (refine Ac rfl (.cons .tmp .nil) ?_ rfl) | (refine⟨qq,?_⟩;((conv=>whnf);repeat((first|refine aF ?_|refine aT ?_);(first|refine rg ?_|refine rd qq ?_);(conv=>whnf)))) | (refine⟨by (first | (unfold I64;omega) | omega | (simp only[Int.toNat_natCast];omega) | decide),by (first | (unfold I64;omega) | omega | (simp only[Int.toNat_natCast];omega) | decide),?_⟩;((conv=>whnf);repeat((first|refine aF ?_|refine aT ?_);(first|refine rg ?_|refine rd qq ?_);(conv=>whnf)))) | (refine⟨by (first | (unfold I64;omega) | omega | (simp only[Int.toNat_natCast];omega) | decide),?_⟩;((conv=>whnf);repeat((first|refine aF ?_|refine aT ?_);(first|refine rg ?_|refine rd qq ?_);(conv=>whnf)))) | refine A9 [] hI hjl ?_ ⟨⟨rfl,rfl,rfl,rfl,trivial⟩,trivial,rfl,rfl⟩))
  all_goals (simp only[Int.toNat_natCast]at *)
  all_goals first
   | exact Ba hI hjl (by simp;omega)
   | (refine congrArg Ad ?_;exact great4 (Qy hjl (by simp;omega)))
 have a4:n.vrfs.any (fun v=>decide (100<v.imports.length) || decide (100<v.exports.length))=false:=L7 hI (by simpa using h)
 clear hI hj h
 ((first|refine rG Γ hm ?_|refine rD Γ hm qq ?_);(conv=>whnf);repeat((first|refine aF ?_|refine aT ?_);(first|refine rG Γ hm ?_|refine rD Γ hm qq ?_);conv=>whnf))
 refine Ac E (.cons .tmp .nil) (congrArg Ad ?_) E
 rw[D7,a1,a2,a3,a4]
 simp
 omega
def Cy:Vec→List Vec→Vec
 | v,[]=>v
 | v,x::l=>Cy (if Xt x v then x else v) l
def zeroV:Vec:=⟨0,0,0,0,0⟩
def J7:List Vec→Vec × Bool
 | []=>(zeroV,false)
 | v::l=>(Cy v (v::l),true)
theorem Vn:∀ (v:Vec) (l:List Vec),Cy v l=v∨Cy v l∈l
 | v,[]=>.inl rfl
 | v,x::l=>by
  rw[Cy]
  rcases Vn (if Xt x v then x else v) l with h | h
  ·rw[h]
   split
   ·exact .inr qy
   ·exact .inl E
  ·exact .inr (by simp[h])
theorem Abm (v:Vec) (l:List Vec) (j:Nat) (h:j<l.length):Cy v (l.take (j+1))=(if Xt l[j] (Cy v (l.take j)) then l[j] else Cy v (l.take j)):=by
 have key:∀ (a b:List Vec) (v:Vec),Cy v (a++b)=Cy (Cy v a) b:=by
  intro a
  induction a with
  | nil=>intro b v;rfl
  | cons x a ih=>intro b v;rw[List.cons_append,Cy,Cy,ih]
 rw[List.take_succ_eq_append_getElem h,key]
 rfl
theorem leastS (l:List Vec) (hl:Am l):Sy.Spec Tryz.prog 162 [.sl 5 Ko l] [] (.tup [Ko (J7 l).1,Ad (J7 l).2]) []:=Ab Γ hm 100 F162 Tryz.ntmps162 rfl fun F hF=>by
 unfold Am at hl
 have hR:∀ h:0<l.length,J7 l=(Cy l[0] l,true):=fun h=>by
  cases l with
  | nil=>simp at h
  | cons v t=>rfl
 ((conv=>whnf);repeat((first|refine aF ?_|refine aT ?_);(first|refine rG Γ hm ?_|refine rD Γ hm qq ?_);conv=>whnf))
 refine⟨fun h=>?_,fun h=>?_⟩
 ·have:l=[]:=List.eq_nil_of_length_eq_zero (by have:(l.length:Int)=0:=(by simpa using h);omega)
  subst this
  ((first|refine rG Γ hm ?_|refine rD Γ hm qq ?_);(conv=>whnf);repeat((first|refine aF ?_|refine aT ?_);(first|refine rG Γ hm ?_|refine rD Γ hm qq ?_);conv=>whnf))
  exact done E (.cons (.cell E E E E) (.cons .tmp .nil)) [] [] (fun _ h=>h) E E ⟨Y,Y,E,E⟩
 have h0:0<l.length:=by
  have:¬ (l.length:Int)=0:=by simpa using h
  omega
 rw[hR h0]
 ((first|refine rG Γ hm ?_|refine rD Γ hm qq ?_);(conv=>whnf);repeat((first|refine aF ?_|refine aT ?_);(first|refine rG Γ hm ?_|refine rD Γ hm qq ?_);conv=>whnf))
 refine⟨E,by decide,h0,?_⟩
 ((conv=>whnf);repeat((first|refine aF ?_|refine aT ?_);(first|refine rG Γ hm ?_|refine rD Γ hm qq ?_);conv=>whnf))
 have e0:l[(0:Int).toNat]'(h0)=l[0]:=rfl
 generalize hv:l[0]=v at *
 refine A2 l.length (fun j=>[(0,.sl 5 Ko l),(2,.ptr 2 0),(4,.ptr 4 0),(14,.sl 5 Ko l),(15,Aa l.length),(16,Aa j)]) (fun j=>[(2,.box [Aa 0,Aa 0,Aa 0,Aa 0,Aa 0]),(4,.box [Aa (Cy v (l.take j)).root,Aa (Cy v (l.take j)).cost,Aa (Cy v (l.take j)).bridge,Aa (Cy v (l.take j)).port,Aa (Cy v (l.take j)).own])]) []
  ⟨⟨rfl,rfl,rfl,rfl,rfl,rfl,rfl,rfl,rfl,rfl,rfl,rfl,trivial⟩,⟨.inl rfl,rfl,.inl (by subst hv;rfl),rfl,trivial⟩,rfl,rfl⟩ ?_
 intro j hj
 ((first|refine rG Γ hm ?_|refine rD Γ hm qq ?_);(conv=>whnf);repeat((first|refine aF ?_|refine aT ?_);(first|refine rG Γ hm ?_|refine rD Γ hm qq ?_);conv=>whnf))
 refine⟨fun h=>?_,fun h=>?_⟩
 ·have hlt:j<l.length:=by simpa using h
  have hdrop:=Abm v l j hlt
  generalize hx:l[j]=x at hdrop
  have hx':l[(j:Int).toNat]'qn=x:=hx
  generalize hmn:Cy v (l.take j)=m at hdrop
  ((first|refine rG Γ hm ?_|refine rD Γ hm qq ?_);(conv=>whnf);repeat((first|refine aF ?_|refine aT ?_);(first|refine rG Γ hm ?_|refine rD Γ hm qq ?_);conv=>whnf))
  refine⟨E,by omega,by omega,?_⟩
  rw[hx']
  ((conv=>whnf);repeat((first|refine aF ?_|refine aT ?_);(first|refine rG Γ hm ?_|refine rD Γ hm qq ?_);conv=>whnf))
  refine Ah (lessS x m) F205 E E E E E ?_
  ((first|refine rG Γ hm ?_|refine rD Γ hm qq ?_);(conv=>whnf);repeat((first|refine aF ?_|refine aT ?_);(first|refine rG Γ hm ?_|refine rD Γ hm qq ?_);conv=>whnf))
  refine⟨fun h2=>?_,fun h2=>?_⟩
  ·rw[h2,if_pos rfl]at hdrop
   ((first|refine rG Γ hm ?_|refine rD Γ hm qq ?_);(conv=>whnf);repeat((first|refine aF ?_|refine aT ?_);(first|refine rG Γ hm ?_|refine rD Γ hm qq ?_);conv=>whnf))
   refine⟨by unfold I64;omega,?_⟩
   ((conv=>whnf);repeat((first|refine aF ?_|refine aT ?_);(first|refine rG Γ hm ?_|refine rD Γ hm qq ?_);conv=>whnf))
   exact Av [] hlt ⟨⟨E,E,E,E,E,E,E,E,E,E,E,E,Y⟩,⟨.inl E,E,.inl (by rw[hdrop];rfl),E,Y⟩,E,E⟩
  ·rw[h2]at hdrop
   ((first|refine rG Γ hm ?_|refine rD Γ hm qq ?_);(conv=>whnf);repeat((first|refine aF ?_|refine aT ?_);(first|refine rG Γ hm ?_|refine rD Γ hm qq ?_);conv=>whnf))
   refine⟨by unfold I64;omega,?_⟩
   ((conv=>whnf);repeat((first|refine aF ?_|refine aT ?_);(first|refine rG Γ hm ?_|refine rD Γ hm qq ?_);conv=>whnf))
   exact Av [] hlt ⟨⟨E,E,E,E,E,E,E,E,E,E,E,E,Y⟩,⟨.inl E,E,.inl (by rw[hdrop];rfl),E,Y⟩,E,E⟩
 ·have hjl:¬ j<l.length:=by simpa using h
  rw[List.take_of_length_le qn]
  ((first|refine rG Γ hm ?_|refine rD Γ hm qq ?_);(conv=>whnf);repeat((first|refine aF ?_|refine aT ?_);(first|refine rG Γ hm ?_|refine rD Γ hm qq ?_);conv=>whnf))
  exact done E (.cons (.cell E E E E) (.cons .tmp .nil)) [] [] (fun _ h=>h) E E ⟨Y,Y,E,E⟩
theorem leastR_mem {l:List Vec} (h:(J7 l).2=true):(J7 l).1∈l:=by
 cases l with
 | nil=>cases h
 | cons v t =>
  rcases Vn v (v::t) with h | h
  ·show Cy v (v::t)∈v::t
   rw[h];simp
  ·exact h
theorem S1 (n:Net):∀ x∈C5 n,0≤x∧x<n.devices.length:=fun x hx=>by
 rw[Aaz,Jb]at hx
 obtain ⟨i,hi,rfl⟩:=List.mem_map.1 hx
 have hi:=List.mem_range.1 hi
 have h1:=List.countP_le_length (p:=fun k=>B8 n (k:Nat) i) (l:=List.range n.devices.length)
 rw[List.length_range]at h1
 have h2:(List.range n.devices.length).countP (fun k=>B8 n (k:Nat) i)≠n.devices.length:=fun e=>by
  have:=List.countP_eq_length.1 (e.trans List.length_range.symm) i (List.mem_range.2 hi)
  rw[Ke]at this
  cases this
 omega
theorem I2 (n:Net):(C5 n).length=n.devices.length:=by rw[Aaz,Jb];simp
end Go.Sy.YtnlacjgkdjnhmaaGreat
namespace Go.Sy.YtnlacjgkdjnhmaaGreat
open Go.Proofs
attribute [local irreducible] Go.Sy.G Go.Sy.DR
set_option maxRecDepth 100000
set_option maxHeartbeats 4000000
def Mj (n:Net) (up:List Bool) (ranks:List Int) (x y:SV):List SV:=[.sl 5 A1 n.devices,.sl 7 A3 n.ports,.sl 3 B6 n.links,.sl 6 As n.domains,.sl 4 Be n.statics,.sl 4 Bu n.floods,.sl 5 Ci n.vrfs,.sl 5 C7 n.irbs,.sl 1 Ad up,.sl 1 Aa ranks,x,y]
def Cs (n:Net) (up:List Bool) (i:Nat):Int :=
 let p:=n.ports.getD i default
 if p.link<0 || !(up.getD p.link.toNat false) then -1 else (nth n.links p.link).a+(nth n.links p.link).b-i
theorem farS (n:Net) (up:List Bool) (ranks:List Int) (x y:SV) (_hx:(x.boxed && x.data && y.boxed && y.data && Nat.beq (cellsOf x).length 1 && Nat.beq (cellsOf y).length 1)=true) (i:Nat) (hr:Af n=true) (hu:up.length=n.links.length) (hi:i<n.ports.length) :
  Sy.Spec Tryz.prog 122 [.ref 12 (.agg (Mj n up ranks x y)) 0,Aa i] [] (Aa (Cs n up i)) []:=Ab Γ hm 100 F122 Tryz.ntmps122 rfl fun F hF=>by
 have hpl:=Lv hr hi
 have hf:=Dk hr
 have e1:n.ports[(i:Int).toNat]'qn=n.ports[i]:=rfl
 have hfar:Cs n up i=if n.ports[i].link<0 || !(up.getD n.ports[i].link.toNat false) then -1 else (nth n.links n.ports[i].link).a+(nth n.links n.ports[i].link).b-i:=by
  rw[Cs,Az hi]
 generalize hp:n.ports[i]=p at *
 have hle:=fun h=>Jg hr (i:=p.link.toNat) h
 ((conv=>whnf);repeat((first|refine aF ?_|refine aT ?_);(first|refine rG Γ hm ?_|refine rD Γ hm qq ?_);conv=>whnf))
 refine⟨E,by omega,by omega,?_⟩
 rw[e1]
 ((conv=>whnf);repeat((first|refine aF ?_|refine aT ?_);(first|refine rG Γ hm ?_|refine rD Γ hm qq ?_);conv=>whnf))
 (repeat' (first | (refine⟨fun h=>?_,fun h=>?_⟩<;>(repeat (first | simp only[Ag]at h | simp only[decide_eq_true_eq]at h | simp only[decide_eq_false_iff_not]at h | simp only[beq_iff_eq]at h | simp only[beq_eq_false_iff_ne]at h | simp only[bne_iff_ne]at h | simp only[bne_eq_false_iff_eq]at h | simp only[Bool.and_eq_true]at h | simp only[Bool.or_eq_true]at h | simp only[Bool.and_eq_false_iff]at h | simp only[Bool.or_eq_false_iff]at h | simp only[Bool.not_eq_true']at h | simp only[Bool.not_eq_false']at h | simp only[Bool.not_eq_eq_eq_not]at h | simp only[Bool.not_true]at h | simp only[Bool.not_false]at h))<;>((first|refine rg ?_|refine rd qq ?_);(conv=>whnf);repeat((first|refine aF ?_|refine aT ?_);(first|refine rg ?_|refine rd qq ?_);(conv=>whnf)))) | (refine Ac rfl (.cons .tmp .nil) ?_ rfl) | (refine⟨qq,?_⟩;((conv=>whnf);repeat((first|refine aF ?_|refine aT ?_);(first|refine rg ?_|refine rd qq ?_);(conv=>whnf)))) | (refine⟨by (first | (unfold I64;omega) | omega | (simp only[Int.toNat_natCast];omega) | ((have hq:=hle qn;unfold I64;omega))),by (first | (unfold I64;omega) | omega | (simp only[Int.toNat_natCast];omega) | ((have hq:=hle qn;unfold I64;omega))),?_⟩;((conv=>whnf);repeat((first|refine aF ?_|refine aT ?_);(first|refine rg ?_|refine rd qq ?_);(conv=>whnf)))) | (refine⟨by (first | (unfold I64;omega) | omega | (simp only[Int.toNat_natCast];omega) | ((have hq:=hle qn;unfold I64;omega))),?_⟩;((conv=>whnf);repeat((first|refine aF ?_|refine aT ?_);(first|refine rg ?_|refine rd qq ?_);(conv=>whnf))))))
 all_goals (refine congrArg Aa ?_;rw[hfar])
 ·simp_all
 ·have h1:up.getD p.link.toNat false=false:=by rw[Az qn];assumption
  rw[h1];simp
 ·have h1:up.getD p.link.toNat false=true:=by rw[Az qn];assumption
  rw[h1,Ao qn]
  simp_all
def Kr (n:Net) (up:List Bool) (ranks roots costs:List Int):SV:=.ref 12 (.agg (Mj n up ranks (.sl 1 Aa roots) (.sl 1 Aa costs))) 0
def I8 (n:Net) (ranks costs:List Int) (i k:Nat):Bool :=
 let a:=(n.ports.getD i default).dev
 let b:=(n.ports.getD k default).dev
 decide (nth costs a<nth costs b) || (nth costs a == nth costs b && decide (nth ranks a<nth ranks b))
theorem Ac2 (n:Net) (up:List Bool) (ranks roots costs:List Int) (i k:Nat) (hr:Af n=true) (hrk:ranks.length=n.devices.length) (hc:costs.length=n.devices.length) (hi:i<n.ports.length) (hk:k<n.ports.length) :
  Sy.Spec Tryz.prog 123 [Kr n up ranks roots costs,Aa i,Aa k] [] (Ad (I8 n ranks costs i k)) []:=Ab Γ hm 100 F123 Tryz.ntmps123 rfl fun F hF=>by
 have hd1:=Ky hr hi
 have hd2:=Ky hr hk
 have e1:n.ports[(i:Int).toNat]'qn=n.ports[i]:=rfl
 have e2:n.ports[(k:Int).toNat]'qn=n.ports[k]:=rfl
 have hres:I8 n ranks costs i k=(decide (nth costs n.ports[i].dev<nth costs n.ports[k].dev) || (nth costs n.ports[i].dev == nth costs n.ports[k].dev && decide (nth ranks n.ports[i].dev<nth ranks n.ports[k].dev))):=by
  rw[I8,Az hi,Az hk]
 rw[Ao qn,Ao qn,Ao qn,Ao qn]at hres
 ((conv=>whnf);repeat((first|refine aF ?_|refine aT ?_);(first|refine rG Γ hm ?_|refine rD Γ hm qq ?_);conv=>whnf))
 (repeat' (first | (refine⟨fun h=>?_,fun h=>?_⟩<;>(repeat (first | simp only[Ag]at h | simp only[decide_eq_true_eq]at h | simp only[decide_eq_false_iff_not]at h | simp only[beq_iff_eq]at h | simp only[beq_eq_false_iff_ne]at h | simp only[bne_iff_ne]at h | simp only[bne_eq_false_iff_eq]at h | simp only[Bool.and_eq_true]at h | simp only[Bool.or_eq_true]at h | simp only[Bool.and_eq_false_iff]at h | simp only[Bool.or_eq_false_iff]at h | simp only[Bool.not_eq_true']at h | simp only[Bool.not_eq_false']at h | simp only[Bool.not_eq_eq_eq_not]at h | simp only[Bool.not_true]at h | simp only[Bool.not_false]at h))<;>((first|refine rg ?_|refine rd qq ?_);(conv=>whnf);repeat((first|refine aF ?_|refine aT ?_);(first|refine rg ?_|refine rd qq ?_);(conv=>whnf)))) | (refine Ac rfl (.cons .tmp .nil) ?_ rfl) | (refine⟨qq,?_⟩;((conv=>whnf);repeat((first|refine aF ?_|refine aT ?_);(first|refine rg ?_|refine rd qq ?_);(conv=>whnf)))) | (refine⟨by (first | (unfold I64;omega) | omega | (simp only[Int.toNat_natCast];omega) | (first | (simp only[e1];omega) | (simp only[e2];omega))),by (first | (unfold I64;omega) | omega | (simp only[Int.toNat_natCast];omega) | (first | (simp only[e1];omega) | (simp only[e2];omega))),?_⟩;((conv=>whnf);repeat((first|refine aF ?_|refine aT ?_);(first|refine rg ?_|refine rd qq ?_);(conv=>whnf)))) | (refine⟨by (first | (unfold I64;omega) | omega | (simp only[Int.toNat_natCast];omega) | (first | (simp only[e1];omega) | (simp only[e2];omega))),?_⟩;((conv=>whnf);repeat((first|refine aF ?_|refine aT ?_);(first|refine rg ?_|refine rd qq ?_);(conv=>whnf))))))
 all_goals (refine congrArg Ad ?_;rw[hres];clear hF hres hr;simp only[Int.toNat_natCast]at *;grind)
theorem V8 {n:Net} {up:List Bool} (h:Af n=true) {i:Nat} (hi:i<n.ports.length) (hf:0≤Cs n up i):Cs n up i<n.ports.length:=by
 have hp:=J1 h hi
 have hpl:=Lv h hi
 simp only[Ib,Bool.and_eq_true,Bool.or_eq_true,beq_iff_eq]at hp
 have hp:=hp.2
 unfold Cs at *
 rw[Az hi]at *
 simp only at *
 split at hf
 ·omega
 ·rename_i hc
  rw[if_neg hc]
  simp only[Bool.or_eq_true,decide_eq_true_eq,not_or]at hc
  rcases hp with hp | hp
  ·omega
  ·have hl:n.ports[i].link.toNat<n.links.length:=by omega
   have he:=Jg h hl
   rw[Ao hl]at *
   omega
def Wk (n:Net) (up:List Bool) (ranks roots costs:List Int) (dev:Int) (i:Nat):Option Vec :=
 let p:=n.ports.getD i default
 let far:=Cs n up i
 let there:=(nth n.ports far).dev
 if p.dev == dev && decide (0≤far) then some ⟨nth roots there,nth costs there+p.cost,nth ranks there,far,i⟩ else none
def Jq (n:Net) (up:List Bool) (ranks roots costs:List Int) (dev:Int) (j:Nat):List Vec:=(List.range j).filterMap (Wk n up ranks roots costs dev)
theorem Aet (n:Net) (up:List Bool) (ranks roots costs:List Int) (dev:Int) (j:Nat):Jq n up ranks roots costs dev (j+1)=Jq n up ranks roots costs dev j++(Wk n up ranks roots costs dev j).toList:=by
 rw[Jq,List.range_succ,List.filterMap_append]
 cases h:Wk n up ranks roots costs dev j<;>simp[Jq,h]
theorem Qx (n:Net) (up:List Bool) (ranks roots costs:List Int) (dev:Int) (j:Nat):(Jq n up ranks roots costs dev j).length≤j:=by
 have:=List.length_filterMap_le (Wk n up ranks roots costs dev) (List.range j)
 simpa [Jq] using this
def M1 (n:Net) (up:List Bool) (ranks roots costs:List Int) (dev:Int):Int :=
 let r:=J7 (Jq n up ranks roots costs dev n.ports.length)
 if !r.2 || nth roots dev == nth ranks dev then -1 else r.1.own
theorem bestS (n:Net) (up:List Bool) (ranks roots costs:List Int) (dev:Int) (hr:Af n=true) (hu:up.length=n.links.length) (hcost:Ct n=true) (hrk:ranks.length=n.devices.length) (hro:roots.length=n.devices.length) (hc:costs.length=n.devices.length)
  (hb:∀ c∈costs,0≤c∧c<1000000000) (hd:0≤dev∧dev<n.devices.length) :
  Sy.Spec Tryz.prog 124 [Kr n up ranks roots costs,Aa dev] [] (Aa (M1 n up ranks roots costs dev)) []:=Ab Γ hm 100 F124 Tryz.ntmps124 rfl fun F hF=>by
 have hf:=Dk hr
 ((conv=>whnf);repeat((first|refine aF ?_|refine aT ?_);(first|refine rG Γ hm ?_|refine rD Γ hm qq ?_);conv=>whnf))
 refine Cc 5 1000 5 Ko E E ?_
 refine A2 n.ports.length (fun j=>[(0,Kr n up ranks roots costs),(1,Aa dev),(5,.osl 1000),(16,.sl 7 A3 n.ports),(17,Aa n.ports.length),(18,Aa j)]) (fun j=>[(1000,.row 5 Ko (Jq n up ranks roots costs dev j))]) []
  ⟨⟨rfl,rfl,rfl,rfl,rfl,rfl,rfl,rfl,rfl,rfl,rfl,rfl,trivial⟩,⟨.inl rfl,rfl,trivial⟩,rfl,rfl⟩ ?_
 intro j hj
 ((first|refine rG Γ hm ?_|refine rD Γ hm qq ?_);(conv=>whnf);repeat((first|refine aF ?_|refine aT ?_);(first|refine rG Γ hm ?_|refine rD Γ hm qq ?_);conv=>whnf))
 refine⟨fun h=>?_,fun h=>?_⟩
 ·have hlt:j<n.ports.length:=by simpa using h
  have e1:n.ports[(j:Int).toNat]'qn=n.ports[j]:=rfl
  have hfar:=farS n up ranks (.sl 1 Aa roots) (.sl 1 Aa costs) rfl j hr hu hlt
  have hfl:=V8 (up:=up) hr hlt
  have hsucc:=Aet n up ranks roots costs dev j
  have hbl:=Qx n up ranks roots costs dev j
  have hcand:Wk n up ranks roots costs dev j=if n.ports[j].dev == dev && decide (0≤Cs n up j) then some ⟨nth roots (nth n.ports (Cs n up j)).dev,nth costs (nth n.ports (Cs n up j)).dev+n.ports[j].cost,nth ranks (nth n.ports (Cs n up j)).dev,Cs n up j,j⟩ else none:=by
   rw[Wk,Az hlt]
  generalize Cs n up j=k at *
  have hpc:1≤n.ports[j].cost∧n.ports[j].cost≤65535:=by
   simp only[Ct,Bool.not_eq_true',List.any_eq_false]at hcost
   have:=hcost _ (List.getElem_mem hlt)
   simp only[Iw,Bool.or_eq_true,decide_eq_true_eq,not_or]at this
   omega
  obtain ⟨p,hp⟩:∃ p,n.ports[j]=p:=⟨_,rfl⟩
  rw[hp]at e1 hcand hpc
  ((first|refine rG Γ hm ?_|refine rD Γ hm qq ?_);(conv=>whnf);repeat((first|refine aF ?_|refine aT ?_);(first|refine rG Γ hm ?_|refine rD Γ hm qq ?_);conv=>whnf))
  refine⟨E,by omega,by omega,?_⟩
  rw[e1]
  ((conv=>whnf);repeat((first|refine aF ?_|refine aT ?_);(first|refine rG Γ hm ?_|refine rD Γ hm qq ?_);conv=>whnf))
  refine Ah hfar F122 E E E E E ?_
  ((first|refine rG Γ hm ?_|refine rD Γ hm qq ?_);(conv=>whnf);repeat((first|refine aF ?_|refine aT ?_);(first|refine rG Γ hm ?_|refine rD Γ hm qq ?_);conv=>whnf))
  refine⟨fun h=>?_,fun h=>?_⟩
  ·((first|refine rG Γ hm ?_|refine rD Γ hm qq ?_);(conv=>whnf);repeat((first|refine aF ?_|refine aT ?_);(first|refine rG Γ hm ?_|refine rD Γ hm qq ?_);conv=>whnf))
   refine⟨fun h2=>?_,fun h2=>?_⟩
   ·have hk0:0≤k:=of_decide_eq_true h2
    have hk1:=hfl hk0
    rw[if_pos (by simp only[Bool.and_eq_true,decide_eq_true_eq];exact⟨h,hk0⟩),Ao (l:=n.ports) (i:=k) qn]at hcand
    have hpd:=Ky hr (i:=k.toNat) qn
    obtain ⟨q,hq⟩:∃ q,n.ports[k.toNat]'qn=q:=⟨_,rfl⟩
    rw[hq]at hcand hpd
    have hcb:=hb (costs[q.dev.toNat]'qn) (List.getElem_mem _)
    rw[Ao (l:=roots) (i:=q.dev) qn,Ao (l:=costs) (i:=q.dev) qn,Ao (l:=ranks) (i:=q.dev) qn]at hcand
    ((first|refine rG Γ hm ?_|refine rD Γ hm qq ?_);(conv=>whnf);repeat((first|refine aF ?_|refine aT ?_);(first|refine rG Γ hm ?_|refine rD Γ hm qq ?_);conv=>whnf))
    refine⟨E,hk0,by omega,?_⟩
    rw[hq]
    ((conv=>whnf);repeat((first|refine aF ?_|refine aT ?_);(first|refine rG Γ hm ?_|refine rD Γ hm qq ?_);conv=>whnf))
    refine⟨qq,?_⟩
    refine⟨by omega,by omega,?_⟩
    ((conv=>whnf);repeat((first|refine aF ?_|refine aT ?_);(first|refine rG Γ hm ?_|refine rD Γ hm qq ?_);conv=>whnf))
    refine⟨qq,?_⟩
    refine⟨by omega,by omega,?_⟩
    ((conv=>whnf);repeat((first|refine aF ?_|refine aT ?_);(first|refine rG Γ hm ?_|refine rD Γ hm qq ?_);conv=>whnf))
    refine⟨by unfold I64;omega,?_⟩
    ((conv=>whnf);repeat((first|refine aF ?_|refine aT ?_);(first|refine rG Γ hm ?_|refine rD Γ hm qq ?_);conv=>whnf))
    refine⟨qq,?_⟩
    refine⟨by omega,by omega,?_⟩
    ((conv=>whnf);repeat((first|refine aF ?_|refine aT ?_);(first|refine rG Γ hm ?_|refine rD Γ hm qq ?_);conv=>whnf))
    refine Bv (Al Γ.toTy 72 E E E E E (.row E) (.lit (l:=[(⟨roots[q.dev.toNat]'qn,costs[q.dev.toNat]'qn+p.cost,ranks[q.dev.toNat]'qn,k,j⟩:Vec)]) E E) qy (by simp;omega) (by simp;omega)) qq E ?_
    ((first|refine rG Γ hm ?_|refine rD Γ hm qq ?_);(conv=>whnf);repeat((first|refine aF ?_|refine aT ?_);(first|refine rG Γ hm ?_|refine rD Γ hm qq ?_);conv=>whnf))
    refine⟨qq,?_⟩
    ((conv=>whnf);repeat((first|refine aF ?_|refine aT ?_);(first|refine rG Γ hm ?_|refine rD Γ hm qq ?_);conv=>whnf))
    refine⟨by unfold I64;omega,?_⟩
    ((conv=>whnf);repeat((first|refine aF ?_|refine aT ?_);(first|refine rG Γ hm ?_|refine rD Γ hm qq ?_);conv=>whnf))
    refine Av [(1000,72)] hlt ⟨⟨E,E,E,E,E,E,E,E,E,E,E,E,Y⟩,⟨.inl (congrArg (Ob.row 5 Ko) ?_),E,Y⟩,E,E⟩
    rw[hsucc,hcand]
    rfl
   ·have hk0:¬ 0≤k:=of_decide_eq_false h2
    rw[if_neg (by simp only[Bool.and_eq_true,decide_eq_true_eq];exact fun hh=>hk0 hh.2)]at hcand
    ((first|refine rG Γ hm ?_|refine rD Γ hm qq ?_);(conv=>whnf);repeat((first|refine aF ?_|refine aT ?_);(first|refine rG Γ hm ?_|refine rD Γ hm qq ?_);conv=>whnf))
    refine⟨by unfold I64;omega,?_⟩
    ((conv=>whnf);repeat((first|refine aF ?_|refine aT ?_);(first|refine rG Γ hm ?_|refine rD Γ hm qq ?_);conv=>whnf))
    refine Av [] hlt ⟨⟨E,E,E,E,E,E,E,E,E,E,E,E,Y⟩,⟨.inl (congrArg (Ob.row 5 Ko) ?_),E,Y⟩,E,E⟩
    rw[hsucc,hcand]
    simp
  ·rw[if_neg (by rw[h];simp)]at hcand
   ((first|refine rG Γ hm ?_|refine rD Γ hm qq ?_);(conv=>whnf);repeat((first|refine aF ?_|refine aT ?_);(first|refine rG Γ hm ?_|refine rD Γ hm qq ?_);conv=>whnf))
   refine⟨by unfold I64;omega,?_⟩
   ((conv=>whnf);repeat((first|refine aF ?_|refine aT ?_);(first|refine rG Γ hm ?_|refine rD Γ hm qq ?_);conv=>whnf))
   refine Av [] hlt ⟨⟨E,E,E,E,E,E,E,E,E,E,E,E,Y⟩,⟨.inl (congrArg (Ob.row 5 Ko) ?_),E,Y⟩,E,E⟩
   rw[hsucc,hcand]
   simp
 ·have hjl:j=n.ports.length:=by
   have:¬ j<n.ports.length:=by simpa using h
   omega
  subst hjl
  have hbl:=Qx n up ranks roots costs dev n.ports.length
  have hbi:M1 n up ranks roots costs dev=if !(J7 (Jq n up ranks roots costs dev n.ports.length)).2 || nth roots dev == nth ranks dev then -1 else (J7 (Jq n up ranks roots costs dev n.ports.length)).1.own:=rfl
  rw[Ao qn,Ao qn]at hbi
  have hls:=leastS (Jq n up ranks roots costs dev n.ports.length) (by unfold Am;omega)
  generalize J7 (Jq n up ranks roots costs dev n.ports.length)=r at hls hbi
  obtain ⟨v,ok⟩:=r
  simp only at hls hbi
  rw[hbi]
  ((first|refine rG Γ hm ?_|refine rD Γ hm qq ?_);(conv=>whnf);repeat((first|refine aF ?_|refine aT ?_);(first|refine rG Γ hm ?_|refine rD Γ hm qq ?_);conv=>whnf))
  refine Au 1000 E ?_
  refine Ah hls F162 E E E E E ?_
  ((first|refine rG Γ hm ?_|refine rD Γ hm qq ?_);(conv=>whnf);repeat((first|refine aF ?_|refine aT ?_);(first|refine rG Γ hm ?_|refine rD Γ hm qq ?_);conv=>whnf))
  (repeat' (first | (refine⟨fun h=>?_,fun h=>?_⟩<;>(repeat (first | simp only[Ag]at h | simp only[decide_eq_true_eq]at h | simp only[decide_eq_false_iff_not]at h | simp only[beq_iff_eq]at h | simp only[beq_eq_false_iff_ne]at h | simp only[bne_iff_ne]at h | simp only[bne_eq_false_iff_eq]at h | simp only[Bool.and_eq_true]at h | simp only[Bool.or_eq_true]at h | simp only[Bool.and_eq_false_iff]at h | simp only[Bool.or_eq_false_iff]at h | simp only[Bool.not_eq_true']at h | simp only[Bool.not_eq_false']at h | simp only[Bool.not_eq_eq_eq_not]at h | simp only[Bool.not_true]at h | simp only[Bool.not_false]at h))<;>((first|refine rg ?_|refine rd qq ?_);(conv=>whnf);repeat((first|refine aF ?_|refine aT ?_);(first|refine rg ?_|refine rd qq ?_);(conv=>whnf)))) | (refine Ac rfl (.cons .tmp .nil) ?_ rfl) | (refine⟨qq,?_⟩;((conv=>whnf);repeat((first|refine aF ?_|refine aT ?_);(first|refine rg ?_|refine rd qq ?_);(conv=>whnf)))) | (refine⟨by (first | (unfold I64;omega) | omega | (simp only[Int.toNat_natCast];omega) | done),by (first | (unfold I64;omega) | omega | (simp only[Int.toNat_natCast];omega) | done),?_⟩;((conv=>whnf);repeat((first|refine aF ?_|refine aT ?_);(first|refine rg ?_|refine rd qq ?_);(conv=>whnf)))) | (refine⟨by (first | (unfold I64;omega) | omega | (simp only[Int.toNat_natCast];omega) | done),?_⟩;((conv=>whnf);repeat((first|refine aF ?_|refine aT ?_);(first|refine rg ?_|refine rd qq ?_);(conv=>whnf))))))
  all_goals (refine congrArg Aa ?_;clear hF hls hbi;grind)
theorem best_lt {n:Net} {up:List Bool} {ranks roots costs:List Int} {dev:Int} (h:0≤M1 n up ranks roots costs dev):M1 n up ranks roots costs dev<n.ports.length:=by
 have hmem:=@leastR_mem (Jq n up ranks roots costs dev n.ports.length)
 unfold M1 at *
 simp only at *
 split at h
 ·omega
 ·rename_i hc
  rw[if_neg hc]
  simp only[Bool.or_eq_true,Bool.not_eq_true',not_or]at hc
  have h2:=hmem (by simpa using hc.1)
  obtain ⟨i,hi,he⟩:=List.mem_filterMap.1 h2
  have hi:=List.mem_range.1 hi
  unfold Wk at he
  simp only at he
  split at he
  ·have e:=congrArg Vec.own (Option.some.inj he)
   simp only at e
   omega
  ·cases he
def Afb (n:Net) (up:List Bool) (ranks costs:List Int) (i:Nat):Int :=
 if Cs n up i<0 then 0 else if I8 n ranks costs i (Cs n up i).toNat then 2 else 3
def E2 (n:Net) (up:List Bool) (ranks costs:List Int) (j:Nat):List Int:=(List.range n.ports.length).map fun i=>if i<j then Afb n up ranks costs i else 0
theorem Mk (n:Net) (up:List Bool) (ranks costs:List Int) (j:Nat):(E2 n up ranks costs j).length=n.ports.length:=by simp[E2]
theorem Aat (n:Net) (up:List Bool) (ranks costs:List Int):E2 n up ranks costs 0=List.replicate n.ports.length 0:=by
 rw[E2]
 exact List.ext_getElem qy qy
theorem Aau (n:Net) (up:List Bool) (ranks costs:List Int) (j:Nat) (hj:j<n.ports.length):E2 n up ranks costs (j+1)=(E2 n up ranks costs j).set j (Afb n up ranks costs j):=by
 refine List.ext_getElem (by simp[E2]) (fun i h1 h2=>?_)
 rw[List.getElem_set]
 simp only[E2,List.getElem_map,List.getElem_range]
 rcases Nat.lt_trichotomy i j with h | h | h
 ·rw[if_pos qn,if_neg qn,if_pos h]
 ·subst h;rw[if_pos qn,if_pos rfl]
 ·rw[if_neg qn,if_neg qn,if_neg qn]
theorem Aav (n:Net) (up:List Bool) (ranks costs:List Int) (j:Nat) (h:Afb n up ranks costs j=0):E2 n up ranks costs (j+1)=E2 n up ranks costs j:=by
 simp only[E2]
 refine List.map_congr_left (fun i _=>?_)
 by_cases hij:i<j
 ·rw[if_pos qn,if_pos hij]
 ·by_cases he:i=j
  ·subst he;rw[if_pos qn,if_neg hij,h]
  ·rw[if_neg qn,if_neg hij]
def I1 (n:Net) (up:List Bool) (ranks roots costs:List Int):Nat→List Int
 | 0=>E2 n up ranks costs n.ports.length
 | d+1=>if 0≤M1 n up ranks roots costs d then (I1 n up ranks roots costs d).set (M1 n up ranks roots costs d).toNat 1 else I1 n up ranks roots costs d
theorem Ha (n:Net) (up:List Bool) (ranks roots costs:List Int):∀ d,(I1 n up ranks roots costs d).length=n.ports.length
 | 0=>Mk n up ranks costs _
 | d+1=>by
  rw[I1]
  split
  ·rw[List.length_set,Ha]
  ·rw[Ha]
theorem rolesS (n:Net) (up:List Bool) (ranks roots costs:List Int) (hr:Af n=true) (hu:up.length=n.links.length) (hcost:Ct n=true) (hrk:ranks.length=n.devices.length) (hro:roots.length=n.devices.length) (hc:costs.length=n.devices.length)
  (hb:∀ c∈costs,0≤c∧c<1000000000) :
  Sy.Spec Tryz.prog 79 [Kr n up ranks roots costs] [] (.sl 1 Aa (I1 n up ranks roots costs n.devices.length)) []:=Ab Γ hm 100 F79 Tryz.ntmps79 rfl fun F hF=>by
 have hf:=Dk hr
 ((conv=>whnf);repeat((first|refine aF ?_|refine aT ?_);(first|refine rG Γ hm ?_|refine rD Γ hm qq ?_);conv=>whnf))
 refine Ai (Bw Γ.toTy (d:=14) (n:=n.ports.length) Aa 0 E E E E E E E E qn qn E E E) E E ?_
 rw[← Aat n up ranks costs]
 ((first|refine rG Γ hm ?_|refine rD Γ hm qq ?_);(conv=>whnf);repeat((first|refine aF ?_|refine aT ?_);(first|refine rG Γ hm ?_|refine rD Γ hm qq ?_);conv=>whnf))
 refine A2 n.ports.length (fun j=>[(0,Kr n up ranks roots costs),(3,.osl 14),(20,Aa n.ports.length),(21,Aa j)]) (fun j=>[(14,.row 1 Aa (E2 n up ranks costs j))]) []
  ⟨⟨rfl,rfl,rfl,rfl,rfl,rfl,rfl,rfl,trivial⟩,⟨.inl rfl,rfl,trivial⟩,rfl,rfl⟩ ?_
 intro j hj
 ((first|refine rG Γ hm ?_|refine rD Γ hm qq ?_);(conv=>whnf);repeat((first|refine aF ?_|refine aT ?_);(first|refine rG Γ hm ?_|refine rD Γ hm qq ?_);conv=>whnf))
 refine⟨fun h=>?_,fun h=>?_⟩
 ·have hlt:j<n.ports.length:=by simpa using h
  have hfar:=farS n up ranks (.sl 1 Aa roots) (.sl 1 Aa costs) rfl j hr hu hlt
  have hfl:=V8 (up:=up) hr hlt
  have hlen:=Mk n up ranks costs j
  have hrole:Afb n up ranks costs j=if Cs n up j<0 then 0 else if I8 n ranks costs j (Cs n up j).toNat then 2 else 3:=rfl
  have hsucc:=Aau n up ranks costs j hlt
  have hsame:=Aav n up ranks costs j
  generalize Cs n up j=k at *
  ((first|refine rG Γ hm ?_|refine rD Γ hm qq ?_);(conv=>whnf);repeat((first|refine aF ?_|refine aT ?_);(first|refine rG Γ hm ?_|refine rD Γ hm qq ?_);conv=>whnf))
  refine Ah hfar F122 E E E E E ?_
  ((first|refine rG Γ hm ?_|refine rD Γ hm qq ?_);(conv=>whnf);repeat((first|refine aF ?_|refine aT ?_);(first|refine rG Γ hm ?_|refine rD Γ hm qq ?_);conv=>whnf))
  refine⟨fun h=>?_,fun h=>?_⟩
  ·have hk:k<0:=of_decide_eq_true h
   rw[if_pos hk]at hrole
   ((first|refine rG Γ hm ?_|refine rD Γ hm qq ?_);(conv=>whnf);repeat((first|refine aF ?_|refine aT ?_);(first|refine rG Γ hm ?_|refine rD Γ hm qq ?_);conv=>whnf))
   refine⟨by unfold I64;omega,?_⟩
   ((conv=>whnf);repeat((first|refine aF ?_|refine aT ?_);(first|refine rG Γ hm ?_|refine rD Γ hm qq ?_);conv=>whnf))
   exact Av [] hlt ⟨⟨E,E,E,E,E,E,E,E,Y⟩,⟨.inl (congrArg (Ob.row 1 Aa) (hsame hrole)),E,Y⟩,E,E⟩
  have hk:¬ k<0:=of_decide_eq_false h
  rw[if_neg hk]at hrole
  obtain ⟨m,rfl⟩:∃ m:Nat,k=m:=⟨k.toNat,by omega⟩
  have hah:=Ac2 n up ranks roots costs j m hr hrk hc hlt qn
  rw[Int.toNat_natCast]at hrole
  ((first|refine rG Γ hm ?_|refine rD Γ hm qq ?_);(conv=>whnf);repeat((first|refine aF ?_|refine aT ?_);(first|refine rG Γ hm ?_|refine rD Γ hm qq ?_);conv=>whnf))
  refine Ah hah F123 E E E E E ?_
  ((first|refine rG Γ hm ?_|refine rD Γ hm qq ?_);(conv=>whnf);repeat((first|refine aF ?_|refine aT ?_);(first|refine rG Γ hm ?_|refine rD Γ hm qq ?_);conv=>whnf))
  refine⟨fun h=>?_,fun h=>?_⟩
  ·rw[h,if_pos rfl]at hrole
   rw[hrole]at hsucc
   ((first|refine rG Γ hm ?_|refine rD Γ hm qq ?_);(conv=>whnf);repeat((first|refine aF ?_|refine aT ?_);(first|refine rG Γ hm ?_|refine rD Γ hm qq ?_);conv=>whnf))
   refine⟨by omega,by omega,?_⟩
   ((conv=>whnf);repeat((first|refine aF ?_|refine aT ?_);(first|refine rG Γ hm ?_|refine rD Γ hm qq ?_);conv=>whnf))
   refine⟨E,by omega,2,E,E,?_⟩
   ((conv=>whnf);repeat((first|refine aF ?_|refine aT ?_);(first|refine rG Γ hm ?_|refine rD Γ hm qq ?_);conv=>whnf))
   refine⟨by unfold I64;omega,?_⟩
   ((conv=>whnf);repeat((first|refine aF ?_|refine aT ?_);(first|refine rG Γ hm ?_|refine rD Γ hm qq ?_);conv=>whnf))
   exact Av [] hlt ⟨⟨E,E,E,E,E,E,E,E,Y⟩,⟨.inl (congrArg (Ob.row 1 Aa) hsucc),E,Y⟩,E,E⟩
  ·rw[h]at hrole
   simp only[Bool.false_eq_true,if_false]at hrole
   rw[hrole]at hsucc
   ((first|refine rG Γ hm ?_|refine rD Γ hm qq ?_);(conv=>whnf);repeat((first|refine aF ?_|refine aT ?_);(first|refine rG Γ hm ?_|refine rD Γ hm qq ?_);conv=>whnf))
   refine⟨by omega,by omega,?_⟩
   ((conv=>whnf);repeat((first|refine aF ?_|refine aT ?_);(first|refine rG Γ hm ?_|refine rD Γ hm qq ?_);conv=>whnf))
   refine⟨E,by omega,3,E,E,?_⟩
   ((conv=>whnf);repeat((first|refine aF ?_|refine aT ?_);(first|refine rG Γ hm ?_|refine rD Γ hm qq ?_);conv=>whnf))
   refine⟨by unfold I64;omega,?_⟩
   ((conv=>whnf);repeat((first|refine aF ?_|refine aT ?_);(first|refine rG Γ hm ?_|refine rD Γ hm qq ?_);conv=>whnf))
   exact Av [] hlt ⟨⟨E,E,E,E,E,E,E,E,Y⟩,⟨.inl (congrArg (Ob.row 1 Aa) hsucc),E,Y⟩,E,E⟩
 have hjl:j=n.ports.length:=by
  have:¬ j<n.ports.length:=by simpa using h
  omega
 subst hjl
 ((first|refine rG Γ hm ?_|refine rD Γ hm qq ?_);(conv=>whnf);repeat((first|refine aF ?_|refine aT ?_);(first|refine rG Γ hm ?_|refine rD Γ hm qq ?_);conv=>whnf))
 refine A2 n.devices.length (fun d=>[(0,Kr n up ranks roots costs),(3,.osl 14),(47,Aa n.devices.length),(48,Aa d)]) (fun d=>[(14,.row 1 Aa (I1 n up ranks roots costs d))]) []
  ⟨⟨rfl,rfl,rfl,rfl,rfl,rfl,rfl,rfl,trivial⟩,⟨.inl rfl,rfl,trivial⟩,rfl,rfl⟩ ?_
 clear hj h
 intro d hdle
 ((first|refine rG Γ hm ?_|refine rD Γ hm qq ?_);(conv=>whnf);repeat((first|refine aF ?_|refine aT ?_);(first|refine rG Γ hm ?_|refine rD Γ hm qq ?_);conv=>whnf))
 refine⟨fun h=>?_,fun h=>?_⟩
 ·have hlt:d<n.devices.length:=by simpa using h
  have hbs:=bestS n up ranks roots costs d hr hu hcost hrk hro hc hb qn
  have hbl:=@best_lt n up ranks roots costs d
  have hlen:=Ha n up ranks roots costs d
  have hsucc:I1 n up ranks roots costs (d+1)=if 0≤M1 n up ranks roots costs d then (I1 n up ranks roots costs d).set (M1 n up ranks roots costs d).toNat 1 else I1 n up ranks roots costs d:=rfl
  generalize M1 n up ranks roots costs d=k at *
  ((first|refine rG Γ hm ?_|refine rD Γ hm qq ?_);(conv=>whnf);repeat((first|refine aF ?_|refine aT ?_);(first|refine rG Γ hm ?_|refine rD Γ hm qq ?_);conv=>whnf))
  refine Ah hbs F124 E E E E E ?_
  ((first|refine rG Γ hm ?_|refine rD Γ hm qq ?_);(conv=>whnf);repeat((first|refine aF ?_|refine aT ?_);(first|refine rG Γ hm ?_|refine rD Γ hm qq ?_);conv=>whnf))
  refine⟨fun h=>?_,fun h=>?_⟩
  ·have hk:0≤k:=of_decide_eq_true h
   rw[if_pos hk]at hsucc
   ((first|refine rG Γ hm ?_|refine rD Γ hm qq ?_);(conv=>whnf);repeat((first|refine aF ?_|refine aT ?_);(first|refine rG Γ hm ?_|refine rD Γ hm qq ?_);conv=>whnf))
   refine⟨hk,by omega,?_⟩
   ((conv=>whnf);repeat((first|refine aF ?_|refine aT ?_);(first|refine rG Γ hm ?_|refine rD Γ hm qq ?_);conv=>whnf))
   refine⟨E,by omega,1,E,E,?_⟩
   ((conv=>whnf);repeat((first|refine aF ?_|refine aT ?_);(first|refine rG Γ hm ?_|refine rD Γ hm qq ?_);conv=>whnf))
   refine⟨by unfold I64;omega,?_⟩
   ((conv=>whnf);repeat((first|refine aF ?_|refine aT ?_);(first|refine rG Γ hm ?_|refine rD Γ hm qq ?_);conv=>whnf))
   exact Av [] hlt ⟨⟨E,E,E,E,E,E,E,E,Y⟩,⟨.inl (congrArg (Ob.row 1 Aa) hsucc),E,Y⟩,E,E⟩
  ·have hk:¬ 0≤k:=of_decide_eq_false h
   rw[if_neg hk]at hsucc
   ((first|refine rG Γ hm ?_|refine rD Γ hm qq ?_);(conv=>whnf);repeat((first|refine aF ?_|refine aT ?_);(first|refine rG Γ hm ?_|refine rD Γ hm qq ?_);conv=>whnf))
   refine⟨by unfold I64;omega,?_⟩
   ((conv=>whnf);repeat((first|refine aF ?_|refine aT ?_);(first|refine rG Γ hm ?_|refine rD Γ hm qq ?_);conv=>whnf))
   exact Av [] hlt ⟨⟨E,E,E,E,E,E,E,E,Y⟩,⟨.inl (congrArg (Ob.row 1 Aa) hsucc),E,Y⟩,E,E⟩
 have hdl:d=n.devices.length:=by
  have:¬ d<n.devices.length:=by simpa using h
  omega
 subst hdl
 ((first|refine rG Γ hm ?_|refine rD Γ hm qq ?_);(conv=>whnf);repeat((first|refine aF ?_|refine aT ?_);(first|refine rG Γ hm ?_|refine rD Γ hm qq ?_);conv=>whnf))
 refine Au 14 E ?_
 exact Ac E (.cons .tmp .nil) E E
def Xi (n:Net) (up:List Bool) (ranks:List Int) (roots costs:List Int):Obs:=[(0,.box (Mj n up ranks (.osl 1) (.osl 2))),(1,.row 1 Aa roots),(2,.row 1 Aa costs)]
theorem farR (n:Net) (up:List Bool) (ranks roots costs:List Int) (i:Nat) (hr:Af n=true) (hu:up.length=n.links.length) (hi:i<n.ports.length) :
  Sy.Spec Tryz.prog 122 [.ptr 0 0,Aa i] (Xi n up ranks roots costs) (Aa (Cs n up i)) (Xi n up ranks roots costs):=Ab Γ hm 100 F122 Tryz.ntmps122 rfl fun F hF=>by
 have hpl:=Lv hr hi
 have hf:=Dk hr
 have e1:n.ports[(i:Int).toNat]'qn=n.ports[i]:=rfl
 have hfar:Cs n up i=if n.ports[i].link<0 || !(up.getD n.ports[i].link.toNat false) then -1 else (nth n.links n.ports[i].link).a+(nth n.links n.ports[i].link).b-i:=by
  rw[Cs,Az hi]
 generalize hp:n.ports[i]=p at *
 have hle:=fun h=>Jg hr (i:=p.link.toNat) h
 ((conv=>whnf);repeat((first|refine aF ?_|refine aT ?_);(first|refine rG Γ hm ?_|refine rD Γ hm qq ?_);conv=>whnf))
 refine⟨E,by omega,by omega,?_⟩
 rw[e1]
 ((conv=>whnf);repeat((first|refine aF ?_|refine aT ?_);(first|refine rG Γ hm ?_|refine rD Γ hm qq ?_);conv=>whnf))
 (repeat' (first | (refine⟨fun h=>?_,fun h=>?_⟩<;>(repeat (first | simp only[Ag]at h | simp only[decide_eq_true_eq]at h | simp only[decide_eq_false_iff_not]at h | simp only[beq_iff_eq]at h | simp only[beq_eq_false_iff_ne]at h | simp only[bne_iff_ne]at h | simp only[bne_eq_false_iff_eq]at h | simp only[Bool.and_eq_true]at h | simp only[Bool.or_eq_true]at h | simp only[Bool.and_eq_false_iff]at h | simp only[Bool.or_eq_false_iff]at h | simp only[Bool.not_eq_true']at h | simp only[Bool.not_eq_false']at h | simp only[Bool.not_eq_eq_eq_not]at h | simp only[Bool.not_true]at h | simp only[Bool.not_false]at h))<;>((first|refine rg ?_|refine rd qq ?_);(conv=>whnf);repeat((first|refine aF ?_|refine aT ?_);(first|refine rg ?_|refine rd qq ?_);(conv=>whnf)))) | (refine Ac rfl (.cons .tmp .nil) ?_ rfl) | (refine⟨qq,?_⟩;((conv=>whnf);repeat((first|refine aF ?_|refine aT ?_);(first|refine rg ?_|refine rd qq ?_);(conv=>whnf)))) | (refine⟨by (first | (unfold I64;omega) | omega | (simp only[Int.toNat_natCast];omega) | ((have hq:=hle qn;unfold I64;omega))),by (first | (unfold I64;omega) | omega | (simp only[Int.toNat_natCast];omega) | ((have hq:=hle qn;unfold I64;omega))),?_⟩;((conv=>whnf);repeat((first|refine aF ?_|refine aT ?_);(first|refine rg ?_|refine rd qq ?_);(conv=>whnf)))) | (refine⟨by (first | (unfold I64;omega) | omega | (simp only[Int.toNat_natCast];omega) | ((have hq:=hle qn;unfold I64;omega))),?_⟩;((conv=>whnf);repeat((first|refine aF ?_|refine aT ?_);(first|refine rg ?_|refine rd qq ?_);(conv=>whnf)))) | refine done rfl (.cons .tmp .nil) [] (Xi n up ranks roots costs) (fun _ h=>h) ?_ rfl ⟨trivial,⟨.inl rfl,rfl,.inl rfl,rfl,.inl rfl,rfl,trivial⟩,rfl,rfl⟩))
 all_goals (refine congrArg Aa ?_;rw[hfar])
 ·simp_all
 ·have h1:up.getD p.link.toNat false=false:=by rw[Az qn];assumption
  rw[h1];simp
 ·have h1:up.getD p.link.toNat false=true:=by rw[Az qn];assumption
  rw[h1,Ao qn]
  simp_all
def Ck (n:Net) (up:List Bool) (x:Item) (q:List Item) (i:Nat):List Item :=
 if (n.ports.getD i default).dev=x.dev∧0≤Cs n up i then Mm q ⟨x.root,x.cost+(nth n.ports (Cs n up i)).cost,(nth n.ports (Cs n up i)).dev⟩ else q
def J3 (n:Net) (up:List Bool) (s:List Item × List Int × List Int):List Item × List Int × List Int :=
 let x:=(Cd s.1).getLast?.getD default
 let q:=(Cd s.1).dropLast
 if 0≤nth s.2.1 x.dev then (q,s.2) else ((List.range n.ports.length).foldl (Ck n up x) q,s.2.1.set x.dev.toNat x.root,s.2.2.set x.dev.toNat x.cost)
def D6 (n:Net) (up:List Bool):Nat→List Item × List Int × List Int→List Item × List Int × List Int
 | 0,s=>s
 | f+1,s=>if s.1=[] then s else D6 n up f (J3 n up s)
end Go.Sy.YtnlacjgkdjnhmaaGreat
namespace Go.Sy.YtnlacjgkdjnhmaaGreat
theorem M4 (q:List Item) (i j:Nat) (hi:i<q.length) (hj:j<q.length):(C4 q i j).Perm q:=by
 rw[C4,Az hi,Az hj]
 exact List.set_set_perm hi hj
theorem Aab:∀ (f:Nat) (q:List Item) (j:Nat),j<q.length→(upF f q j).Perm q
 | 0,_,_,_=>.refl _
 | f+1,q,j,hj=>by
  rw[upF]
  split
  ·exact .refl _
  ·split
   ·exact(Aab f _ _ (by rw[Aw];omega)).trans (M4 q _ _ qn hj)
   ·exact .refl _
theorem Wd:∀ (f:Nat) (q:List Item) (i n:Nat),i<q.length→n≤q.length→(C1 f q i n).1.Perm q
 | 0,_,_,_,_,_=>.refl _
 | f+1,q,i,n,hi,hn=>by
  rw[C1]
  split
  ·rename_i h
   have hc:=Jp q i n h
   split
   ·exact(Wd f _ _ n (by rw[Aw];omega) (by rw[Aw];exact hn)).trans (M4 q _ _ hi qn)
   ·exact .refl _
  ·exact .refl _
theorem J4 (q:List Item) (x:Item):(Mm q x).Perm (x::q) :=
 (Aab _ _ _ qy).trans (List.perm_append_comm (l₁:=q) (l₂:=[x]))
theorem Hx (q:List Item) (x:Item):(Mm q x).length=q.length+1:=by rw[Mm,Ug];simp
theorem Lw (q:List Item) (hq:q≠[]):(Cd q).Perm q:=by
 have h0:0<q.length:=List.length_pos_iff.2 hq
 exact(Wd _ _ _ _ (by rw[Aw];exact h0) (by rw[Aw];omega)).trans (M4 q _ _ h0 qn)
def Io (q:List Item) (n:Nat):Prop:=∀ c,0<c→c<n→c<q.length→Bo (q.getD c default) (q.getD ((c-1) / 2) default)=false
theorem J8 {x y z:Item} (h1:Bo y x=false) (h2:Bo z y=false):Bo z x=false:=by
 unfold Bo at *
 grind
theorem Ad6 {q:List Item} {n:Nat} (h:Io q n) (hn:n≤q.length):∀ c,c<n→Bo (q.getD c default) (q.getD 0 default)=false:=by
 intro c
 induction c using Nat.strongRecOn with
 | ind c ih =>
  intro hc
  rcases Nat.eq_zero_or_pos c with h0 | h0
  ·subst h0;unfold Bo;grind
  ·have h1:=h c h0 hc qn
   have h2:=ih ((c-1) / 2) qn qn
   exact J8 h2 h1
theorem Df (q:List Item) (i j c:Nat) (hi:i<q.length) (hj:j<q.length):(C4 q i j).getD c default=if c=j then q.getD i default else if c=i then q.getD j default else q.getD c default:=by
 rw[C4]
 simp only[List.getD_eq_getElem?_getD,List.getElem?_set,List.length_set]
 by_cases h1:c=j
 ·subst h1;simp[hj]
 ·rw[if_neg (Ne.symm h1),if_neg h1]
  by_cases h2:c=i
  ·subst h2;simp[hi]
  ·rw[if_neg (Ne.symm h2),if_neg h2]
theorem J9 {x y:Item} (h:Bo x y=true):Bo y x=false:=by
 unfold Bo at *
 grind
structure UpInv (q:List Item) (j n:Nat):Prop where
 heap:∀ c,0<c→c<n→c≠j→Bo (q.getD c default) (q.getD ((c-1) / 2) default)=false
 over:∀ c,0<c→c<n→(c-1) / 2=j→0<j→Bo (q.getD c default) (q.getD ((j-1) / 2) default)=false
theorem Aac (n:Nat):∀ (f:Nat) (q:List Item) (j:Nat),j≤f→j<n→n≤q.length→UpInv q j n→Io (upF f q j) n
 | 0,q,j,hf,hj,hn,hI=>by
  have:j=0:=by omega
  subst this
  exact fun c h0 hc _=>hI.heap c h0 hc qn
 | f+1,q,j,hf,hj,hn,hI=>by
  rw[upF]
  split
  ·rename_i h0
   subst h0
   exact fun c h0 hc _=>hI.heap c h0 hc qn
  ·rename_i h0
   split
   ·rename_i hlt
    have hp:(j-1) / 2<j:=by omega
    refine Aac n f _ _ qn qn (by rw[Aw];exact hn) ⟨fun c hc0 hcn hcp=>?_,fun c hc0 hcn hpar hp0=>?_⟩
    ·rw[Df _ _ _ _ qn qn,Df _ _ _ _ qn qn]
     by_cases hcj:c=j
     ·subst hcj
      rw[if_pos rfl,if_neg qn,if_pos rfl]
      exact J9 hlt
     ·rw[if_neg hcj,if_neg hcp]
      by_cases hpj:(c-1) / 2=j
      ·rw[if_pos hpj]
       exact hI.over c hc0 hcn hpj qn
      ·rw[if_neg hpj]
       by_cases hpp:(c-1) / 2=(j-1) / 2
       ·rw[if_pos hpp]
        have:=hI.heap c hc0 hcn hcj
        rw[hpp]at this
        exact J8 (J9 hlt) this
       ·rw[if_neg hpp]
        exact hI.heap c hc0 hcn hcj
    ·rw[Df _ _ _ _ qn qn,Df _ _ _ _ qn qn]
     have hpI:=hI.heap ((j-1) / 2) hp0 qn qn
     rw[if_neg (show ((j-1) / 2-1) / 2≠j by omega),if_neg (show ((j-1) / 2-1) / 2≠(j-1) / 2 by omega)]
     by_cases hcj:c=j
     ·rw[if_pos hcj];exact hpI
     ·rw[if_neg hcj,if_neg qn]
      have:=hI.heap c hc0 hcn hcj
      rw[hpar]at this
      exact J8 hpI this
   ·rename_i hlt
    intro c hc0 hcn _
    by_cases hcj:c=j
    ·subst hcj;simpa using hlt
    ·exact hI.heap c hc0 hcn hcj
theorem Jk {q r:List Item} {c:Nat} (h:c<q.length):(q++r).getD c default=q.getD c default:=by
 simp[List.getD_eq_getElem?_getD,List.getElem?_append_left h]
theorem U6 (q:List Item) (x:Item) (h:Io q q.length):Io (Mm q x) (Mm q x).length:=by
 rw[Hx]
 refine Aac (q.length+1) _ _ _ (Nat.le_refl _) qn qy ⟨fun c hc0 hcn hcj=>?_,fun c hc0 hcn hpar hp0=>by omega⟩
 rw[Jk qn,Jk qn]
 exact h c hc0 qn qn
structure DownInv (q:List Item) (i n:Nat):Prop where
 heap:∀ c,0<c→c<n→(c-1) / 2≠i→Bo (q.getD c default) (q.getD ((c-1) / 2) default)=false
 over:∀ c,0<c→c<n→(c-1) / 2=i→0<i→Bo (q.getD c default) (q.getD ((i-1) / 2) default)=false
theorem Ahs (q:List Item) (i n c:Nat) (_h:2 * i+1<n) (hc0:0<c) (hc:c<n) (hp:(c-1) / 2=i):Bo (q.getD c default) (q.getD (C0 q i n) default)=false:=by
 have hcc:c=2 * i+1∨c=2 * i+2:=by omega
 unfold C0
 split
 ·rename_i hh
  rcases hcc with rfl | rfl
  ·exact J9 hh.2
  ·unfold Bo;grind
 ·rename_i hh
  rcases hcc with rfl | rfl
  ·unfold Bo;grind
  ·cases hlt:Bo (q.getD (2 * i+2) default) (q.getD (2 * i+1) default) with
   | false=>rfl
   | true=>exact absurd ⟨hc,hlt⟩ hh
theorem We (n:Nat):∀ (f:Nat) (q:List Item) (i:Nat),n≤f+i→i<q.length→n≤q.length→DownInv q i n→Io (C1 f q i n).1 n
 | 0,q,i,hf,hi,hn,hI=>fun c hc0 hc _=>hI.heap c hc0 hc qn
 | f+1,q,i,hf,hi,hn,hI=>by
  rw[C1]
  split
  ·rename_i h
   have hcl:=Jp q i n h
   have hpar:(C0 q i n-1) / 2=i:=by unfold C0;split<;>omega
   have hle:=fun c=>Ahs q i n c h
   generalize C0 q i n=k at *
   split
   ·rename_i hlt
    refine We n f _ _ qn (by rw[Aw];omega) (by rw[Aw];exact hn) ⟨fun c hc0 hcn hck=>?_,fun c hc0 hcn hcp hk0=>?_⟩
    ·rw[Df _ _ _ _ hi qn,Df _ _ _ _ hi qn,if_neg hck]
     by_cases hc1:c=k
     ·subst hc1
      rw[if_pos rfl,if_pos hpar]
      exact J9 hlt
     ·rw[if_neg hc1]
      by_cases hc2:c=i
      ·subst hc2
       rw[if_pos rfl,if_neg qn]
       exact hI.over k qn hcl.1 hpar hc0
      ·rw[if_neg hc2]
       by_cases hc3:(c-1) / 2=i
       ·rw[if_pos hc3];exact hle c hc0 hcn hc3
       ·rw[if_neg hc3];exact hI.heap c hc0 hcn hc3
    ·rw[Df _ _ _ _ hi qn,Df _ _ _ _ hi qn]
     rw[if_neg qn,if_neg qn,hpar,if_neg qn,if_pos rfl]
     have:=hI.heap c hc0 hcn qn
     rwa [hcp]at this
   ·rename_i hlt
    intro c hc0 hcn _
    by_cases hc3:(c-1) / 2=i
    ·rw[hc3]
     exact J8 (by simpa using hlt) (hle c hc0 hcn hc3)
    ·exact hI.heap c hc0 hcn hc3
  ·exact fun c hc0 hc _=>hI.heap c hc0 hc qn
theorem Wc (n:Nat):∀ (f:Nat) (q:List Item) (i c:Nat),i<n→n≤q.length→n≤c→(C1 f q i n).1.getD c default=q.getD c default
 | 0,_,_,_,_,_,_=>rfl
 | f+1,q,i,c,hi,hn,hc=>by
  rw[C1]
  split
  ·rename_i h
   have hcl:=Jp q i n h
   split
   ·rw[Wc n f _ _ c qn (by rw[Aw];exact hn) hc,Df _ _ _ _ qn qn,if_neg qn,if_neg qn]
   ·rfl
  ·rfl
theorem Aa2 (q:List Item) (hq:q≠[]):(Cd q).getLast (C3 hq)=q.getD 0 default:=by
 have h0:0<q.length:=List.length_pos_iff.2 hq
 rw[List.getLast_eq_getElem,← Az (show (Cd q).length-1<(Cd q).length by rw[C9];omega),C9]
 by_cases h1:q.length=1
 ·have:Cd q=q:=by
   obtain ⟨x,rfl⟩:=List.length_eq_one_iff.1 h1
   rfl
  rw[this,h1]
 ·rw[Cd,Wc _ _ _ _ _ qn (by rw[Aw];omega) (Nat.le_refl _),Df _ _ _ _ h0 qn,if_pos rfl]
theorem Ags (q:List Item) (hq:q≠[]):(Cd q).dropLast++[q.getD 0 default]=Cd q:=by
 rw[← Aa2 q hq];exact List.dropLast_concat_getLast (C3 hq)
theorem Ai5 (q:List Item) (hq:q≠[]):(q.getD 0 default::(Cd q).dropLast).Perm q :=
 ((List.perm_append_comm (l₁:=[q.getD 0 default]) (l₂:=(Cd q).dropLast)).trans (by rw[Ags q hq])).trans (Lw q hq)
theorem Ai6 (q:List Item) (hq:q≠[]) (h:Io q q.length):Io (Cd q).dropLast (Cd q).dropLast.length:=by
 have h0:0<q.length:=List.length_pos_iff.2 hq
 have hd:(Cd q).dropLast.length=q.length-1:=by rw[List.length_dropLast,C9]
 have hh:Io (Cd q) (q.length-1):=by
  rw[Cd]
  refine We (q.length-1) _ _ _ qn (by rw[Aw];exact h0) (by rw[Aw];omega) ⟨fun c hc0 hcn hp=>?_,fun c hc0 hcn hp h=>by omega⟩
  rw[Df _ _ _ _ h0 qn,Df _ _ _ _ h0 qn,if_neg qn,if_neg qn,if_neg qn,if_neg hp]
  exact h c hc0 qn qn
 intro c hc0 hcn _
 rw[hd]at hcn
 have hl:=C9 q
 have e:∀ k,k<q.length-1→(Cd q).dropLast.getD k default=(Cd q).getD k default:=fun k hk=>by
  rw[Az (show k<(Cd q).dropLast.length by omega),Az (show k<(Cd q).length by omega),List.getElem_dropLast]
 rw[e c hcn,e _ qn]
 exact hh c hc0 hcn qn
theorem Agt (q:List Item) (h:Io q q.length):∀ x∈q,Bo x (q.getD 0 default)=false:=fun x hx=>by
 obtain ⟨c,hc,rfl⟩:=List.getElem_of_mem hx
 have:=Ad6 h (Nat.le_refl _) c hc
 rwa [Az hc]at this
def Dd (ranks:List Int) (j:Nat):List Item:=(List.range j).foldl (fun q (i:Nat)=>Mm q ⟨ranks.getD i 0,0,i⟩) []
theorem Hf (ranks:List Int) (j:Nat):Dd ranks (j+1)=Mm (Dd ranks j) ⟨ranks.getD j 0,0,j⟩:=by
 rw[Dd,List.range_succ,List.foldl_append];rfl
theorem I0 (ranks:List Int):∀ j,(Dd ranks j).length=j
 | 0=>rfl
 | j+1=>by rw[Hf,Hx,I0 ranks j]
def Qb (roots:List Int):Nat:=roots.countP (fun r=>decide (r<0))
def reachM (s:List Item × List Int × List Int):Nat:=41 * Qb s.2.1+s.1.length
structure ReachInv (n:Net) (s:List Item × List Int × List Int):Prop where
 rootsL:s.2.1.length=n.devices.length
 costsL:s.2.2.length=n.devices.length
 items:∀ x∈s.1,0≤x.dev∧x.dev<n.devices.length∧0≤x.root∧0≤x.cost∧x.cost+65535 * Qb s.2.1≤65535 * n.devices.length
 few:s.1.length+40 * Qb s.2.1≤1000
theorem Ajt (roots:List Int):Qb roots≤roots.length:=List.countP_le_length
theorem Ag4 {roots:List Int} {i:Nat} {v:Int} (h:i<roots.length) (h0:roots[i]<0) (hv:0≤v):Qb (roots.set i v)+1=Qb roots:=by
 have h1:0<roots.countP (fun r=>decide (r<0)):=List.countP_pos_iff.2 ⟨roots[i],List.getElem_mem h,by simpa using h0⟩
 have hv':¬ v<0:=by omega
 rw[Qb,Qb,List.countP_set h]
 simp only[h0,hv',decide_true,decide_false,if_true,Bool.false_eq_true,if_false]
 omega
theorem Yu (n:Net) (up:List Bool) (x:Item) (hr:Af n=true) (hcost:Ct n=true) {m:Nat} (hx:0≤x.root∧0≤x.cost∧x.cost+65535 * (m+1)≤65535 * n.devices.length) (q:List Item)
  (hq:∀ y∈q,0≤y.dev∧y.dev<n.devices.length∧0≤y.root∧0≤y.cost∧y.cost+65535 * m≤65535 * n.devices.length) (i:Nat) (hi:i<n.ports.length) :
  (∀ y∈Ck n up x q i,0≤y.dev∧y.dev<n.devices.length∧0≤y.root∧0≤y.cost∧y.cost+65535 * m≤65535 * n.devices.length)∧(Ck n up x q i).length≤q.length+1:=by
 rw[Ck]
 split
 ·rename_i h
  have hlt:=V8 hr hi h.2
  have hk:(Cs n up i).toNat<n.ports.length:=by omega
  have hd:=Ky hr hk
  have hpc:1≤n.ports[(Cs n up i).toNat].cost∧n.ports[(Cs n up i).toNat].cost≤65535:=by
   simp only[Ct,Bool.not_eq_true',List.any_eq_false]at hcost
   have:=hcost _ (List.getElem_mem hk)
   simp only[Iw,Bool.or_eq_true,decide_eq_true_eq,not_or]at this
   omega
  have e:nth n.ports (Cs n up i)=n.ports[(Cs n up i).toNat]:=Ao (l:=n.ports) (i:=Cs n up i) qn
  rw[e]
  refine⟨fun y hy=>?_,by rw[Hx];omega⟩
  rcases List.mem_cons.1 ((J4 q _).mem_iff.1 hy) with rfl | hy
  ·simp only
   omega
  ·exact hq y hy
 ·exact⟨hq,by omega⟩
theorem U2 (n:Net) (up:List Bool) (x:Item) (hr:Af n=true) (hcost:Ct n=true) {m:Nat} (hx:0≤x.root∧0≤x.cost∧x.cost+65535 * (m+1)≤65535 * n.devices.length) (q:List Item)
  (hq:∀ y∈q,0≤y.dev∧y.dev<n.devices.length∧0≤y.root∧0≤y.cost∧y.cost+65535 * m≤65535 * n.devices.length):∀ i,i≤n.ports.length →
  (∀ y∈(List.range i).foldl (Ck n up x) q,0≤y.dev∧y.dev<n.devices.length∧0≤y.root∧0≤y.cost∧y.cost+65535 * m≤65535 * n.devices.length)∧((List.range i).foldl (Ck n up x) q).length≤q.length+i
 | 0,_=>⟨hq,by simp⟩
 | i+1,hi=>by
  obtain ⟨h1,h2⟩:=U2 n up x hr hcost hx q hq i qn
  rw[List.range_succ,List.foldl_append]
  obtain ⟨h3,h4⟩:=Yu n up x hr hcost hx _ h1 i qn
  exact⟨h3,by simp only[List.foldl_cons,List.foldl_nil];omega⟩
theorem Vo {q:List Item} (hq:q≠[]):(Cd q).getLast?.getD default=(Cd q).getLast (C3 hq):=by
 rw[List.getLast?_eq_some_getLast (C3 hq)];rfl
theorem H8 (n:Net) (up:List Bool) (hr:Af n=true) (hcost:Ct n=true) (s:List Item × List Int × List Int) (hI:ReachInv n s) (hne:s.1≠[]):ReachInv n (J3 n up s)∧reachM (J3 n up s)<reachM s:=by
 have hf:=Dk hr
 have hx:=hI.items _ ((Lw s.1 hne).mem_iff.1 (List.getLast_mem (C3 hne)))
 have hd:∀ y∈(Cd s.1).dropLast,y∈s.1:=fun y hy=>(Lw s.1 hne).mem_iff.1 ((List.dropLast_sublist _).subset hy)
 have h0:0<s.1.length:=List.length_pos_iff.2 hne
 have hdl:(Cd s.1).dropLast.length+1=s.1.length:=by rw[List.length_dropLast,C9];omega
 have hfew:=hI.few
 rw[J3,Vo hne]
 generalize (Cd s.1).getLast (C3 hne)=x at *
 split
 ·exact⟨⟨hI.rootsL,hI.costsL,fun y hy=>hI.items y (hd y hy),by simp only;omega⟩,by unfold reachM;simp only;omega⟩
 ·rename_i hneg
  have hk:x.dev.toNat<s.2.1.length:=by rw[hI.rootsL];omega
  rw[Ao (l:=s.2.1) (i:=x.dev) (by rw[hI.rootsL];omega)]at hneg
  have hm:=Ag4 hk qn hx.2.2.1
  obtain ⟨h1,h2⟩:=U2 n up x hr hcost (m:=Qb (s.2.1.set x.dev.toNat x.root)) ⟨hx.2.2.1,hx.2.2.2.1,by have:=hx.2.2.2.2;omega⟩ (Cd s.1).dropLast (fun y hy=>by have:=hI.items y (hd y hy);omega) n.ports.length (Nat.le_refl _)
  exact⟨⟨by simp only[List.length_set];exact hI.rootsL,by simp only[List.length_set];exact hI.costsL,h1,by simp only;omega⟩,by unfold reachM;simp only;omega⟩
theorem S0 (n:Net) (up:List Bool) (hr:Af n=true) (hcost:Ct n=true):∀ (f g:Nat) (s:List Item × List Int × List Int),ReachInv n s→reachM s≤f→reachM s≤g→D6 n up f s=D6 n up g s
 | 0,0,_,_,_,_=>rfl
 | 0,g+1,s,_,h,_=>by
  have:s.1=[]:=List.eq_nil_of_length_eq_zero (by unfold reachM at h;omega)
  rw[D6,D6,if_pos this]
 | f+1,0,s,_,_,h=>by
  have:s.1=[]:=List.eq_nil_of_length_eq_zero (by unfold reachM at h;omega)
  rw[D6,D6,if_pos this]
 | f+1,g+1,s,hI,h1,h2=>by
  rw[D6,D6]
  split
  ·rfl
  ·rename_i hne
   obtain ⟨h3,h4⟩:=H8 n up hr hcost s hI hne
   exact S0 n up hr hcost f g _ h3 qn qn
def Hk (n:Net) (up:List Bool) (s:List Item × List Int × List Int):List Item × List Int × List Int:=D6 n up (reachM s) s
theorem Ada (n:Net) (up:List Bool) (s:List Item × List Int × List Int) (h:s.1=[]):Hk n up s=s:=by
 rw[Hk]
 cases reachM s with
 | zero=>rfl
 | succ m=>rw[D6,if_pos h]
theorem Aay (n:Net) (up:List Bool) (hr:Af n=true) (hcost:Ct n=true) (s:List Item × List Int × List Int) (hI:ReachInv n s) (hne:s.1≠[]):Hk n up s=Hk n up (J3 n up s):=by
 obtain ⟨h3,h4⟩:=H8 n up hr hcost s hI hne
 rw[Hk,Hk]
 obtain ⟨m,hm⟩:∃ m,reachM s=m+1:=⟨reachM s-1,by omega⟩
 rw[hm,D6,if_neg hne]
 exact S0 n up hr hcost _ _ _ h3 qn (Nat.le_refl _)
theorem Sv (ranks:List Int) (m:Nat) (hrr:∀ r∈ranks,0≤r):∀ j,j≤ranks.length→∀ y∈Dd ranks j,0≤y.dev∧y.dev<m+ranks.length∧0≤y.root∧y.cost=0
 | 0,_,y,hy=>by simp[Dd]at hy
 | j+1,hj,y,hy=>by
  rw[Hf]at hy
  rcases List.mem_cons.1 ((J4 _ _).mem_iff.1 hy) with rfl | hy
  ·have h1:=hrr (ranks[j]'qn) (List.getElem_mem _)
   have h2:(0:Int)≤(j:Int)∧(j:Int)<m+ranks.length:=by omega
   exact⟨h2.1,h2.2,by rw[Az (show j<ranks.length by omega)];exact h1,E⟩
  ·exact Sv ranks m hrr j qn y hy
theorem Xh (n:Net) (ranks roots costs:List Int) (hr:Af n=true) (hrk:ranks.length=n.devices.length) (hro:roots.length=n.devices.length) (hc:costs.length=n.devices.length) (hrr:∀ r∈ranks,0≤r):ReachInv n (Dd ranks ranks.length,roots,costs):=by
 have hf:=Dk hr
 have hm:=Ajt roots
 refine⟨hro,hc,fun y hy=>?_,by simp only[I0];omega⟩
 have:=Sv ranks 0 hrr _ (Nat.le_refl _) y hy
 simp only
 omega
end Go.Sy.YtnlacjgkdjnhmaaGreat
