/-
  K4 K5 D0 K6 K7 K26 Sy24 T1 T2 T3 T4 V6 V7 V8 T5 T6 T7 T8 T9 T10 T11 T12 T13 T15 T16 T17 T14 T19 T21 Z0: parts of a proof, joined by program.
-/
import Derived.Test.YtmelpejjondedaaGreatI4
import Derived.Test.YtmelpejjondedaaGreatI3
namespace Go.Sy.YtmelpejjondedaaGreat
open Go.Proofs
attribute [local irreducible] Go.Sy.G Go.Sy.DR
set_option maxRecDepth 100000
set_option maxHeartbeats 4000000
theorem takeF_bad {b:List UInt8} (h:(takeF b).2 ≠ 0):(takeF b).1 = noF:=by
 unfold takeF at h ⊢
 split
 ·rfl
 rw [if_neg (by assumption)] at h
 split
 ·rfl
 rw [if_neg (by assumption)] at h
 exact absurd E h
theorem Yo {b:List UInt8} (h:(takeF b).2 = 0):FrameOK (takeF b).1:=by
 unfold takeF at h ⊢
 split
 ·rw [if_pos (by assumption)] at h; cases h
 rw [if_neg (by assumption)] at h
 split
 ·rw [if_pos (by assumption)] at h; cases h
 rename_i h1 h2
 have l1:((b.take 6).length) = 6:=by rw [List.length_take]; omega
 have l2:(((b.drop 6).take 6).length) = 6:=by rw [List.length_take,List.length_drop]; omega
 have l3:(((b.drop 12).take 2).length) = 2:=by rw [List.length_take,List.length_drop]; omega
 have a1:=Jb _ _ l1
 have a2:=Jb _ _ l2
 have a3:=Jb _ _ l3
 refine ⟨a1,a2,?_,?_⟩
 ·dsimp only; exact Nat.le_of_lt_succ a3
 ·dsimp only; rw [List.length_drop]; omega
theorem Agf {f:FrameM} (hf:FrameOK f) (h:(stripT f).2.2.2 = 0):FrameOK (stripT f).1:=by
 unfold stripT at h ⊢
 split
 ·rw [if_pos (by assumption)] at h; cases h
 rw [if_neg (by assumption)] at h
 split
 ·rw [if_pos (by assumption)] at h; cases h
 rw [if_neg (by assumption)] at h
 split
 ·rw [if_pos (by assumption)] at h; cases h
 rename_i h1 h2 h3
 have l3:(((f.body.drop 2).take 2).length) = 2:=by rw [List.length_take,List.length_drop]; omega
 have a3:=Jb _ _ l3
 have hb:=hf.body
 refine ⟨hf.dst,hf.src,?_,?_⟩
 ·dsimp only; exact Nat.le_of_lt_succ a3
 ·dsimp only; rw [List.length_drop]; omega
theorem strip_bad {f:FrameM} (h:(stripT f).2.2.2 ≠ 0):(stripT f).1 = noF ∧ (stripT f).2.1 = 0:=by
 unfold stripT at h ⊢
 split
 ·exact ⟨E,E⟩
 rw [if_neg (by assumption)] at h
 split
 ·exact ⟨E,E⟩
 rw [if_neg (by assumption)] at h
 split
 ·exact ⟨E,E⟩
 rw [if_neg (by assumption)] at h
 exact absurd E h
theorem Aac (n:Net) (hn:n.Fin) (port:Int) (b:List UInt8) (hb:b.length < 100000) :
  Sy.Spec Tryz.prog 100 [At n,Aa port,.sl 1 Ak b] [] (.tup [Aa (enterT n port b).1,Bu (enterT n port b).2.1,Aa (enterT n port b).2.2]) []:=Ab Γ hm 100 F100 Tryz.ntmps100 rfl fun F hF=>by
 have hres:=enterT.eq_1 n port b
 generalize enterT n port b = res at *
 have hr:=Bf n hn
 conv=>whnf
 by_cases hneg:port < 0
 ·rw [if_pos (.inl (by rw [Aj,decide_eq_false (by omega)]; rfl))] at hres
  subst hres
  (refine ⟨fun _=>?_,fun h=>False.elim (by simp at h; omega)⟩;refine rg ?_;(conv=>whnf);refine aT ?_;refine rg ?_;(conv=>whnf);refine aT ?_;refine rg ?_;conv=>whnf)
  refine A1 7 zF E (.cons (.refl _) (.cons (.refl _) (.cons (.refl _) (.cons .nil .nil)))) ?_
  exact Ac E (.cons .tmp (.cons (.cell E E E E) (.cons .tmp .nil))) E E
 refine ⟨fun h=>absurd (of_decide_eq_true h) hneg,fun _=>?_⟩
 refine By 3 8 (At n) E E E ?_
 by_cases hge:(n.ports.length:Int) ≤ port
 ·rw [if_pos (.inl (by rw [Aj,decide_eq_false (by omega:¬ port < _),Bool.and_false]))] at hres
  subst hres
  refine rg ?_;conv=>whnf
  (refine ⟨fun _=>?_,fun h=>False.elim (by simp at h; omega)⟩;refine rg ?_;(conv=>whnf);refine aT ?_;refine rg ?_;conv=>whnf)
  refine A1 7 zF E (.cons (.refl _) (.cons (.refl _) (.cons (.refl _) (.cons .nil .nil)))) ?_
  exact Ac E (.cons .tmp (.cons (.cell E E E E) (.cons .tmp .nil))) E E
 have hpl:Aj port n.ports.length = true:=by rw [Aj,decide_eq_true (by omega),decide_eq_true (by omega)]; rfl
 refine rg ?_;conv=>whnf
 (refine ⟨fun h=>False.elim (by simp at h; omega),fun _=>?_⟩;refine rg ?_;conv=>whnf)
 refine Ag hr F67 E E E E E ?_
 cases hbn:Af n
 ·rw [if_pos (.inr hbn)] at hres
  subst hres
  (refine rg ?_;(conv=>whnf);refine aT ?_;refine rg ?_;conv=>whnf)
  refine A1 7 zF E (.cons (.refl _) (.cons (.refl _) (.cons (.refl _) (.cons .nil .nil)))) ?_
  exact Ac E (.cons .tmp (.cons (.cell E E E E) (.cons .tmp .nil))) E E
 rw [if_neg (by simp [hbn,hpl])] at hres
 have hp0:0 ≤ port:=by omega
 have hk:port.toNat < n.ports.length:=by omega
 have e1:nth n.ports port = n.ports[port.toNat]:=An hk
 have hsh:=hn.tagged _ (List.getElem_mem hk)
 obtain ⟨p,hp⟩:∃ p,n.ports[port.toNat]'hk = p:=⟨_,rfl⟩
 rw [hp] at e1 hsh
 have qt:=Mh b hb
 have hto:=@Yo b
 have htb:=@takeF_bad b
 generalize takeF b = tf at *
 obtain ⟨f,e⟩:=tf
 dsimp only at hres qt hto htb
 have qi:=Kx f
 (refine rg ?_;(conv=>whnf);refine aF ?_;refine rg ?_;conv=>whnf)
 refine Ag qt F165 E E E E E ?_
 refine rg ?_;conv=>whnf
 refine Ag qi F166 E E E E E ?_
 by_cases he:e = 0
 rotate_left
 ·rw [if_pos he] at hres
  subst hres
  obtain rfl:=htb he
  refine rg ?_;conv=>whnf
  (refine ⟨fun h=>False.elim (by simp at h; omega),fun _=>?_⟩;refine rg ?_;(conv=>whnf);refine aF ?_;refine rg ?_;conv=>whnf)
  (refine ⟨fun h=>False.elim (by simp at h; omega),fun _=>?_⟩;refine rg ?_;(conv=>whnf);refine aF ?_;refine rg ?_;conv=>whnf)
  refine ⟨E,hp0,hk,?_⟩
  rw [hp]
  conv=>whnf
  refine Ag (Js p false 0 hsh) F168 E E E E E ?_
  refine rg ?_;conv=>whnf
  (refine ⟨fun h=>False.elim (by simp at h; omega),fun _=>?_⟩;refine rg ?_;(conv=>whnf);refine aF ?_;refine rg ?_;(conv=>whnf);refine ⟨fun _=>?_,fun h=>False.elim (by simp at h; omega)⟩;refine rg ?_;conv=>whnf)
  refine A1 7 zF E (.cons (.refl _) (.cons (.refl _) (.cons (.refl _) (.cons .nil .nil)))) ?_
  exact Ac E (.cons .tmp (.cons (.cell E E E E) (.cons .tmp .nil))) E E
 subst he
 rw [if_neg (by decide)] at hres
 have hfo:=hto rfl
 by_cases ht:f.typ = 33024
 ·rw [if_pos ht] at hres
  rw [decide_eq_true ht]
  have qs:=Ad5 f (by have:=hfo.body; omega)
  have hso:=@Agf f hfo
  have hsb:=@strip_bad f
  generalize stripT f = st at *
  obtain ⟨g,vid,prio,e2⟩:=st
  dsimp only at hres qs hso hsb
  (refine rg ?_;(conv=>whnf);refine aT ?_;refine rg ?_;(conv=>whnf);refine aT ?_;refine rg ?_;conv=>whnf)
  refine Ag qs F167 E E E E E ?_
  by_cases he2:e2 = 0
  rotate_left
  ·rw [if_pos he2] at hres
   subst hres
   obtain ⟨rfl,rfl⟩:=hsb he2
   refine rg ?_;conv=>whnf
   (refine ⟨fun h=>False.elim (by simp at h; omega),fun _=>?_⟩;refine rg ?_;(conv=>whnf);refine aF ?_;refine rg ?_;conv=>whnf)
   refine ⟨E,hp0,hk,?_⟩
   rw [hp]
   conv=>whnf
   refine Ag (Js p true 0 hsh) F168 E E E E E ?_
   refine rg ?_;conv=>whnf
   (refine ⟨fun h=>False.elim (by simp at h; omega),fun _=>?_⟩;refine rg ?_;(conv=>whnf);refine aF ?_;refine rg ?_;(conv=>whnf);refine ⟨fun _=>?_,fun h=>False.elim (by simp at h; omega)⟩;refine rg ?_;conv=>whnf)
   refine A1 7 zF E (.cons (.refl _) (.cons (.refl _) (.cons (.refl _) (.cons .nil .nil)))) ?_
   exact Ac E (.cons .tmp (.cons (.cell E E E E) (.cons .tmp .nil))) E E
  subst he2
  rw [if_neg (by decide)] at hres
  have hgo:=hso rfl
  have hgs:=hgo.src
  have qg:=I0 g.src (by omega)
  rw [H3,e1] at hres
  have qv:=Js p true vid hsh
  have qd:=M5 n hn p.dev (vlanT p true vid).1
  (refine rg ?_;(conv=>whnf);refine aT ?_;refine rg ?_;conv=>whnf)
  refine Ag qg F162 E E E E E ?_
  cases hgb:Et g.src
  rotate_left
  ·rw [if_pos hgb] at hres
   subst hres
   (refine rg ?_;(conv=>whnf);refine aT ?_;refine rg ?_;conv=>whnf)
   refine ⟨E,hp0,hk,?_⟩
   rw [hp]
   conv=>whnf
   refine Ag qv F168 E E E E E ?_
   (refine rg ?_;(conv=>whnf);refine aF ?_;refine rg ?_;(conv=>whnf);refine aF ?_;refine rg ?_;(conv=>whnf);refine aT ?_;refine rg ?_;conv=>whnf)
   (skip)
   refine A1 7 zF E (.cons (.refl _) (.cons (.refl _) (.cons (.refl _) (.cons .nil .nil)))) ?_
   exact Ac E (.cons .tmp (.cons (.cell E E E E) (.cons .tmp .nil))) E E
  rw [if_neg (by simp [hgb])] at hres
  (refine rg ?_;(conv=>whnf);refine aF ?_;refine rg ?_;conv=>whnf)
  refine ⟨E,hp0,hk,?_⟩
  rw [hp]
  conv=>whnf
  refine Ag qv F168 E E E E E ?_
  generalize vlanT p true vid = vl at *
  obtain ⟨vl,vok⟩:=vl
  dsimp only at hres qd ⊢
  cases vok
  ·rw [if_pos rfl] at hres
   subst hres
   (refine rg ?_;(conv=>whnf);refine aT ?_;refine rg ?_;(conv=>whnf);refine aT ?_;refine rg ?_;(conv=>whnf);refine aT ?_;refine rg ?_;conv=>whnf)
   refine A1 7 zF E (.cons (.refl _) (.cons (.refl _) (.cons (.refl _) (.cons .nil .nil)))) ?_
   exact Ac E (.cons .tmp (.cons (.cell E E E E) (.cons .tmp .nil))) E E
  rw [if_neg (by simp)] at hres
  subst hres
  (refine rg ?_;(conv=>whnf);refine aT ?_;refine rg ?_;(conv=>whnf);refine aF ?_;refine rg ?_;(conv=>whnf);refine aF ?_;refine rg ?_;conv=>whnf)
  refine Ay qd F169 E E E (by kernel_rfl) E ?_
  refine rd (by kernel_rfl) ?_;conv=>whnf
  refine ⟨(by kernel_rfl),?_⟩
  conv=>whnf
  exact Ac E (.cons .tmp (.cons (.cell E E E E) (.cons .tmp .nil))) E E
 ·rw [if_neg ht] at hres
  rw [decide_eq_false ht]
  have hgo:=hfo
  have hgs:=hgo.src
  have qg:=I0 f.src (by omega)
  rw [H3,e1] at hres
  have qv:=Js p false 0 hsh
  have qd:=M5 n hn p.dev (vlanT p false 0).1
  (refine rg ?_;(conv=>whnf);refine aT ?_;refine rg ?_;(conv=>whnf);refine aF ?_;refine rg ?_;(conv=>whnf);refine aT ?_;refine rg ?_;conv=>whnf)
  refine Ag qg F162 E E E E E ?_
  cases hgb:Et f.src
  rotate_left
  ·rw [if_pos hgb] at hres
   subst hres
   (refine rg ?_;(conv=>whnf);refine aT ?_;refine rg ?_;conv=>whnf)
   refine ⟨E,hp0,hk,?_⟩
   rw [hp]
   conv=>whnf
   refine Ag qv F168 E E E E E ?_
   (refine rg ?_;(conv=>whnf);refine aF ?_;refine rg ?_;(conv=>whnf);refine aF ?_;refine rg ?_;(conv=>whnf);refine aT ?_;refine rg ?_;conv=>whnf)
   (skip)
   refine A1 7 zF E (.cons (.refl _) (.cons (.refl _) (.cons (.refl _) (.cons .nil .nil)))) ?_
   exact Ac E (.cons .tmp (.cons (.cell E E E E) (.cons .tmp .nil))) E E
  rw [if_neg (by simp [hgb])] at hres
  (refine rg ?_;(conv=>whnf);refine aF ?_;refine rg ?_;conv=>whnf)
  refine ⟨E,hp0,hk,?_⟩
  rw [hp]
  conv=>whnf
  refine Ag qv F168 E E E E E ?_
  generalize vlanT p false 0 = vl at *
  obtain ⟨vl,vok⟩:=vl
  dsimp only at hres qd ⊢
  cases vok
  ·rw [if_pos rfl] at hres
   subst hres
   (refine rg ?_;(conv=>whnf);refine aT ?_;refine rg ?_;(conv=>whnf);refine aT ?_;refine rg ?_;(conv=>whnf);refine aT ?_;refine rg ?_;conv=>whnf)
   refine A1 7 zF E (.cons (.refl _) (.cons (.refl _) (.cons (.refl _) (.cons .nil .nil)))) ?_
   exact Ac E (.cons .tmp (.cons (.cell E E E E) (.cons .tmp .nil))) E E
  rw [if_neg (by simp)] at hres
  subst hres
  (refine rg ?_;(conv=>whnf);refine aT ?_;refine rg ?_;(conv=>whnf);refine aF ?_;refine rg ?_;(conv=>whnf);refine aF ?_;refine rg ?_;conv=>whnf)
  refine Ay qd F169 E E E (by kernel_rfl) E ?_
  refine rd (by kernel_rfl) ?_;conv=>whnf
  refine ⟨(by kernel_rfl),?_⟩
  conv=>whnf
  exact Ac E (.cons .tmp (.cons (.cell E E E E) (.cons .tmp .nil))) E E
theorem Bl {i:Int} {n:Nat} (h:Aj i n = true):0 ≤ i ∧ i < n:=by simpa [Aj] using h
end Go.Sy.YtmelpejjondedaaGreat
namespace Go.Sy.YtmelpejjondedaaGreat
open Go.Proofs
attribute [local irreducible] Go.Sy.G Go.Sy.DR
set_option maxRecDepth 20000
set_option maxHeartbeats 8000000
theorem C2 {i:Int} {n:Nat} (h:0 ≤ i ∧ i < n):Aj i n = true:=by simp only [Aj,Bool.and_eq_true,decide_eq_true_eq]; exact h
theorem B6 {i:Int} {n:Nat} (h:¬ (0 ≤ i ∧ i < n)):Aj i n = false:=by simp only [Aj,Bool.and_eq_false_iff,decide_eq_false_iff_not]; omega
end Go.Sy.YtmelpejjondedaaGreat
namespace Go.Sy.YtmelpejjondedaaGreat
open Go.Proofs
attribute [local irreducible] Go.Sy.G Go.Sy.DR
set_option maxRecDepth 100000
set_option maxHeartbeats 4000000
theorem Ic (i:Int) (n:Nat):Sy.Spec Tryz.prog 250 [Aa i,Aa n] [] (Ad (Aj i n)) []:=Ab Γ hm 100 F250 Tryz.ntmps250 rfl fun F hF=>by
 conv=>whnf
 (repeat' (first | (refine ⟨fun h=>?_,fun h=>?_⟩ <;> (repeat (first | simp only [decide_eq_true_eq] at h | simp only [decide_eq_false_iff_not] at h)) <;> ((refine rg ?_);(conv=>whnf))) | (refine Ac rfl (.cons .tmp .nil) ?_ rfl)))
 all_goals (refine congrArg Ad ?_)
 all_goals grind [Aj]
theorem Abz (n:Net) (f:FrameM) (h:FrameOK f) (v:Int):Sy.Spec Tryz.prog 252 [At n,Bu f,Aa v] [] (.tup [.sl 1 Ak (Va f),Aa 0]) []:=Ab Γ hm 100 F252 Tryz.ntmps252 rfl fun F hF=>by
 conv=>whnf
 refine Ah (Ai [(0,55)] E F33 (K9 f h) E Y E ⟨.inr E,Y⟩) E E ?_
 refine Ar 55 E ?_
 refine rg ?_;conv=>whnf
 exact Ac E (.cons .tmp (.cons .tmp .nil)) E E
theorem tag_ok {f:FrameM} (hf:FrameOK f) (v:Nat) (hv:v ≤ 4094) (h:(tagT f v).2 = 0):FrameOK (tagT f v).1:=by
 unfold tagT at h ⊢
 split
 ·rw [if_pos (by assumption)] at h; cases h
 rw [if_neg (by assumption)] at h
 split
 ·rw [if_pos (by assumption)] at h; cases h
 refine ⟨hf.dst,hf.src,?_,?_⟩
 ·show (33024:Nat) ≤ 65535; decide
 ·dsimp only; simp; omega
theorem Xm (n:Net) (f:FrameM) (h:FrameOK f) (v:Nat) (hv:v ≤ 4094) :
  Sy.Spec Tryz.prog 251 [At n,Bu f,Aa v] [] (.tup [.sl 1 Ak (if (tagT f v).2 ≠ 0 then [] else Va (tagT f v).1),Aa (if (tagT f v).2 ≠ 0 then (tagT f v).2 else 0)]) []:=by
 have q:=Agc f v h hv
 have ho:=tag_ok h v hv
 generalize tagT f v = t at *
 obtain ⟨g,e⟩:=t
 dsimp only at q ho ⊢
 refine Ab Γ hm 100 F251 Tryz.ntmps251 E fun F hF=>by
  conv=>whnf
  refine Ag q F308 E E E E E ?_
  refine rg ?_;conv=>whnf
  by_cases he:e = 0
  ·subst he
   (refine ⟨fun h=>False.elim (absurd h (by decide)),fun _=>?_⟩;refine rg ?_;conv=>whnf)
   refine By 8 4 (Bu g) E E E ?_
   refine rg ?_;conv=>whnf
   refine Ah (Ai [(0,55)] E F33 (K9 g (ho E)) E Y E ⟨.inr E,Y⟩) E E ?_
   refine Ar 55 E ?_
   refine rg ?_;conv=>whnf
   exact Ac E (.cons .tmp (.cons .tmp .nil)) E E
  ·rw [if_pos he,if_pos he]
   (refine ⟨fun _=>?_,fun h=>False.elim (by simp at h; omega)⟩;refine rg ?_;conv=>whnf)
   refine Ao 6 1 Ak E ?_
   exact Ac E (.cons .tmp (.cons .tmp .nil)) E E
theorem Aci {n:Net} (h:Af n = true) {i:Nat} (hi:i < n.domains.length):1 ≤ n.domains[i].vlan ∧ n.domains[i].vlan ≤ 4094:=by
 simp only [Af,Bool.and_eq_true] at h
 have hb:Ef (Ks n) n.domains = true:=h.1.1.1.1.1.1.1.2
 have:=allB_iff.1 hb i hi
 simp only [Ks,Bool.and_eq_true,decide_eq_true_eq] at this
 omega
theorem Ahq (n:Net) (hn:n.Fin) (port dom:Int) (f:FrameM) (h:FrameOK f) :
  Sy.Spec Tryz.prog 177 [At n,Aa port,Aa dom,Bu f] [] (.tup [.sl 1 Ak (leaveT n port dom f).1,Aa (leaveT n port dom f).2]) []:=Ab Γ hm 100 F177 Tryz.ntmps177 rfl fun F hF=>by
 have hres:=leaveT.eq_1 n port dom f
 generalize leaveT n port dom f = res at *
 have hr:=Bf n hn
 have hpS:=Ic port n.ports.length
 have hdS:=Ic dom n.domains.length
 conv=>whnf
 refine Ag hpS F250 E E E E E ?_
 cases hpl:Aj port n.ports.length
 ·rw [if_pos (.inl hpl)] at hres
  subst hres
  (refine rg ?_;(conv=>whnf);refine aT ?_;refine rg ?_;(conv=>whnf);refine aT ?_;refine rg ?_;(conv=>whnf);refine aT ?_;refine rg ?_;conv=>whnf)
  refine Ao 8 1 Ak E ?_
  exact Ac E (.cons .tmp (.cons .tmp .nil)) E E
 (refine rg ?_;(conv=>whnf);refine aF ?_;refine rg ?_;conv=>whnf)
 refine Ag hdS F250 E E E E E ?_
 cases hdl:Aj dom n.domains.length
 ·rw [if_pos (.inr (.inl hdl))] at hres
  subst hres
  (refine rg ?_;(conv=>whnf);refine aT ?_;refine rg ?_;(conv=>whnf);refine aT ?_;refine rg ?_;conv=>whnf)
  refine Ao 8 1 Ak E ?_
  exact Ac E (.cons .tmp (.cons .tmp .nil)) E E
 (refine rg ?_;(conv=>whnf);refine aF ?_;refine rg ?_;conv=>whnf)
 refine Ag hr F67 E E E E E ?_
 cases hbn:Af n
 ·rw [if_pos (.inr (.inr hbn))] at hres
  subst hres
  (refine rg ?_;(conv=>whnf);refine aT ?_;refine rg ?_;conv=>whnf)
  refine Ao 8 1 Ak E ?_
  exact Ac E (.cons .tmp (.cons .tmp .nil)) E E
 rw [if_neg (by simp [hbn,hpl,hdl])] at hres
 have hpi:=Bl hpl
 have hdi:=Bl hdl
 have hp0:0 ≤ port:=hpi.1
 have hd0:0 ≤ dom:=hdi.1
 have hk:port.toNat < n.ports.length:=by omega
 have hkd:dom.toNat < n.domains.length:=by omega
 have e1:nth n.ports port = n.ports[port.toNat]:=An hk
 have e2:nth n.domains dom = n.domains[dom.toNat]:=An hkd
 have hsh:=hn.tagged _ (List.getElem_mem hk)
 have hv:=Aci hbn hkd
 obtain ⟨p,hp⟩:∃ p,n.ports[port.toNat]'hk = p:=⟨_,rfl⟩
 obtain ⟨d,hd⟩:∃ d,n.domains[dom.toNat]'hkd = d:=⟨_,rfl⟩
 rw [hp] at e1 hsh
 rw [hd] at e2 hv
 rw [e1,e2] at hres
 have qm:=Xi p d.vlan hsh
 (refine rg ?_;(conv=>whnf);refine aF ?_;refine rg ?_;conv=>whnf)
 refine ⟨E,hp0,hk,E,hd0,hkd,?_⟩
 rw [hp,hd]
 conv=>whnf
 refine ⟨(by kernel_rfl),?_⟩
 conv=>whnf
 refine ⟨fun h1=>?_,fun h1=>?_⟩
 ·rw [if_pos (.inl (by simpa using h1))] at hres
  subst hres
  (refine rg ?_;(conv=>whnf);refine aT ?_;refine rg ?_;conv=>whnf)
  refine Ao 8 1 Ak E ?_
  exact Ac E (.cons .tmp (.cons .tmp .nil)) E E
 refine By 10 7 (Ba p) E E E ?_
 refine rg ?_;conv=>whnf
 refine Ag qm F198 E E E E E ?_
 cases hm1:Jm p d.vlan
 ·rw [if_pos (.inr hm1)] at hres
  subst hres
  (refine rg ?_;(conv=>whnf);refine aT ?_;refine rg ?_;conv=>whnf)
  refine Ao 8 1 Ak E ?_
  exact Ac E (.cons .tmp (.cons .tmp .nil)) E E
 rw [if_neg (by simp at h1; simp [hm1,h1])] at hres
 have qt:=Kx f
 by_cases ht:f.typ = 33024
 ·rw [if_pos ht] at hres
  subst hres
  rw [decide_eq_true ht] at qt
  (refine rg ?_;(conv=>whnf);refine aF ?_;refine rg ?_;conv=>whnf)
  refine Ag qt F166 E E E E E ?_
  (refine rg ?_;(conv=>whnf);refine aT ?_;refine rg ?_;conv=>whnf)
  refine Ao 8 1 Ak E ?_
  exact Ac E (.cons .tmp (.cons .tmp .nil)) E E
 rw [if_neg ht] at hres
 rw [decide_eq_false ht] at qt
 (refine rg ?_;(conv=>whnf);refine aF ?_;refine rg ?_;conv=>whnf)
 refine Ag qt F166 E E E E E ?_
 (refine rg ?_;(conv=>whnf);refine aF ?_;refine rg ?_;conv=>whnf)
 refine ⟨fun h2=>?_,fun h2=>?_⟩
 ·rw [if_pos (by simpa using h2)] at hres
  subst hres
  refine rg ?_;conv=>whnf
  refine Do ⟨⟨_,_,F252⟩,Abz n f h d.vlan⟩ E E E E E E ?_
  refine rg ?_;conv=>whnf
  exact Ac E (.cons .tmp (.cons .tmp .nil)) E E
 rw [if_neg (by simpa using h2)] at hres
 refine rg ?_;conv=>whnf
 have hv0:(d.vlan.toNat:Int) = d.vlan:=by omega
 have qg:=Xm n f h d.vlan.toNat (by omega)
 rw [hv0] at qg
 refine Do ⟨⟨_,_,F251⟩,qg⟩ E E E E E E ?_
 refine rg ?_;conv=>whnf
 by_cases he:(tagT f d.vlan).2 = 0
 ·rw [if_neg (by simpa using he)] at hres
  subst hres
  rw [if_neg (by simpa using he),if_neg (by simpa using he)]
  exact Ac E (.cons .tmp (.cons .tmp .nil)) E E
 ·rw [if_pos he] at hres
  subst hres
  rw [if_pos he,if_pos he]
  exact Ac E (.cons .tmp (.cons .tmp .nil)) E E
theorem inB_mem {l:List Int} {x:Int}:inB l x = true ↔ x ∈ l:=by
 simp [inB]
theorem Abx (n:Net) (hn:n.Fin) (port:Int) (b:List UInt8) (hb:b.length < 100000) :
  Sy.Spec Tryz.prog 182 [At n,Aa port,.sl 1 Ak b] [] (.tup [Aa (linkT n port b).1,Aa (linkT n port b).2.1,Bu (linkT n port b).2.2.1,Aa (linkT n port b).2.2.2]) []:=Ab Γ hm 100 F182 Tryz.ntmps182 rfl fun F hF=>by
 have hres:=linkT.eq_1 n port b
 generalize linkT n port b = res at *
 have qo:=Xl n hn port
 have qe:=Aac n hn (E8 n port) b hb
 generalize E8 n port = o at *
 conv=>whnf
 refine Ag qo F258 E E E E E ?_
 refine rg ?_;conv=>whnf
 refine ⟨fun h1=>?_,fun h1=>?_⟩
 ·rw [if_pos (by simpa using h1)] at hres
  subst hres
  refine rg ?_;conv=>whnf
  refine A1 8 zF E (.cons (.refl _) (.cons (.refl _) (.cons (.refl _) (.cons .nil .nil)))) ?_
  exact Ac E (.cons .tmp (.cons .tmp (.cons (.cell E E E E) (.cons .tmp .nil)))) E E
 rw [if_neg (by simpa using h1)] at hres
 refine rg ?_;conv=>whnf
 refine Ag qe F100 E E E E E ?_
 generalize enterT n o b = en at *
 obtain ⟨x1,g,x2⟩:=en
 subst hres
 refine rg ?_;conv=>whnf
 refine ⟨(by kernel_rfl),?_⟩
 conv=>whnf
 exact Ac E (.cons .tmp (.cons .tmp (.cons (.cell E E E E) (.cons .tmp .nil)))) E E
end Go.Sy.YtmelpejjondedaaGreat
namespace Go.Sy.YtmelpejjondedaaGreat
open Go.Proofs
theorem Ih (l:List Nat):(Ci l).length = 2 * l.length:=by
 induction l with
 | nil=>rfl
 | cons a l ih=>simp only [Ci,List.flatMap_cons,List.length_append,List.length_cons,List.length_nil] at ih ⊢; omega
theorem E1 (l:List Nat) (n:Nat):Ci (l ++ [n]) = Ci l ++ [UInt8.ofNat (n / 256),UInt8.ofNat n]:=by simp [Ci]
theorem Iy (b:List UInt8) (k m:Nat):numAt b k m < 256 ^ m:=by
 have h:=Jb _ ((b.drop k).take m) rfl
 have h2:((b.drop k).take m).length ≤ m:=by rw [List.length_take]; omega
 exact Nat.lt_of_lt_of_le h (Nat.pow_le_pow_right (by decide) h2)
theorem Ma {b:List UInt8} {k:Nat} (h:k + 2 ≤ b.length):numAt b k 2 = (b[k]'(by omega)).toNat * 256 + (b[k + 1]'(by omega)).toNat:=by
 rw [numAt,Mq h,Ac0]
theorem Ya {b:List UInt8} {k:Nat} (h:k < b.length):bAt b k = b[k]:=Acb h
theorem Agb {b:List UInt8} {k:Nat} (h:k + 3 ≤ b.length):(b.drop k).take 3 = [b[k]'(by omega),b[k + 1]'(by omega),b[k + 2]'(by omega)]:=by
 rw [List.drop_eq_getElem_cons (by omega),List.drop_eq_getElem_cons (i:=k + 1) (by omega),List.drop_eq_getElem_cons (i:=k + 2) (by omega)]
 rfl
theorem Aga {b:List UInt8} {k:Nat} (h:k + 4 ≤ b.length):(b.drop k).take 4 = [b[k]'(by omega),b[k + 1]'(by omega),b[k + 2]'(by omega),b[k + 3]'(by omega)]:=by
 rw [List.drop_eq_getElem_cons (by omega),List.drop_eq_getElem_cons (i:=k + 1) (by omega),List.drop_eq_getElem_cons (i:=k + 2) (by omega),List.drop_eq_getElem_cons (i:=k + 3) (by omega)]
 rfl
theorem numAt3 {b:List UInt8} {k:Nat} (h:k + 3 ≤ b.length):numAt b k 3 = ((b[k]'(by omega)).toNat * 256 + (b[k + 1]'(by omega)).toNat) * 256 + (b[k + 2]'(by omega)).toNat:=by
 rw [numAt,Agb h]
 simp [He]
theorem numAt4 {b:List UInt8} {k:Nat} (h:k + 4 ≤ b.length):numAt b k 4 = numAt b k 2 * 65536 + numAt b (k + 2) 2:=by
 have e:b[k + 2 + 1]'(by omega) = b[k + 3]'(by omega):=rfl
 rw [numAt,Aga h,Ma (by omega),Ma (by omega),e]
 simp [He]
 omega
theorem Ia (f:FrameM):(Va f).length = 14 + f.body.length:=by
 simp [Va,frame,Co]
 omega
theorem Lu (p:PacketM) (s:Nat):(E9 p s).length = 20:=by rw [E9,Ih]; rfl
theorem Ke (p:PacketM):(Sq p).length = 20 + p.body.length:=by rw [Sq,List.length_append,Lu]
theorem Ym (s d:Nat) (b:List UInt8):(Af5 s d b).length = 8 + b.length:=by rw [Af5,List.length_append,Ih]; rfl
theorem Hm (v:Nat):(Jw v).length = 8:=rfl
theorem Cz:FrameOK noF:=⟨by decide,by decide,by decide,by decide⟩
theorem Ue (ip:Nat) (h:ip < 4294967296):Hc ip < 281474976710656:=by rw [Hc,Int.toNat_natCast]; omega
theorem Vg (n:Net) (port dom:Int) (f:FrameM) (hf:FrameOK f):(leaveT n port dom f).1.length ≤ 1518:=by
 have h4:=hf.body
 unfold leaveT
 split
 ·simp
 split
 ·simp
 split
 ·simp
 split
 ·rw [Ia]; omega
 split
 ·simp
 ·rw [Ia]
  rename_i h
  have h2:(tagT f (nth n.domains dom).vlan).2 = 0:=Classical.byContradiction h
  unfold tagT at h2 ⊢
  split
  ·rw [if_pos (by assumption)] at h2; cases h2
  rw [if_neg (by assumption)] at h2
  split
  ·rw [if_pos (by assumption)] at h2; cases h2
  ·dsimp only
   simp
   omega
theorem Uc {b:List UInt8} (h:(ipTakeT b).2 = 0):PacketOK (ipTakeT b).1 ∧ (ipTakeT b).1.body.length + 20 ≤ b.length:=by
 unfold ipTakeT at h ⊢
 split
 ·rw [if_pos (by assumption)] at h; cases h
 rw [if_neg (by assumption)] at h
 split
 ·rw [if_pos (by assumption)] at h; cases h
 rw [if_neg (by assumption)] at h
 split
 ·rw [if_pos (by assumption)] at h; cases h
 rw [if_neg (by assumption)] at h
 split
 ·rw [if_pos (by assumption)] at h; cases h
 rw [if_neg (by assumption)] at h
 split
 ·rw [if_pos (by assumption)] at h; cases h
 have l1:=(bAt b 1).toNat_lt
 have l8:=(bAt b 8).toNat_lt
 have l9:=(bAt b 9).toNat_lt
 have n4:=Iy b 4 2
 have n12:=Iy b 12 4
 have n16:=Iy b 16 4
 refine ⟨⟨?_,?_,?_,?_,?_,?_⟩,?_⟩
 ·show (bAt b 1).toNat ≤ 255; omega
 ·show numAt b 4 2 ≤ 65535; omega
 ·show (bAt b 8).toNat ≤ 255; omega
 ·show (bAt b 9).toNat ≤ 255; omega
 ·exact n12
 ·exact n16
 ·show ((b.take (numAt b 2 2)).drop 20).length + 20 ≤ b.length
  rw [List.length_drop,List.length_take]
  omega
theorem Akn {b:List UInt8} (h:(ipTakeT b).2 ≠ 0):(ipTakeT b).1 = noP:=by
 unfold ipTakeT at h ⊢
 split
 ·rfl
 rw [if_neg (by assumption)] at h
 split
 ·rfl
 rw [if_neg (by assumption)] at h
 split
 ·rfl
 rw [if_neg (by assumption)] at h
 split
 ·rfl
 rw [if_neg (by assumption)] at h
 split
 ·rfl
 rw [if_neg (by assumption)] at h
 exact absurd E h
theorem Abr:PacketOK noP:=⟨by decide,by decide,by decide,by decide,by decide,by decide⟩
theorem Ab4 (p:PacketM) (s:Nat):((E9 p 0).set 10 (UInt8.ofNat (s / 256))).set 11 (UInt8.ofNat s) = E9 p s:=by
 simp only [E9,Ci,List.flatMap_cons,List.flatMap_nil,List.cons_append,List.nil_append,List.set_cons_succ,List.set_cons_zero]
theorem Afz (a b v:Nat) (f:FrameM) (ha:a < 4294967296) (hb:b < 4294967296):PacketOK (Lj a b v f):=⟨Nat.zero_le _,Nat.zero_le _,by show (64:Nat) ≤ 255; decide,by show (17:Nat) ≤ 255; decide,ha,hb⟩
theorem Hd (a b v:Nat) (f:FrameM):(Lj a b v f).body.length = 30 + f.body.length:=by
 simp only [Lj,Ym,List.length_append,Hm,Ia]; omega
theorem Wr (a b:Nat) (v:Int) (f:FrameM):(wrapT a b v f).1.length ≤ 1514:=by
 unfold wrapT
 split
 ·simp
 split
 ·simp
 split
 ·simp
 ·simp only [frame,List.length_append,Co,Ke,Hd,List.length_cons,List.length_nil]; omega
theorem Xh (n:Net) (dom peer:Int) (f:FrameM):(meshT n dom peer f).1.length ≤ 1514:=by
 unfold meshT
 split
 ·simp
 split
 ·simp
 ·exact Wr _ _ _ _
theorem Ai2 {b:List UInt8}:(udpTakeT b).2.2.1.length ≤ b.length:=by
 unfold udpTakeT
 repeat' split
 all_goals first | (simp; done) | (simp only [List.length_drop,List.length_take]; omega)
theorem vniT_body {b:List UInt8}:(vniT b).2.1.length ≤ b.length:=by
 unfold vniT
 repeat' split
 all_goals first | (simp; done) | (simp only [List.length_drop]; omega)
theorem Qf (b:List UInt8):PacketOK (outerT b).1 ∧ (outerT b).1.body.length ≤ b.length:=by
 unfold outerT
 split
 ·exact ⟨Abr,by simp [noP]⟩
 split
 ·exact ⟨Abr,by simp [noP]⟩
 split
 ·exact ⟨Abr,by simp [noP]⟩
 ·rename_i h1 h2 h3
  have h4:(takeF b).2 = 0:=Classical.byContradiction h1
  have h5:(ipTakeT (takeF b).1.body).2 = 0:=Classical.byContradiction h3
  obtain ⟨h6,h7⟩:=Uc h5
  refine ⟨h6,?_⟩
  have h8:(takeF b).1.body.length ≤ b.length:=by
   unfold takeF
   repeat' split
   all_goals simp [noF]
  dsimp only
  omega
theorem Wb (b:List UInt8):FrameOK (Ip b).2.1 ∧ 0 ≤ (Ip b).1:=by
 unfold Ip
 repeat' split
 all_goals first | exact ⟨Cz,Int.le_refl _⟩ | skip
 rename_i h1 h2 h3 h4 h5
 refine ⟨Yo (Classical.byContradiction h4),?_⟩
 show 0 ≤ (vniT (udpTakeT b).2.2.1).1
 unfold vniT
 repeat' split
 all_goals omega
theorem Ta (b:List UInt8):(Bm b).1 < 4294967296 ∧ (Bm b).2.1 < 4294967296 ∧ 0 ≤ (Bm b).2.2.1 ∧ FrameOK (Bm b).2.2.2.1:=by
 unfold Bm
 split
 ·exact ⟨Nat.zero_lt_succ _,Nat.zero_lt_succ _,Int.le_refl _,Cz⟩
 split
 ·exact ⟨Nat.zero_lt_succ _,Nat.zero_lt_succ _,Int.le_refl _,Cz⟩
 ·exact ⟨(Qf b).1.src,(Qf b).1.dst,(Wb _).2,(Wb _).1⟩
theorem Wk (n:Net) (port:Int) (f:FrameM) (hf:FrameOK f) (tg:Bool) (vid:Int):FrameOK (H3 n port f tg vid).2.1:=by
 unfold H3
 split
 ·exact Cz
 split
 ·exact Cz
 ·exact hf
theorem Qo (n:Net) (port:Int) (b:List UInt8):FrameOK (enterT n port b).2.1:=by
 unfold enterT
 split
 ·exact Cz
 split
 ·exact Cz
 rename_i h1 h2
 have h3:=Yo (Classical.byContradiction h2)
 split
 ·split
  ·exact Cz
  ·rename_i h5
   exact Wk _ _ _ (Agf h3 (Classical.byContradiction h5)) _ _
 ·exact Wk _ _ _ h3 _ _
theorem Zs (n:Net) (port:Int) (b:List UInt8):FrameOK (linkT n port b).2.2.1:=by
 unfold linkT
 split
 ·exact Cz
 ·exact Qo _ _ _
theorem Aam (n:Net) (b:List UInt8):FrameOK (comeT n b).2.2.1:=by
 unfold comeT
 split
 ·exact Cz
 split
 ·exact Cz
 split
 ·exact Cz
 split
 ·exact Cz
 ·exact (Ta b).2.2.2
theorem Ajy (n:Net) (hm:n.Num) (irb:Int) (f:FrameM) (hin:∀ (d:Int),(lookT n irb d).2 = true → 0 ≤ (lookT n irb d).1 ∧ (lookT n irb d).1.toNat < n.irbs.length):FrameOK (hopT n irb f).2.1:=by
 unfold hopT
 split
 ·exact Cz
 split
 ·exact Cz
 split
 ·exact Cz
 split
 ·exact Cz
 split
 ·exact Cz
 split
 ·exact Cz
 rename_i h1 h2 h3 h4 h5 h6
 have hp:=(Uc (Classical.byContradiction h3)).1
 have hl:=hin ((ipTakeT f.body).1.dst:Int) (by simpa using h5)
 have ha:=hm.addr _ (List.getElem_mem hl.2)
 rw [← An hl.2] at ha
 refine ⟨Ue _ hp.dst,?_,?_,?_⟩
 ·show Hc (nth n.irbs _).addr < _
  rw [Hc]; omega
 ·show (2048:Nat) ≤ 65535; decide
 ·show (Sq (Ab7 (ipTakeT f.body).1)).length ≤ 1504
  rw [Ke]
  show 20 + (ipTakeT f.body).1.body.length ≤ 1504
  omega
end Go.Sy.YtmelpejjondedaaGreat
namespace Go.Sy
structure Meth (P:Program) (t:TypeId) (name:String) (f:FuncId) (pr:Bool) (e:TypeId):Prop where
 row:∃ i m,P.info? t = some i ∧ i.methods.find? (·.name == name) = some m ∧ m.path = #[] ∧ m.func = some (f,pr)
 under:P.underlying t = some (.pointer e)
theorem Tj {P:Program} {t:TypeId} {name:String} {f:FuncId} {e:TypeId} (hm:Meth P t name f true e) (w:World) (v:Value):(Go.method (P.types.size + Made.depth) t v name).run P w = .ok (f,v) w:=by
 obtain ⟨⟨i,m,h1,h2,h3,h4⟩,hu⟩:=hm
 show (Go.method (P.types.size + 99 + 1) t v name).run P w = _
 rw [Go.method]
 simp only [Sem.run_bind,run_typeInfo w h1,Result.andThen_ok,h2,h3,Go.follow,Sem.run_pure,h4,Go.receiverAt,run_underlying hu,Go.Place.get]
theorem Ti {P:Program} {t:TypeId} {name:String} {f:FuncId} {e:TypeId} (hm:Meth P t name f false e) (w:World) (a:Addr) {v:Value} (hv:(loadVar e a).run P w = .ok v w):(Go.method (P.types.size + Made.depth) t (.pointer (some a)) name).run P w = .ok (f,v) w:=by
 obtain ⟨⟨i,m,h1,h2,h3,h4⟩,hu⟩:=hm
 show (Go.method (P.types.size + 99 + 1) t (.pointer (some a)) name).run P w = _
 rw [Go.method]
 have he:(#[]:Array FieldStep).isEmpty = true:=rfl
 simp only [Sem.run_bind,run_typeInfo w h1,Result.andThen_ok,h2,h3,Go.follow,Sem.run_pure,h4,Go.receiverAt,run_underlying hu,Go.Place.get,he,if_true]
 have hs : ∀ n : String, (Builtin.ssaWrapNilChk_ #[t] t #[.pointer (some a), strVal "", strVal n]).run P w = .ok (.pointer (some a)) w := fun n => rfl
 simp only [hs,Result.andThen_ok,asAddr,Sem.run_pure,hv]
theorem Lz {P:Program} {o:Oper} {s:SS} {rd:List Nat} {f:FuncId} {fn:Func} {c:Code} {t e:TypeId} {name:String} {x:Operand} {xs:List Operand} {ts:Array TypeId} {y:SV} (hm:Meth P t name f true e) (hf:Fun P f fn c) (h:o.op = .call ⟨.invoke x name,xs.toArray,ts⟩) (hx:ev s x = .ifc t y) :
  Ju P o s rd f (y :: xs.map (ev s)) :=
 fun κ a w hr _=>by
  have h1:=hr x (by simp [h,Op.operands,Call.operands])
  rw [hx] at h1
  simp only [Rd] at h1
  obtain ⟨u,e1,e2⟩:=h1
  refine ⟨u :: xs.map a.eval,?_,?_⟩
  ·have hcall:=Hf hf (u :: xs.map a.eval).toArray w
   have hmeth:=Tj hm w u
   simp only [execOp,h,resolve,invoke,e1,Sem.run_bind,Sem.run_pure,Result.andThen_ok] at hcall ⊢
   simp only [callMethod]
   rw [← hcall]
   have htk:(xs.map a.eval).take xs.length = xs.map a.eval:=List.take_of_length_le (by simp)
   simp [hmeth,Sem.run_bind,htk]
  ·simp only [RdL]
   exact ⟨_,_,E,e2,Ig xs (fun y hy=>hr y (by simp [h,Op.operands,Call.operands,hy]))⟩
theorem A6 {P:Program} (Γ:Ty P) {o:Oper} {s:SS} {f:FuncId} {fn:Func} {c:Code} {t e:TypeId} {ti:TI} {name:String} {x:Operand} {xs:List Operand} {ts:Array TypeId} {k off:Nat} {l:List SV} {z:SV} (hm:Meth P t name f false e) (hf:Fun P f fn c) (h:o.op = .call ⟨.invoke x name,xs.toArray,ts⟩)
  (hx:ev s x = .ifc t (.ptr k off)) (hk:s.h k = .box l) (ht:Γ.get e = some ti) (hz:Hx ti l off = some z):Ju P o s [k] f (z :: xs.map (ev s)) :=
 fun κ a w hr ho=>by
  have h1:=hr x (by simp [h,Op.operands,Call.operands])
  rw [hx] at h1
  simp only [Rd] at h1
  obtain ⟨u,e1,e2⟩:=h1
  have hob:=ho k (by simp)
  rw [hk] at hob
  obtain ⟨b,f1,f2⟩:=hob.cellsAt
  rw [f1] at e2
  simp only at e2
  subst e2
  obtain ⟨v,g1,g2⟩:=Hq (P:=P) Γ ht f2 hz
  rw [Nat.zero_add] at g1
  refine ⟨v :: xs.map a.eval,?_,?_⟩
  ·have hcall:=Hf hf (v :: xs.map a.eval).toArray w
   have hmeth:=Ti hm w ⟨b,off,none⟩ g1
   simp only [execOp,h,resolve,invoke,e1,Sem.run_bind,Sem.run_pure,Result.andThen_ok] at hcall ⊢
   simp only [callMethod]
   rw [← hcall]
   have htk:(xs.map a.eval).take xs.length = xs.map a.eval:=List.take_of_length_le (by simp)
   simp [hmeth,Sem.run_bind,htk]
  ·simp only [RdL]
   exact ⟨_,_,E,g2,Ig xs (fun y hy=>hr y (by simp [h,Op.operands,Call.operands,hy]))⟩
theorem Sc {P:Program} (Γ:Ty P) {o:Oper} {s:SS} {x:Operand} {xt t:TypeId} {ti:TI} {y:SV} {ok:Bool} (h:o.op = .typeAssert x xt t ok) (hx:ev s x = .ifc t y) (ht:Γ.get t = some ti) (hk:ti.k matches .bool | .int _ | .string | .slice .. | .struct _ | .ptr | .func) :
  Good P o s ⟨if ok then .tup [y,Ad true] else y,[],[]⟩ :=
 Good.pure fun κ a w _ hr _=>by
  have h1:=hr x (by simp [h,Op.operands])
  rw [hx] at h1
  simp only [Rd] at h1
  obtain ⟨u,e1,e2⟩:=h1
  obtain ⟨d,info,z,k1,k2,_⟩:=Γ.ok t ti ht
  have hni:∀ ms,d ≠ .interface ms:=by
   obtain ⟨k,n,zz⟩:=ti
   intro ms hd
   subst hd
   cases k <;> simp_all [TK.ok]
  have hrun:(Instr.typeAssert (.iface t u) xt t ok).run P w = .ok (if ok then .tuple #[u,.bool true] else u) w:=by
   cases d <;> first
    | exact absurd rfl (hni _)
    | (cases ok <;> simp [Instr.typeAssert,run_underlying k1])
  refine ⟨if ok then .tuple #[u,.bool true] else u,by simp [execOp,h,e1,hrun],?_⟩
  cases ok
  ·exact e2
  ·simp only [if_true,Rd,RdL]
   exact ⟨[u,.bool true],E,_,_,E,e2,_,_,E,by simp [Ad,Rd],E⟩
def Akm (P:Program) (t:TypeId) (name:String) (f:FuncId) (pr:Bool):Bool :=
 match P.info? t with
 | some i=>(match i.methods.find? (·.name == name) with
  | some m=>m.path.isEmpty && (match m.func with | some (g,b)=>Nat.beq g f && (b == pr) | none=>false)
  | none=>false)
 | none=>false
theorem Meth.of {P:Program} {t:TypeId} {name:String} {f:FuncId} {pr:Bool} {e:TypeId} (h:Akm P t name f pr = true) (hu:P.underlying t = some (.pointer e)):Meth P t name f pr e:=by
 refine ⟨?_,hu⟩
 unfold Akm at h
 split at h
 ·rename_i i hi
  split at h
  ·rename_i m hm
   simp only [Bool.and_eq_true] at h
   obtain ⟨h1,h2⟩:=h
   split at h2
   ·rename_i g b hf
    simp only [Bool.and_eq_true,beq_iff_eq] at h2
    obtain ⟨h3,rfl⟩:=h2
    have h3:=Nat.eq_of_beq_eq_true h3
    subst h3
    exact ⟨i,m,hi,hm,by simpa using h1,hf⟩
   ·cases h2
  ·cases h
 ·cases h
end Go.Sy
namespace Go.Sy.YtmelpejjondedaaGreat
open Go.Proofs
attribute [local irreducible] Go.Sy.G Go.Sy.DR
set_option maxRecDepth 20000
set_option maxHeartbeats 4000000
structure Item where
 (root cost dev:Int)
instance:Inhabited Item:=⟨⟨0,0,0⟩⟩
def A8 (x:Item):SV:=.agg [Aa x.root,Aa x.cost,Aa x.dev]
def Bi (x y:Item):Bool:=decide (x.root < y.root) || (x.root == y.root && decide (x.cost < y.cost))
theorem Qd (q:List Item):Sy.Spec Tryz.prog 234 [.sl 3 A8 q] [] (Aa q.length) []:=Ab Γ hm 100 F234 Tryz.ntmps234 rfl fun F hF=>by
 conv=>whnf
 exact Ac E (.cons .tmp .nil) E E
theorem Hu (q:List Item) (i j:Nat) (hi:i < q.length) (hj:j < q.length):Sy.Spec Tryz.prog 384 [.sl 3 A8 q,Aa i,Aa j] [] (Ad (Bi q[i] q[j])) []:=Ab Γ hm 100 F384 Tryz.ntmps384 rfl fun F hF=>by
 have e1:q[(i:Int).toNat]'(by omega) = q[i]:=rfl
 have e2:q[(j:Int).toNat]'(by omega) = q[j]:=rfl
 conv=>whnf
 (repeat' (first | (refine ⟨fun h=>?_,fun h=>?_⟩ <;> (repeat (first | simp only [decide_eq_true_eq] at h | simp only [decide_eq_false_iff_not] at h | simp only [beq_iff_eq] at h | simp only [beq_eq_false_iff_ne] at h)) <;> ((refine rd (by kernel_rfl) ?_);(conv=>whnf))) | (refine Ac rfl (.cons .tmp .nil) ?_ rfl) | (refine ⟨(by kernel_rfl),?_⟩; ((conv=>whnf))) | (refine ⟨by (omega),by (omega),?_⟩; ((conv=>whnf)))))
 all_goals (refine congrArg Ad ?_; clear hF; grind [Bi])
theorem Ht (q:List Item) (i j:Nat) (hi:i < q.length) (hj:j < q.length):Sy.Spec Tryz.prog 387 [.osl 0,Aa i,Aa j] [(0,.row 3 A8 q)] (.tup []) [(0,.row 3 A8 ((q.set i q[j]).set j q[i]))]:=Ab Γ hm 100 F387 Tryz.ntmps387 rfl fun F hF=>by
 have e1:q[(i:Int).toNat]'(by omega) = q[i]:=rfl
 have e2:q[(j:Int).toNat]'(by omega) = q[j]:=rfl
 conv=>whnf
 refine ⟨by omega,by omega,?_⟩
 conv=>whnf
 refine ⟨E,by omega,?_⟩
 rw [e2]
 conv=>whnf
 refine ⟨by omega,by omega,?_⟩
 conv=>whnf
 refine ⟨E,by omega,?_⟩
 rw [e1]
 conv=>whnf
 refine ⟨by omega,by omega,?_⟩
 conv=>whnf
 refine ⟨E,by omega,q[j],E,E,?_⟩
 conv=>whnf
 refine ⟨by omega,by simp; omega,?_⟩
 conv=>whnf
 refine ⟨E,by simp; omega,q[i],E,E,?_⟩
 conv=>whnf
 refine ⟨(by kernel_rfl),?_⟩
 conv=>whnf
 exact Bc E .nil [] [(0,.row 3 A8 ((q.set i q[j]).set j q[i]))] (fun _ h=>h) E E ⟨Y,⟨.inl E,E,Y⟩,E,E⟩
theorem Abh (q:List Item) (x:Item) (hq:q.length < 1000000):Sy.Spec Tryz.prog 386 [.ptr 0 0,.ifc 345 (A8 x)] [(0,.box [.osl 1]),(1,.row 3 A8 q)] (.tup []) [(0,.box [.osl 2]),(1,.non),(2,.row 3 A8 (q ++ [x]))]:=Ab Γ hm 100 F386 Tryz.ntmps386 rfl fun F hF=>by
 conv=>whnf
 refine Ah (Sc Γ.toTy E E E E) E E ?_
 (refine rg ?_;(conv=>whnf);refine aT ?_;refine rg ?_;conv=>whnf)
 refine Bo (Al Γ.toTy 18 E E E E E (.row E) (.lit (l:=[x]) E E) (by simp) (by simp; omega) (by simp; omega)) (by kernel_rfl) E ?_
 refine rd (by kernel_rfl) ?_;conv=>whnf
 refine ⟨(by kernel_rfl),?_⟩
 conv=>whnf
 exact Bc E .nil [(2,18)] [(0,.box [.osl 2]),(1,.non),(2,.row 3 A8 (q ++ [x]))] (fun _ h=>h) E E ⟨Y,⟨.inl E,E,.inl E,E,.inl E,E,Y⟩,E,E⟩
theorem Aep (q:List Item) (hq:q ≠ []) (hl:q.length < 1000000):Sy.Spec Tryz.prog 385 [.ptr 0 0] [(0,.box [.osl 1]),(1,.row 3 A8 q)] (.ifc 345 (A8 (q.getLast hq))) [(0,.box [.osl 2]),(1,.non),(2,.row 3 A8 q.dropLast)]:=Ab Γ hm 100 F385 Tryz.ntmps385 rfl fun F hF=>by
 have h0:0 < q.length:=List.length_pos_iff.2 hq
 have e1:q[((q.length:Int) - 1).toNat]'(by omega) = q.getLast hq:=by
  rw [List.getLast_eq_getElem]
  congr 1
  omega
 conv=>whnf
 refine ⟨by unfold I64; omega,?_⟩
 conv=>whnf
 refine ⟨by omega,by omega,?_⟩
 conv=>whnf
 refine ⟨E,by omega,?_⟩
 rw [e1]
 conv=>whnf
 refine ⟨(by kernel_rfl),?_⟩
 conv=>whnf
 refine ⟨by unfold I64; omega,?_⟩
 conv=>whnf
 refine Bo (Ug Γ.toTy (d:=23) (hi:=q.length - 1) E E E E E (by decide) E (.inl ⟨E,E⟩) (.inr ⟨_,_,E,congrArg (fun z=>SV.val (.int .i64 z)) (by omega)⟩) (by omega)) (by kernel_rfl) E ?_
 rw [← List.dropLast_eq_take]
 refine rd (by kernel_rfl) ?_;conv=>whnf
 refine ⟨(by kernel_rfl),?_⟩
 conv=>whnf
 exact done E (.cons .tmp .nil) [(2,23)] [(0,.box [.osl 2]),(1,.non),(2,.row 3 A8 q.dropLast)] (fun _ h=>h) E E ⟨Y,⟨.inl E,E,.inl E,E,.inl E,E,Y⟩,E,E⟩
end Go.Sy.YtmelpejjondedaaGreat
namespace Go.Sy.YtmelpejjondedaaGreat
open Go.Proofs
attribute [local irreducible] Go.Sy.G Go.Sy.DR
set_option maxRecDepth 100000
set_option maxHeartbeats 4000000
theorem mLen : Meth Tryz.prog 340 "Len" 234 false 342 := .of (by kernel_rfl) Tryz.underlying340
theorem Zm : Meth Tryz.prog 340 "Less" 384 false 342 := .of (by kernel_rfl) Tryz.underlying340
theorem Zl : Meth Tryz.prog 340 "Swap" 387 false 342 := .of (by kernel_rfl) Tryz.underlying340
theorem mPush : Meth Tryz.prog 340 "Push" 386 true 342 := .of (by kernel_rfl) Tryz.underlying340
theorem mPop : Meth Tryz.prog 340 "Pop" 385 true 342 := .of (by kernel_rfl) Tryz.underlying340
def Cw (q:List Item) (i j:Nat):List Item:=(q.set i (q.getD j default)).set j (q.getD i default)
theorem Au (q:List Item) (i j:Nat):(Cw q i j).length = q.length:=by simp [Cw]
def upF:Nat → List Item → Nat → List Item
 | 0,q,_=>q
 | n + 1,q,j=>if j = 0 then q else if Bi (q.getD j default) (q.getD ((j - 1) / 2) default) then upF n (Cw q ((j - 1) / 2) j) ((j - 1) / 2) else q
theorem Yk:∀ (n m:Nat) (q:List Item) (j:Nat),j ≤ n → j ≤ m → upF n q j = upF m q j
 | 0,m,q,j,h,_=>by
  have:j = 0:=by omega
  subst this
  cases m <;> simp [upF]
 | n + 1,0,q,j,_,h=>by
  have:j = 0:=by omega
  subst this
  simp [upF]
 | n + 1,m + 1,q,j,h1,h2=>by
  rw [upF,upF]
  split
  ·rfl
  ·split
   ·exact Yk n m _ _ (by omega) (by omega)
   ·rfl
theorem Af3 (r:List Item):∀ (i:Nat),i ≠ 0 → upF i r i = if Bi (r.getD i default) (r.getD ((i - 1) / 2) default) then upF ((i - 1) / 2) (Cw r ((i - 1) / 2) i) ((i - 1) / 2) else r
 | 0,h=>absurd rfl h
 | m + 1,_=>by
  rw [upF,if_neg (by omega)]
  split
  ·exact Yk _ _ _ _ (by omega) (by omega)
  ·rfl
theorem upS (q:List Item) (j:Nat) (hj:j < q.length) (hl:q.length < 1000000) :
  Sy.Spec Tryz.prog 285 [.ifc 340 (.ptr 0 0),Aa j] [(0,.box [.osl 1]),(1,.row 3 A8 q)] (.tup []) [(0,.box [.osl 1]),(1,.row 3 A8 (upF j q j))]:=Ab Γ hm 100 F285 Tryz.ntmps285 rfl fun F hF=>by
 conv=>whnf
 refine Kv (α:={p:List Item × Nat // upF p.2 p.1 p.2 = upF j q j ∧ p.1.length = q.length ∧ p.2 < p.1.length}) (fun p=>[(0,.ifc 340 (.ptr 0 0)),(1,Aa p.1.2)]) (fun p=>[(0,.box [.osl 1]),(1,.row 3 A8 p.1.1)]) (fun p=>p.1.2) ⟨(q,j),E,E,hj⟩ []
  ⟨⟨rfl,rfl,rfl,rfl,trivial⟩,⟨.inl rfl,rfl,.inl rfl,rfl,trivial⟩,rfl,rfl⟩ ?_
 rintro ⟨⟨r,i⟩,h1,h2,h3⟩
 simp only at h1 h2 h3
 dsimp only
 have hw:IntKind.i64.wrap (((i:Int) - 1).tdiv 2) = (((i - 1) / 2:Nat):Int):=by
  rcases Nat.eq_zero_or_pos i with h0 | h0
  ·subst h0; rfl
  ·have:((i:Int) - 1) = ((i - 1:Nat):Int):=by omega
   rw [this,Int.tdiv_eq_ediv_of_nonneg (by omega),IntKind.wrap_i64]
   omega
 refine rg ?_;conv=>whnf
 refine ⟨by unfold I64; omega,?_⟩
 conv=>whnf
 refine ⟨by decide,?_⟩
 rw [hw]
 conv=>whnf
 refine ⟨fun h=>?_,fun h=>?_⟩
 ·have h0:i = 0:=by
   have:(((i - 1) / 2:Nat):Int) = i:=by simpa using h
   omega
  subst h0
  have e:upF j q j = r:=by rw [← h1]; rfl
  rw [e]
  (refine rg ?_;(conv=>whnf);refine aT ?_;refine rg ?_;conv=>whnf)
  exact Bc E .nil [] [(0,.box [.osl 1]),(1,.row 3 A8 r)] (fun _ h=>h) E E ⟨Y,⟨.inl E,E,.inl E,E,Y⟩,E,E⟩
 have h0:i ≠ 0:=by
  intro h0
  subst h0
  exact absurd h (by decide)
 have hp:(i - 1) / 2 < r.length:=by omega
 have hless:=Hu r i ((i - 1) / 2) h3 hp
 refine rg ?_;conv=>whnf
 refine Ah (C3 [1] (A6 Γ.toTy Zm F384 E E E E E) hless (.cons (.row E E) (.cons (.refl _) (.cons (.refl _) .nil))) E E) E E ?_
 refine rg ?_;conv=>whnf
 have hu:upF i r i = if Bi r[i] r[(i - 1) / 2] then upF ((i - 1) / 2) (Cw r ((i - 1) / 2) i) ((i - 1) / 2) else r:=by
  rw [Af3 r i h0,Az h3,Az hp]
 refine ⟨fun h=>?_,fun h=>?_⟩
 ·have hlt:Bi r[i] r[(i - 1) / 2] = false:=by simpa using h
  have e:upF j q j = r:=by rw [← h1,hu,hlt]; rfl
  rw [e]
  refine rg ?_;conv=>whnf
  exact Bc E .nil [] [(0,.box [.osl 1]),(1,.row 3 A8 r)] (fun _ h=>h) E E ⟨Y,⟨.inl E,E,.inl E,E,Y⟩,E,E⟩
 have hlt:Bi r[i] r[(i - 1) / 2] = true:=by simpa using h
 rw [hlt,if_pos rfl] at hu
 have hsw:=Ht r ((i - 1) / 2) i hp h3
 have e:(r.set ((i - 1) / 2) r[i]).set i r[(i - 1) / 2] = Cw r ((i - 1) / 2) i:=by
  rw [Cw,Az h3,Az hp]
 rw [e] at hsw
 refine rg ?_;conv=>whnf
 refine Ah (Ca [(0,1)] (A6 Γ.toTy Zl F387 E E E E E) hsw E ⟨E,Y⟩ E ⟨.inl E,Y⟩) E E ?_
 refine rg ?_;conv=>whnf
 exact L2 (α:={p:List Item × Nat // upF p.2 p.1 p.2 = upF j q j ∧ p.1.length = q.length ∧ p.2 < p.1.length}) (L:=fun p=>[(0,.ifc 340 (.ptr 0 0)),(1,Aa p.1.2)]) (O:=fun p=>[(0,.box [.osl 1]),(1,.row 3 A8 p.1.1)]) (μ:=fun p=>p.1.2) (x:=⟨(r,i),h1,h2,h3⟩)
  ⟨(Cw r ((i - 1) / 2) i,(i - 1) / 2),by rw [← h1,hu],by rw [Au]; exact h2,by rw [Au]; exact hp⟩ [] (by simp only; omega)
  ⟨⟨rfl,rfl,rfl,rfl,trivial⟩,⟨.inl rfl,rfl,.inl rfl,rfl,trivial⟩,rfl,rfl⟩
theorem S9:∀ (n:Nat) (q:List Item) (j:Nat),(upF n q j).length = q.length
 | 0,q,j=>rfl
 | n + 1,q,j=>by
  rw [upF]
  split
  ·rfl
  ·split
   ·rw [S9 n,Au]
   ·rfl
def Lq (q:List Item) (x:Item):List Item:=upF q.length (q ++ [x]) q.length
theorem Wd (q:List Item) (x:Item) (hl:q.length < 999999) :
  Sy.Spec Tryz.prog 233 [.ifc 340 (.ptr 0 0),.ifc 345 (A8 x)] [(0,.box [.osl 1]),(1,.row 3 A8 q)] (.tup []) [(0,.box [.osl 2]),(1,.non),(2,.row 3 A8 (Lq q x))]:=Ab Γ hm 100 F233 Tryz.ntmps233 rfl fun F hF=>by
 have hpush:=Abh q x (by omega)
 have hlen:=Qd (q ++ [x])
 have hup:=upS (q ++ [x]) q.length (by simp) (by simp; omega)
 have hln:(((q ++ [x]).length:Nat):Int) - 1 = (q.length:Int):=by simp
 conv=>whnf
 refine Ah (Ca (rd:=[]) [(2,6)] (Lz mPush F386 E E) hpush E ⟨E,E,Y⟩ E ⟨.inl E,.inl E,.inr E,Y⟩) E E ?_
 refine rg ?_;conv=>whnf
 refine Ah (C3 [6] (A6 Γ.toTy mLen F234 E E E E E) hlen (.cons (.row E E) .nil) E E) E E ?_
 refine rg ?_;conv=>whnf
 refine ⟨by unfold I64; simp; omega,?_⟩
 rw [hln]
 conv=>whnf
 refine Ah (Ai [(1,6)] E F285 hup E ⟨E,E,Y⟩ E ⟨.inl E,.inl E,Y⟩) E E ?_
 refine rg ?_;conv=>whnf
 exact Bc E .nil [(2,6)] [(0,.box [.osl 2]),(1,.non),(2,.row 3 A8 (Lq q x))] (fun _ h=>h) E E ⟨Y,⟨.inl E,E,.inl E,E,.inl E,E,Y⟩,E,E⟩
def Cr (q:List Item) (i n:Nat):Nat:=if 2 * i + 2 < n ∧ Bi (q.getD (2 * i + 2) default) (q.getD (2 * i + 1) default) = true then 2 * i + 2 else 2 * i + 1
theorem I9 (q:List Item) (i n:Nat) (h:2 * i + 1 < n):Cr q i n < n ∧ i < Cr q i n:=by
 unfold Cr
 split <;> omega
def Cs:Nat → List Item → Nat → Nat → List Item × Nat
 | 0,q,i,_=>(q,i)
 | f + 1,q,i,n=>if 2 * i + 1 < n then (if Bi (q.getD (Cr q i n) default) (q.getD i default) then Cs f (Cw q i (Cr q i n)) (Cr q i n) n else (q,i)) else (q,i)
theorem Mi:∀ (f g:Nat) (q:List Item) (i n:Nat),n ≤ f + i → n ≤ g + i → Cs f q i n = Cs g q i n
 | 0,g,q,i,n,h1,h2=>by
  cases g with
  | zero=>rfl
  | succ g=>rw [Cs,Cs,if_neg (by omega)]
 | f + 1,0,q,i,n,h1,h2=>by rw [Cs,Cs,if_neg (by omega)]
 | f + 1,g + 1,q,i,n,h1,h2=>by
  rw [Cs,Cs]
  split
  ·rename_i h
   have:=I9 q i n h
   split
   ·exact Mi f g _ _ n (by omega) (by omega)
   ·rfl
  ·rfl
theorem Acl (r:List Item) (i n:Nat):Cs (n - i) r i n = if 2 * i + 1 < n then (if Bi (r.getD (Cr r i n) default) (r.getD i default) then Cs (n - Cr r i n) (Cw r i (Cr r i n)) (Cr r i n) n else (r,i)) else (r,i):=by
 rw [Mi (n - i) (n - i + 1) r i n (by omega) (by omega),Cs]
 split
 ·rename_i h
  have:=I9 r i n h
  split
  ·exact Mi _ _ _ _ _ (by omega) (by omega)
  ·rfl
 ·rfl
theorem Oq:∀ (f:Nat) (q:List Item) (i n:Nat),(Cs f q i n).1.length = q.length
 | 0,_,_,_=>rfl
 | f + 1,q,i,n=>by
  rw [Cs]
  split
  ·split
   ·rw [Oq f,Au]
   ·rfl
  ·rfl
theorem downS (q:List Item) (i0 n:Nat) (hn:n ≤ q.length) (hi:i0 < q.length) (hl:q.length < 1000000) :
  Sy.Spec Tryz.prog 286 [.ifc 340 (.ptr 0 0),Aa i0,Aa n] [(0,.box [.osl 1]),(1,.row 3 A8 q)] (Ad (decide (((Cs (n - i0) q i0 n).2:Int) > i0))) [(0,.box [.osl 1]),(1,.row 3 A8 (Cs (n - i0) q i0 n).1)]:=Ab Γ hm 100 F286 Tryz.ntmps286 rfl fun F hF=>by
 generalize hD:Cs (n - i0) q i0 n = D
 conv=>whnf
 refine Kv (α:={p:List Item × Nat // Cs (n - p.2) p.1 p.2 n = D ∧ p.1.length = q.length ∧ p.2 < p.1.length}) (fun p=>[(0,.ifc 340 (.ptr 0 0)),(1,Aa i0),(2,Aa n),(7,Aa p.1.2)]) (fun p=>[(0,.box [.osl 1]),(1,.row 3 A8 p.1.1)]) (fun p=>n - p.1.2) ⟨(q,i0),hD,E,hi⟩ []
  ⟨⟨rfl,rfl,rfl,rfl,rfl,rfl,rfl,rfl,trivial⟩,⟨.inl rfl,rfl,.inl rfl,rfl,trivial⟩,rfl,rfl⟩ ?_
 rintro ⟨⟨r,i⟩,h1,h2,h3⟩
 simp only at h1 h2 h3
 dsimp only
 have h10:=h1
 rw [Acl] at h1
 have hj1:(2:Int) * i + 1 = ((2 * i + 1:Nat):Int):=by omega
 have hj2:((2 * i + 1:Nat):Int) + 1 = ((2 * i + 2:Nat):Int):=by omega
 refine rg ?_;conv=>whnf
 refine ⟨by unfold I64; omega,?_⟩
 conv=>whnf
 refine ⟨by unfold I64; omega,?_⟩
 rw [hj1]
 conv=>whnf
 refine ⟨fun h=>?_,fun h=>?_⟩
 ·have hge:¬ 2 * i + 1 < n:=by have:=of_decide_eq_true h; omega
  rw [if_neg hge] at h1
  rw [← h1]
  (refine rg ?_;(conv=>whnf);refine aT ?_;refine rg ?_;conv=>whnf)
  exact done E (.cons .tmp .nil) [] [(0,.box [.osl 1]),(1,.row 3 A8 r)] (fun _ h=>h) E E ⟨Y,⟨.inl E,E,.inl E,E,Y⟩,E,E⟩
 have hlt:2 * i + 1 < n:=by have:=of_decide_eq_false h; omega
 rw [if_pos hlt] at h1
 (refine rg ?_;(conv=>whnf);refine aF ?_;refine rg ?_;conv=>whnf)
 refine ⟨by unfold I64; omega,?_⟩
 rw [hj2]
 conv=>whnf
 refine ⟨fun h=>?_,fun h=>?_⟩
 ·have h2n:2 * i + 2 < n:=by have:=of_decide_eq_true h; omega
  have hA:2 * i + 2 < r.length:=by omega
  have hB:2 * i + 1 < r.length:=by omega
  have hlc:=Hu r (2 * i + 2) (2 * i + 1) hA hB
  refine rg ?_;conv=>whnf
  refine Ah (C3 [1] (A6 Γ.toTy Zm F384 E E E E E) hlc (.cons (.row E E) (.cons (.refl _) (.cons (.refl _) .nil))) E E) E E ?_
  refine rg ?_;conv=>whnf
  refine ⟨fun h=>?_,fun h=>?_⟩
  ·have hc:Cr r i n = 2 * i + 2:=by rw [Cr,if_pos ⟨h2n,by rw [Az hA,Az hB]; exact h⟩]
   have hJ:=hA
   refine rg ?_;conv=>whnf
   rw [hc,Az hJ,Az h3] at h1
   have hls:=Hu r (2 * i + 2) i hJ h3
   refine Ah (C3 [1] (A6 Γ.toTy Zm F384 E E E E E) hls (.cons (.row E E) (.cons (.refl _) (.cons (.refl _) .nil))) E E) E E ?_
   refine rg ?_;conv=>whnf
   refine ⟨fun h=>?_,fun h=>?_⟩
   ·have hf:Bi r[2 * i + 2] r[i] = false:=by simpa using h
    rw [hf] at h1
    have e:D = (r,i):=h1.symm
    rw [e]
    refine rg ?_;conv=>whnf
    exact done E (.cons .tmp .nil) [] [(0,.box [.osl 1]),(1,.row 3 A8 r)] (fun _ h=>h) E E ⟨Y,⟨.inl E,E,.inl E,E,Y⟩,E,E⟩
   have hf:Bi r[2 * i + 2] r[i] = true:=by simpa using h
   rw [hf,if_pos rfl] at h1
   have hsw:=Ht r i (2 * i + 2) h3 hJ
   have e:(r.set i r[2 * i + 2]).set (2 * i + 2) r[i] = Cw r i (2 * i + 2):=by
    rw [Cw,Az h3,Az hJ]
   rw [e] at hsw
   refine rg ?_;conv=>whnf
   refine Ah (Ca [(0,1)] (A6 Γ.toTy Zl F387 E E E E E) hsw E ⟨E,Y⟩ E ⟨.inl E,Y⟩) E E ?_
   refine rg ?_;conv=>whnf
   exact L2 (α:={p:List Item × Nat // Cs (n - p.2) p.1 p.2 n = D ∧ p.1.length = q.length ∧ p.2 < p.1.length}) (L:=fun p=>[(0,.ifc 340 (.ptr 0 0)),(1,Aa i0),(2,Aa n),(7,Aa p.1.2)]) (O:=fun p=>[(0,.box [.osl 1]),(1,.row 3 A8 p.1.1)]) (μ:=fun p=>n - p.1.2) (x:=⟨(r,i),h10,h2,h3⟩)
    ⟨(Cw r i (2 * i + 2),2 * i + 2),h1,by rw [Au]; exact h2,by rw [Au]; exact hJ⟩ [] (by simp only; omega)
    ⟨⟨rfl,rfl,rfl,rfl,rfl,rfl,rfl,rfl,trivial⟩,⟨.inl rfl,rfl,.inl rfl,rfl,trivial⟩,rfl,rfl⟩
  ·have hc:Cr r i n = 2 * i + 1:=by rw [Cr,if_neg (fun hh=>by rw [Az hA,Az hB,h] at hh; exact absurd hh.2 (by simp))]
   have hJ:=hB
   refine rg ?_;conv=>whnf
   rw [hc,Az hJ,Az h3] at h1
   have hls:=Hu r (2 * i + 1) i hJ h3
   refine Ah (C3 [1] (A6 Γ.toTy Zm F384 E E E E E) hls (.cons (.row E E) (.cons (.refl _) (.cons (.refl _) .nil))) E E) E E ?_
   refine rg ?_;conv=>whnf
   refine ⟨fun h=>?_,fun h=>?_⟩
   ·have hf:Bi r[2 * i + 1] r[i] = false:=by simpa using h
    rw [hf] at h1
    have e:D = (r,i):=h1.symm
    rw [e]
    refine rg ?_;conv=>whnf
    exact done E (.cons .tmp .nil) [] [(0,.box [.osl 1]),(1,.row 3 A8 r)] (fun _ h=>h) E E ⟨Y,⟨.inl E,E,.inl E,E,Y⟩,E,E⟩
   have hf:Bi r[2 * i + 1] r[i] = true:=by simpa using h
   rw [hf,if_pos rfl] at h1
   have hsw:=Ht r i (2 * i + 1) h3 hJ
   have e:(r.set i r[2 * i + 1]).set (2 * i + 1) r[i] = Cw r i (2 * i + 1):=by
    rw [Cw,Az h3,Az hJ]
   rw [e] at hsw
   refine rg ?_;conv=>whnf
   refine Ah (Ca [(0,1)] (A6 Γ.toTy Zl F387 E E E E E) hsw E ⟨E,Y⟩ E ⟨.inl E,Y⟩) E E ?_
   refine rg ?_;conv=>whnf
   exact L2 (α:={p:List Item × Nat // Cs (n - p.2) p.1 p.2 n = D ∧ p.1.length = q.length ∧ p.2 < p.1.length}) (L:=fun p=>[(0,.ifc 340 (.ptr 0 0)),(1,Aa i0),(2,Aa n),(7,Aa p.1.2)]) (O:=fun p=>[(0,.box [.osl 1]),(1,.row 3 A8 p.1.1)]) (μ:=fun p=>n - p.1.2) (x:=⟨(r,i),h10,h2,h3⟩)
    ⟨(Cw r i (2 * i + 1),2 * i + 1),h1,by rw [Au]; exact h2,by rw [Au]; exact hJ⟩ [] (by simp only; omega)
    ⟨⟨rfl,rfl,rfl,rfl,rfl,rfl,rfl,rfl,trivial⟩,⟨.inl rfl,rfl,.inl rfl,rfl,trivial⟩,rfl,rfl⟩
 ·have h2n:¬ 2 * i + 2 < n:=by have:=of_decide_eq_false h; omega
  have hJ:2 * i + 1 < r.length:=by omega
  have hc:Cr r i n = 2 * i + 1:=by rw [Cr,if_neg (fun hh=>h2n hh.1)]
  (refine rg ?_;(conv=>whnf);refine aF ?_;refine rg ?_;conv=>whnf)
  rw [hc,Az hJ,Az h3] at h1
  have hls:=Hu r (2 * i + 1) i hJ h3
  refine Ah (C3 [1] (A6 Γ.toTy Zm F384 E E E E E) hls (.cons (.row E E) (.cons (.refl _) (.cons (.refl _) .nil))) E E) E E ?_
  refine rg ?_;conv=>whnf
  refine ⟨fun h=>?_,fun h=>?_⟩
  ·have hf:Bi r[2 * i + 1] r[i] = false:=by simpa using h
   rw [hf] at h1
   have e:D = (r,i):=h1.symm
   rw [e]
   refine rg ?_;conv=>whnf
   exact done E (.cons .tmp .nil) [] [(0,.box [.osl 1]),(1,.row 3 A8 r)] (fun _ h=>h) E E ⟨Y,⟨.inl E,E,.inl E,E,Y⟩,E,E⟩
  have hf:Bi r[2 * i + 1] r[i] = true:=by simpa using h
  rw [hf,if_pos rfl] at h1
  have hsw:=Ht r i (2 * i + 1) h3 hJ
  have e:(r.set i r[2 * i + 1]).set (2 * i + 1) r[i] = Cw r i (2 * i + 1):=by
   rw [Cw,Az h3,Az hJ]
  rw [e] at hsw
  refine rg ?_;conv=>whnf
  refine Ah (Ca [(0,1)] (A6 Γ.toTy Zl F387 E E E E E) hsw E ⟨E,Y⟩ E ⟨.inl E,Y⟩) E E ?_
  refine rg ?_;conv=>whnf
  exact L2 (α:={p:List Item × Nat // Cs (n - p.2) p.1 p.2 n = D ∧ p.1.length = q.length ∧ p.2 < p.1.length}) (L:=fun p=>[(0,.ifc 340 (.ptr 0 0)),(1,Aa i0),(2,Aa n),(7,Aa p.1.2)]) (O:=fun p=>[(0,.box [.osl 1]),(1,.row 3 A8 p.1.1)]) (μ:=fun p=>n - p.1.2) (x:=⟨(r,i),h10,h2,h3⟩)
   ⟨(Cw r i (2 * i + 1),2 * i + 1),h1,by rw [Au]; exact h2,by rw [Au]; exact hJ⟩ [] (by simp only; omega)
   ⟨⟨rfl,rfl,rfl,rfl,rfl,rfl,rfl,rfl,trivial⟩,⟨.inl rfl,rfl,.inl rfl,rfl,trivial⟩,rfl,rfl⟩
def B9 (q:List Item):List Item:=(Cs (q.length - 1 - 0) (Cw q 0 (q.length - 1)) 0 (q.length - 1)).1
theorem C1 (q:List Item):(B9 q).length = q.length:=by rw [B9,Oq,Au]
theorem Cu {q:List Item} (h:q ≠ []):B9 q ≠ []:=fun e=>h (List.eq_nil_of_length_eq_zero (by rw [← C1,e]; rfl))
theorem Ahx (q:List Item) (hq:q ≠ []) (hl:q.length < 1000000) :
  Sy.Spec Tryz.prog 235 [.ifc 340 (.ptr 0 0)] [(0,.box [.osl 1]),(1,.row 3 A8 q)] (.ifc 345 (A8 ((B9 q).getLast (Cu hq)))) [(0,.box [.osl 2]),(1,.non),(2,.row 3 A8 (B9 q).dropLast)]:=Ab Γ hm 100 F235 Tryz.ntmps235 rfl fun F hF=>by
 have h0:0 < q.length:=List.length_pos_iff.2 hq
 have hlen:=Qd q
 have hsw:=Ht q 0 (q.length - 1) h0 (by omega)
 have e:(q.set 0 q[q.length - 1]).set (q.length - 1) q[0] = Cw q 0 (q.length - 1):=by
  rw [Cw,Az (show q.length - 1 < q.length by omega),Az h0]
 rw [e] at hsw
 have hdn:=downS (Cw q 0 (q.length - 1)) 0 (q.length - 1) (by rw [Au]; omega) (by rw [Au]; exact h0) (by rw [Au]; exact hl)
 have hpop:=Aep (B9 q) (Cu hq) (by rw [C1]; exact hl)
 have hln:(q.length:Int) - 1 = ((q.length - 1:Nat):Int):=by omega
 conv=>whnf
 refine Ah (C3 [1] (A6 Γ.toTy mLen F234 E E E E E) hlen (.cons (.row E E) .nil) E E) E E ?_
 refine rg ?_;conv=>whnf
 refine ⟨by unfold I64; omega,?_⟩
 rw [hln]
 conv=>whnf
 refine Ah (Ca [(0,1)] (A6 Γ.toTy Zl F387 E E E E E) hsw E ⟨E,Y⟩ E ⟨.inl E,Y⟩) E E ?_
 refine rg ?_;conv=>whnf
 refine Ah (Ai [] E F286 hdn E ⟨E,E,Y⟩ E ⟨.inl E,.inl E,Y⟩) E E ?_
 refine rg ?_;conv=>whnf
 refine Ah (Ca (rd:=[]) [(2,14)] (Lz mPop F385 E E) hpop E ⟨E,E,Y⟩ E ⟨.inl E,.inl E,.inr E,Y⟩) E E ?_
 refine rg ?_;conv=>whnf
 exact done E (.cons .tmp .nil) [(2,14)] [(0,.box [.osl 2]),(1,.non),(2,.row 3 A8 (B9 q).dropLast)] (fun _ h=>h) E E ⟨Y,⟨.inl E,E,.inl E,E,.inl E,E,Y⟩,E,E⟩
end Go.Sy.YtmelpejjondedaaGreat
namespace Go.Sy.YtmelpejjondedaaGreat
open Go.Proofs
attribute [local irreducible] Go.Sy.G Go.Sy.DR
set_option maxRecDepth 20000
set_option maxHeartbeats 4000000
def Cp:Vec → List Vec → Vec
 | v,[]=>v
 | v,x :: l=>Cp (if V3 x v then x else v) l
def zeroV:Vec:=⟨0,0,0,0,0⟩
def Jn:List Vec → Vec × Bool
 | []=>(zeroV,false)
 | v :: l=>(Cp v (v :: l),true)
theorem T7:∀ (v:Vec) (l:List Vec),Cp v l = v ∨ Cp v l ∈ l
 | v,[]=>.inl rfl
 | v,x :: l=>by
  rw [Cp]
  rcases T7 (if V3 x v then x else v) l with h | h
  ·rw [h]
   split
   ·exact .inr (by simp)
   ·exact .inl E
  ·exact .inr (by simp [h])
theorem Zu (v:Vec) (l:List Vec) (j:Nat) (h:j < l.length):Cp v (l.take (j + 1)) = (if V3 l[j] (Cp v (l.take j)) then l[j] else Cp v (l.take j)):=by
 have key:∀ (a b:List Vec) (v:Vec),Cp v (a ++ b) = Cp (Cp v a) b:=by
  intro a
  induction a with
  | nil=>intro b v; rfl
  | cons x a ih=>intro b v; rw [List.cons_append,Cp,Cp,ih]
 rw [List.take_succ_eq_append_getElem h,key]
 rfl
theorem leastS (l:List Vec) (hl:Am l):Sy.Spec Tryz.prog 236 [.sl 5 J2 l] [] (.tup [J2 (Jn l).1,Ad (Jn l).2]) []:=Ab Γ hm 100 F236 Tryz.ntmps236 rfl fun F hF=>by
 unfold Am at hl
 have hR:∀ h:0 < l.length,Jn l = (Cp l[0] l,true):=fun h=>by
  cases l with
  | nil=>simp at h
  | cons v t=>rfl
 conv=>whnf
 refine ⟨fun h=>?_,fun h=>?_⟩
 ·have:l = []:=List.eq_nil_of_length_eq_zero (by have:(l.length:Int) = 0:=(by simpa using h); omega)
  subst this
  refine rg ?_;conv=>whnf
  exact done E (.cons (.cell E E E E) (.cons .tmp .nil)) [] [] (fun _ h=>h) E E ⟨Y,Y,E,E⟩
 have h0:0 < l.length:=by
  have:¬ (l.length:Int) = 0:=by simpa using h
  omega
 rw [hR h0]
 refine rg ?_;conv=>whnf
 refine ⟨E,by decide,h0,?_⟩
 conv=>whnf
 have e0:l[(0:Int).toNat]'(h0) = l[0]:=rfl
 generalize hv:l[0] = v at *
 refine A0 l.length (fun j=>[(0,.sl 5 J2 l),(2,.ptr 2 0),(4,.ptr 4 0),(14,.sl 5 J2 l),(15,Aa l.length),(16,Aa j)]) (fun j=>[(2,.box [Aa 0,Aa 0,Aa 0,Aa 0,Aa 0]),(4,.box [Aa (Cp v (l.take j)).root,Aa (Cp v (l.take j)).cost,Aa (Cp v (l.take j)).bridge,Aa (Cp v (l.take j)).port,Aa (Cp v (l.take j)).own])]) []
  ⟨⟨rfl,rfl,rfl,rfl,rfl,rfl,rfl,rfl,rfl,rfl,rfl,rfl,trivial⟩,⟨.inl rfl,rfl,.inl (by subst hv; rfl),rfl,trivial⟩,rfl,rfl⟩ ?_
 intro j hj
 refine rg ?_;conv=>whnf
 refine ⟨fun h=>?_,fun h=>?_⟩
 ·have hlt:j < l.length:=by simpa using h
  have hdrop:=Zu v l j hlt
  generalize hx:l[j] = x at hdrop
  have hx':l[(j:Int).toNat]'(by omega) = x:=hx
  generalize hmn:Cp v (l.take j) = m at hdrop
  refine rg ?_;conv=>whnf
  refine ⟨E,by omega,by omega,?_⟩
  rw [hx']
  conv=>whnf
  refine Ag (lessS x m) F287 E E E E E ?_
  refine rg ?_;conv=>whnf
  refine ⟨fun h2=>?_,fun h2=>?_⟩
  ·rw [h2,if_pos rfl] at hdrop
   refine rg ?_;conv=>whnf
   refine ⟨by unfold I64; omega,?_⟩
   conv=>whnf
   exact Aq [] hlt ⟨⟨E,E,E,E,E,E,E,E,E,E,E,E,Y⟩,⟨.inl E,E,.inl (by rw [hdrop]; rfl),E,Y⟩,E,E⟩
  ·rw [h2] at hdrop
   refine rg ?_;conv=>whnf
   refine ⟨by unfold I64; omega,?_⟩
   conv=>whnf
   exact Aq [] hlt ⟨⟨E,E,E,E,E,E,E,E,E,E,E,E,Y⟩,⟨.inl E,E,.inl (by rw [hdrop]; rfl),E,Y⟩,E,E⟩
 ·have hjl:¬ j < l.length:=by simpa using h
  rw [List.take_of_length_le (by omega)]
  refine rg ?_;conv=>whnf
  exact done E (.cons (.cell E E E E) (.cons .tmp .nil)) [] [] (fun _ h=>h) E E ⟨Y,Y,E,E⟩
theorem leastR_mem {l:List Vec} (h:(Jn l).2 = true):(Jn l).1 ∈ l:=by
 cases l with
 | nil=>cases h
 | cons v t =>
  rcases T7 v (v :: t) with h | h
  ·show Cp v (v :: t) ∈ v :: t
   rw [h]; simp
  ·exact h
theorem Qz (n:Net):∀ x ∈ Cy n,0 ≤ x ∧ x < n.devices.length:=fun x hx=>by
 rw [Y8,Iw] at hx
 obtain ⟨i,hi,rfl⟩:=List.mem_map.1 hx
 have hi:=List.mem_range.1 hi
 have h1:=List.countP_le_length (p:=fun k=>B4 n (k:Nat) i) (l:=List.range n.devices.length)
 rw [List.length_range] at h1
 have h2:(List.range n.devices.length).countP (fun k=>B4 n (k:Nat) i) ≠ n.devices.length:=fun e=>by
  have:=List.countP_eq_length.1 (e.trans List.length_range.symm) i (List.mem_range.2 hi)
  rw [Jt] at this
  cases this
 omega
theorem Ik (n:Net):(Cy n).length = n.devices.length:=by rw [Y8,Iw]; simp
end Go.Sy.YtmelpejjondedaaGreat
namespace Go.Sy.YtmelpejjondedaaGreat
open Go.Proofs
attribute [local irreducible] Go.Sy.G Go.Sy.DR
set_option maxRecDepth 100000
set_option maxHeartbeats 4000000
def Ln (n:Net) (up:List Bool) (ranks:List Int) (x y:SV):List SV:=[.sl 5 Bj n.devices,.sl 7 Ba n.ports,.sl 3 Cj n.links,.sl 6 Av n.domains,.sl 4 Bh n.statics,.sl 4 B0 n.floods,.sl 5 Cv n.vrfs,.sl 5 Dw n.irbs,.sl 1 Ad up,.sl 1 Aa ranks,x,y]
def Ck (n:Net) (up:List Bool) (i:Nat):Int :=
 let p:=n.ports.getD i default
 if p.link < 0 || !(up.getD p.link.toNat false) then -1 else (nth n.links p.link).a + (nth n.links p.link).b - i
theorem farS (n:Net) (up:List Bool) (ranks:List Int) (x y:SV) (_hx:(x.boxed && x.data && y.boxed && y.data && Nat.beq (cellsOf x).length 1 && Nat.beq (cellsOf y).length 1) = true) (i:Nat) (hr:Af n = true) (hu:up.length = n.links.length) (hi:i < n.ports.length) :
  Sy.Spec Tryz.prog 158 [.ref 12 (.agg (Ln n up ranks x y)) 0,Aa i] [] (Aa (Ck n up i)) []:=Ab Γ hm 100 F158 Tryz.ntmps158 rfl fun F hF=>by
 have hpl:=K2 hr hi
 have hf:=Dc hr
 have e1:n.ports[(i:Int).toNat]'(by omega) = n.ports[i]:=rfl
 have hfar:Ck n up i = if n.ports[i].link < 0 || !(up.getD n.ports[i].link.toNat false) then -1 else (nth n.links n.ports[i].link).a + (nth n.links n.ports[i].link).b - i:=by
  rw [Ck,Az hi]
 generalize hp:n.ports[i] = p at *
 have hle:=fun h=>I1 hr (i:=p.link.toNat) h
 conv=>whnf
 refine ⟨E,by omega,by omega,?_⟩
 rw [e1]
 conv=>whnf
 (repeat' (first | (refine ⟨fun h=>?_,fun h=>?_⟩ <;> (repeat (first | simp only [decide_eq_true_eq] at h | simp only [decide_eq_false_iff_not] at h | simp only [Bool.not_eq_true'] at h | simp only [Bool.not_eq_false'] at h)) <;> ((first|refine rg ?_|refine rd (by kernel_rfl) ?_);(conv=>whnf))) | (refine Ac rfl (.cons .tmp .nil) ?_ rfl) | (refine ⟨(by kernel_rfl),?_⟩; ((conv=>whnf);repeat((refine aT ?_);(refine rg ?_);(conv=>whnf)))) | (refine ⟨by (first | omega | ((have hq:=hle (by omega); unfold I64; omega))),by (first | omega | ((have hq:=hle (by omega); unfold I64; omega))),?_⟩; ((conv=>whnf)))))
 all_goals (refine congrArg Aa ?_; rw [hfar])
 ·simp_all
 ·have h1:up.getD p.link.toNat false = false:=by rw [Az (by omega)]; assumption
  rw [h1]; simp
 ·have h1:up.getD p.link.toNat false = true:=by rw [Az (by omega)]; assumption
  rw [h1,An (by omega)]
  simp_all
def J5 (n:Net) (up:List Bool) (ranks roots costs:List Int):SV:=.ref 12 (.agg (Ln n up ranks (.sl 1 Aa roots) (.sl 1 Aa costs))) 0
def It (n:Net) (ranks costs:List Int) (i k:Nat):Bool :=
 let a:=(n.ports.getD i default).dev
 let b:=(n.ports.getD k default).dev
 decide (nth costs a < nth costs b) || (nth costs a == nth costs b && decide (nth ranks a < nth ranks b))
theorem Aa7 (n:Net) (up:List Bool) (ranks roots costs:List Int) (i k:Nat) (hr:Af n = true) (hrk:ranks.length = n.devices.length) (hc:costs.length = n.devices.length) (hi:i < n.ports.length) (hk:k < n.ports.length) :
  Sy.Spec Tryz.prog 159 [J5 n up ranks roots costs,Aa i,Aa k] [] (Ad (It n ranks costs i k)) []:=Ab Γ hm 100 F159 Tryz.ntmps159 rfl fun F hF=>by
 have hd1:=Kb hr hi
 have hd2:=Kb hr hk
 have e1:n.ports[(i:Int).toNat]'(by omega) = n.ports[i]:=rfl
 have e2:n.ports[(k:Int).toNat]'(by omega) = n.ports[k]:=rfl
 have hres:It n ranks costs i k = (decide (nth costs n.ports[i].dev < nth costs n.ports[k].dev) || (nth costs n.ports[i].dev == nth costs n.ports[k].dev && decide (nth ranks n.ports[i].dev < nth ranks n.ports[k].dev))):=by
  rw [It,Az hi,Az hk]
 rw [An (by omega),An (by omega),An (by omega),An (by omega)] at hres
 conv=>whnf
 (repeat' (first | (refine ⟨fun h=>?_,fun h=>?_⟩ <;> (repeat (first | simp only [decide_eq_true_eq] at h | simp only [decide_eq_false_iff_not] at h | simp only [beq_iff_eq] at h | simp only [beq_eq_false_iff_ne] at h)) <;> ((refine rd (by kernel_rfl) ?_);(conv=>whnf))) | (refine Ac rfl (.cons .tmp .nil) ?_ rfl) | (refine ⟨(by kernel_rfl),?_⟩; ((conv=>whnf))) | (refine ⟨by (first | omega | (simp only [Int.toNat_natCast]; omega)),by (first | omega | (simp only [Int.toNat_natCast]; omega)),?_⟩; ((conv=>whnf)))))
 all_goals (refine congrArg Ad ?_; rw [hres]; clear hF hres hr; simp only [Int.toNat_natCast] at *; grind)
theorem Uq {n:Net} {up:List Bool} (h:Af n = true) {i:Nat} (hi:i < n.ports.length) (hf:0 ≤ Ck n up i):Ck n up i < n.ports.length:=by
 have hp:=Jg h hi
 have hpl:=K2 h hi
 simp only [Ib,Bool.and_eq_true,Bool.or_eq_true,beq_iff_eq] at hp
 have hp:=hp.2
 unfold Ck at *
 rw [Az hi] at *
 simp only at *
 split at hf
 ·omega
 ·rename_i hc
  rw [if_neg hc]
  simp only [Bool.or_eq_true,decide_eq_true_eq,not_or] at hc
  rcases hp with hp | hp
  ·omega
  ·have hl:n.ports[i].link.toNat < n.links.length:=by omega
   have he:=I1 h hl
   rw [An hl] at *
   omega
def U2 (n:Net) (up:List Bool) (ranks roots costs:List Int) (dev:Int) (i:Nat):Option Vec :=
 let p:=n.ports.getD i default
 let far:=Ck n up i
 let there:=(nth n.ports far).dev
 if p.dev == dev && decide (0 ≤ far) then some ⟨nth roots there,nth costs there + p.cost,nth ranks there,far,i⟩ else none
def Ja (n:Net) (up:List Bool) (ranks roots costs:List Int) (dev:Int) (j:Nat):List Vec:=(List.range j).filterMap (U2 n up ranks roots costs dev)
theorem Acs (n:Net) (up:List Bool) (ranks roots costs:List Int) (dev:Int) (j:Nat):Ja n up ranks roots costs dev (j + 1) = Ja n up ranks roots costs dev j ++ (U2 n up ranks roots costs dev j).toList:=by
 rw [Ja,List.range_succ,List.filterMap_append]
 cases h:U2 n up ranks roots costs dev j <;> simp [Ja,h]
theorem Ow (n:Net) (up:List Bool) (ranks roots costs:List Int) (dev:Int) (j:Nat):(Ja n up ranks roots costs dev j).length ≤ j:=by
 have:=List.length_filterMap_le (U2 n up ranks roots costs dev) (List.range j)
 simpa [Ja] using this
def L1 (n:Net) (up:List Bool) (ranks roots costs:List Int) (dev:Int):Int :=
 let r:=Jn (Ja n up ranks roots costs dev n.ports.length)
 if !r.2 || nth roots dev == nth ranks dev then -1 else r.1.own
theorem bestS (n:Net) (up:List Bool) (ranks roots costs:List Int) (dev:Int) (hr:Af n = true) (hu:up.length = n.links.length) (hcost:Cm n = true) (hrk:ranks.length = n.devices.length) (hro:roots.length = n.devices.length) (hc:costs.length = n.devices.length)
  (hb:∀ c ∈ costs,0 ≤ c ∧ c < 1000000000) (hd:0 ≤ dev ∧ dev < n.devices.length) :
  Sy.Spec Tryz.prog 160 [J5 n up ranks roots costs,Aa dev] [] (Aa (L1 n up ranks roots costs dev)) []:=Ab Γ hm 100 F160 Tryz.ntmps160 rfl fun F hF=>by
 have hf:=Dc hr
 conv=>whnf
 refine B7 5 1000 5 J2 E E ?_
 refine A0 n.ports.length (fun j=>[(0,J5 n up ranks roots costs),(1,Aa dev),(5,.osl 1000),(16,.sl 7 Ba n.ports),(17,Aa n.ports.length),(18,Aa j)]) (fun j=>[(1000,.row 5 J2 (Ja n up ranks roots costs dev j))]) []
  ⟨⟨rfl,rfl,rfl,rfl,rfl,rfl,rfl,rfl,rfl,rfl,rfl,rfl,trivial⟩,⟨.inl rfl,rfl,trivial⟩,rfl,rfl⟩ ?_
 intro j hj
 refine rg ?_;conv=>whnf
 refine ⟨fun h=>?_,fun h=>?_⟩
 ·have hlt:j < n.ports.length:=by simpa using h
  have e1:n.ports[(j:Int).toNat]'(by omega) = n.ports[j]:=rfl
  have hfar:=farS n up ranks (.sl 1 Aa roots) (.sl 1 Aa costs) rfl j hr hu hlt
  have hfl:=Uq (up:=up) hr hlt
  have hsucc:=Acs n up ranks roots costs dev j
  have hbl:=Ow n up ranks roots costs dev j
  have hcand:U2 n up ranks roots costs dev j = if n.ports[j].dev == dev && decide (0 ≤ Ck n up j) then some ⟨nth roots (nth n.ports (Ck n up j)).dev,nth costs (nth n.ports (Ck n up j)).dev + n.ports[j].cost,nth ranks (nth n.ports (Ck n up j)).dev,Ck n up j,j⟩ else none:=by
   rw [U2,Az hlt]
  generalize Ck n up j = k at *
  have hpc:1 ≤ n.ports[j].cost ∧ n.ports[j].cost ≤ 65535:=by
   simp only [Cm,Bool.not_eq_true',List.any_eq_false] at hcost
   have:=hcost _ (List.getElem_mem hlt)
   simp only [If,Bool.or_eq_true,decide_eq_true_eq,not_or] at this
   omega
  obtain ⟨p,hp⟩:∃ p,n.ports[j] = p:=⟨_,rfl⟩
  rw [hp] at e1 hcand hpc
  refine rg ?_;conv=>whnf
  refine ⟨E,by omega,by omega,?_⟩
  rw [e1]
  conv=>whnf
  refine Ag hfar F158 E E E E E ?_
  refine rg ?_;conv=>whnf
  refine ⟨fun h=>?_,fun h=>?_⟩
  ·refine rg ?_;conv=>whnf
   refine ⟨fun h2=>?_,fun h2=>?_⟩
   ·have hk0:0 ≤ k:=of_decide_eq_true h2
    have hk1:=hfl hk0
    rw [if_pos (by simp only [Bool.and_eq_true,decide_eq_true_eq]; exact ⟨h,hk0⟩),An (l:=n.ports) (i:=k) (by omega)] at hcand
    have hpd:=Kb hr (i:=k.toNat) (by omega)
    obtain ⟨q,hq⟩:∃ q,n.ports[k.toNat]'(by omega) = q:=⟨_,rfl⟩
    rw [hq] at hcand hpd
    have hcb:=hb (costs[q.dev.toNat]'(by omega)) (List.getElem_mem _)
    rw [An (l:=roots) (i:=q.dev) (by omega),An (l:=costs) (i:=q.dev) (by omega),An (l:=ranks) (i:=q.dev) (by omega)] at hcand
    refine rg ?_;conv=>whnf
    refine ⟨E,hk0,by omega,?_⟩
    rw [hq]
    conv=>whnf
    refine ⟨(by kernel_rfl),?_⟩
    refine ⟨by omega,by omega,?_⟩
    conv=>whnf
    refine ⟨(by kernel_rfl),?_⟩
    refine ⟨by omega,by omega,?_⟩
    conv=>whnf
    refine ⟨by unfold I64; omega,?_⟩
    conv=>whnf
    refine ⟨(by kernel_rfl),?_⟩
    refine ⟨by omega,by omega,?_⟩
    conv=>whnf
    refine Bo (Al Γ.toTy 72 E E E E E (.row E) (.lit (l:=[(⟨roots[q.dev.toNat]'(by omega),costs[q.dev.toNat]'(by omega) + p.cost,ranks[q.dev.toNat]'(by omega),k,j⟩:Vec)]) E E) (by simp) (by simp; omega) (by simp; omega)) (by kernel_rfl) E ?_
    refine rd (by kernel_rfl) ?_;conv=>whnf
    refine ⟨(by kernel_rfl),?_⟩
    conv=>whnf
    refine ⟨by unfold I64; omega,?_⟩
    conv=>whnf
    refine Aq [(1000,72)] hlt ⟨⟨E,E,E,E,E,E,E,E,E,E,E,E,Y⟩,⟨.inl (congrArg (Ob.row 5 J2) ?_),E,Y⟩,E,E⟩
    rw [hsucc,hcand]
    rfl
   ·have hk0:¬ 0 ≤ k:=of_decide_eq_false h2
    rw [if_neg (by simp only [Bool.and_eq_true,decide_eq_true_eq]; exact fun hh=>hk0 hh.2)] at hcand
    refine rg ?_;conv=>whnf
    refine ⟨by unfold I64; omega,?_⟩
    conv=>whnf
    refine Aq [] hlt ⟨⟨E,E,E,E,E,E,E,E,E,E,E,E,Y⟩,⟨.inl (congrArg (Ob.row 5 J2) ?_),E,Y⟩,E,E⟩
    rw [hsucc,hcand]
    simp
  ·rw [if_neg (by rw [h]; simp)] at hcand
   (refine rg ?_;(conv=>whnf);refine aF ?_;refine rg ?_;conv=>whnf)
   refine ⟨by unfold I64; omega,?_⟩
   conv=>whnf
   refine Aq [] hlt ⟨⟨E,E,E,E,E,E,E,E,E,E,E,E,Y⟩,⟨.inl (congrArg (Ob.row 5 J2) ?_),E,Y⟩,E,E⟩
   rw [hsucc,hcand]
   simp
 ·have hjl:j = n.ports.length:=by
   have:¬ j < n.ports.length:=by simpa using h
   omega
  subst hjl
  have hbl:=Ow n up ranks roots costs dev n.ports.length
  have hbi:L1 n up ranks roots costs dev = if !(Jn (Ja n up ranks roots costs dev n.ports.length)).2 || nth roots dev == nth ranks dev then -1 else (Jn (Ja n up ranks roots costs dev n.ports.length)).1.own:=rfl
  rw [An (by omega),An (by omega)] at hbi
  have hls:=leastS (Ja n up ranks roots costs dev n.ports.length) (by unfold Am; omega)
  generalize Jn (Ja n up ranks roots costs dev n.ports.length) = r at hls hbi
  obtain ⟨v,ok⟩:=r
  simp only at hls hbi
  rw [hbi]
  refine rg ?_;conv=>whnf
  refine Ar 1000 E ?_
  refine Ag hls F236 E E E E E ?_
  refine rg ?_;conv=>whnf
  (repeat' (first | (refine ⟨fun h=>?_,fun h=>?_⟩ <;> (repeat (first | simp only [beq_iff_eq] at h | simp only [beq_eq_false_iff_ne] at h | simp only [Bool.not_eq_true'] at h | simp only [Bool.not_eq_false'] at h)) <;> ((first|refine rg ?_|refine rd (by kernel_rfl) ?_);(conv=>whnf))) | (refine Ac rfl (.cons .tmp .nil) ?_ rfl) | (refine ⟨(by kernel_rfl),?_⟩; ((conv=>whnf);repeat((refine aT ?_);(refine rg ?_);(conv=>whnf)))) | (refine ⟨by (omega),by (omega),?_⟩; ((conv=>whnf)))))
  all_goals (refine congrArg Aa ?_; clear hF hls hbi; grind)
theorem best_lt {n:Net} {up:List Bool} {ranks roots costs:List Int} {dev:Int} (h:0 ≤ L1 n up ranks roots costs dev):L1 n up ranks roots costs dev < n.ports.length:=by
 have hmem:=@leastR_mem (Ja n up ranks roots costs dev n.ports.length)
 unfold L1 at *
 simp only at *
 split at h
 ·omega
 ·rename_i hc
  rw [if_neg hc]
  simp only [Bool.or_eq_true,Bool.not_eq_true',not_or] at hc
  have h2:=hmem (by simpa using hc.1)
  obtain ⟨i,hi,he⟩:=List.mem_filterMap.1 h2
  have hi:=List.mem_range.1 hi
  unfold U2 at he
  simp only at he
  split at he
  ·have e:=congrArg Vec.own (Option.some.inj he)
   simp only at e
   omega
  ·cases he
def Ada (n:Net) (up:List Bool) (ranks costs:List Int) (i:Nat):Int :=
 if Ck n up i < 0 then 0 else if It n ranks costs i (Ck n up i).toNat then 2 else 3
def Ep (n:Net) (up:List Bool) (ranks costs:List Int) (j:Nat):List Int:=(List.range n.ports.length).map fun i=>if i < j then Ada n up ranks costs i else 0
theorem Lo (n:Net) (up:List Bool) (ranks costs:List Int) (j:Nat):(Ep n up ranks costs j).length = n.ports.length:=by simp [Ep]
theorem Yz (n:Net) (up:List Bool) (ranks costs:List Int):Ep n up ranks costs 0 = List.replicate n.ports.length 0:=by
 rw [Ep]
 exact List.ext_getElem (by simp) (by simp)
theorem Y0 (n:Net) (up:List Bool) (ranks costs:List Int) (j:Nat) (hj:j < n.ports.length):Ep n up ranks costs (j + 1) = (Ep n up ranks costs j).set j (Ada n up ranks costs j):=by
 refine List.ext_getElem (by simp [Ep]) (fun i h1 h2=>?_)
 rw [List.getElem_set]
 simp only [Ep,List.getElem_map,List.getElem_range]
 rcases Nat.lt_trichotomy i j with h | h | h
 ·rw [if_pos (by omega),if_neg (by omega),if_pos h]
 ·subst h; rw [if_pos (by omega),if_pos rfl]
 ·rw [if_neg (by omega),if_neg (by omega),if_neg (by omega)]
theorem Y1 (n:Net) (up:List Bool) (ranks costs:List Int) (j:Nat) (h:Ada n up ranks costs j = 0):Ep n up ranks costs (j + 1) = Ep n up ranks costs j:=by
 simp only [Ep]
 refine List.map_congr_left (fun i _=>?_)
 by_cases hij:i < j
 ·rw [if_pos (by omega),if_pos hij]
 ·by_cases he:i = j
  ·subst he; rw [if_pos (by omega),if_neg hij,h]
  ·rw [if_neg (by omega),if_neg hij]
def Ij (n:Net) (up:List Bool) (ranks roots costs:List Int):Nat → List Int
 | 0=>Ep n up ranks costs n.ports.length
 | d + 1=>if 0 ≤ L1 n up ranks roots costs d then (Ij n up ranks roots costs d).set (L1 n up ranks roots costs d).toNat 1 else Ij n up ranks roots costs d
theorem Ex (n:Net) (up:List Bool) (ranks roots costs:List Int):∀ d,(Ij n up ranks roots costs d).length = n.ports.length
 | 0=>Lo n up ranks costs _
 | d + 1=>by
  rw [Ij]
  split
  ·rw [List.length_set,Ex]
  ·rw [Ex]
theorem rolesS (n:Net) (up:List Bool) (ranks roots costs:List Int) (hr:Af n = true) (hu:up.length = n.links.length) (hcost:Cm n = true) (hrk:ranks.length = n.devices.length) (hro:roots.length = n.devices.length) (hc:costs.length = n.devices.length)
  (hb:∀ c ∈ costs,0 ≤ c ∧ c < 1000000000) :
  Sy.Spec Tryz.prog 85 [J5 n up ranks roots costs] [] (.sl 1 Aa (Ij n up ranks roots costs n.devices.length)) []:=Ab Γ hm 100 F85 Tryz.ntmps85 rfl fun F hF=>by
 have hf:=Dc hr
 conv=>whnf
 refine Ah (Bt Γ.toTy (d:=14) (n:=n.ports.length) Aa 0 E E E E E E E E (by omega) (by omega) E E E) E E ?_
 rw [← Yz n up ranks costs]
 refine rg ?_;conv=>whnf
 refine A0 n.ports.length (fun j=>[(0,J5 n up ranks roots costs),(3,.osl 14),(20,Aa n.ports.length),(21,Aa j)]) (fun j=>[(14,.row 1 Aa (Ep n up ranks costs j))]) []
  ⟨⟨rfl,rfl,rfl,rfl,rfl,rfl,rfl,rfl,trivial⟩,⟨.inl rfl,rfl,trivial⟩,rfl,rfl⟩ ?_
 intro j hj
 refine rg ?_;conv=>whnf
 refine ⟨fun h=>?_,fun h=>?_⟩
 ·have hlt:j < n.ports.length:=by simpa using h
  have hfar:=farS n up ranks (.sl 1 Aa roots) (.sl 1 Aa costs) rfl j hr hu hlt
  have hfl:=Uq (up:=up) hr hlt
  have hlen:=Lo n up ranks costs j
  have hrole:Ada n up ranks costs j = if Ck n up j < 0 then 0 else if It n ranks costs j (Ck n up j).toNat then 2 else 3:=rfl
  have hsucc:=Y0 n up ranks costs j hlt
  have hsame:=Y1 n up ranks costs j
  generalize Ck n up j = k at *
  refine rg ?_;conv=>whnf
  refine Ag hfar F158 E E E E E ?_
  refine rg ?_;conv=>whnf
  refine ⟨fun h=>?_,fun h=>?_⟩
  ·have hk:k < 0:=of_decide_eq_true h
   rw [if_pos hk] at hrole
   refine rg ?_;conv=>whnf
   refine ⟨by unfold I64; omega,?_⟩
   conv=>whnf
   exact Aq [] hlt ⟨⟨E,E,E,E,E,E,E,E,Y⟩,⟨.inl (congrArg (Ob.row 1 Aa) (hsame hrole)),E,Y⟩,E,E⟩
  have hk:¬ k < 0:=of_decide_eq_false h
  rw [if_neg hk] at hrole
  obtain ⟨m,rfl⟩:∃ m:Nat,k = m:=⟨k.toNat,by omega⟩
  have hah:=Aa7 n up ranks roots costs j m hr hrk hc hlt (by omega)
  rw [Int.toNat_natCast] at hrole
  refine rg ?_;conv=>whnf
  refine Ag hah F159 E E E E E ?_
  refine rg ?_;conv=>whnf
  refine ⟨fun h=>?_,fun h=>?_⟩
  ·rw [h,if_pos rfl] at hrole
   rw [hrole] at hsucc
   refine rg ?_;conv=>whnf
   refine ⟨by omega,by omega,?_⟩
   conv=>whnf
   refine ⟨E,by omega,2,E,E,?_⟩
   conv=>whnf
   refine ⟨by unfold I64; omega,?_⟩
   conv=>whnf
   exact Aq [] hlt ⟨⟨E,E,E,E,E,E,E,E,Y⟩,⟨.inl (congrArg (Ob.row 1 Aa) hsucc),E,Y⟩,E,E⟩
  ·rw [h] at hrole
   simp only [Bool.false_eq_true,if_false] at hrole
   rw [hrole] at hsucc
   refine rg ?_;conv=>whnf
   refine ⟨by omega,by omega,?_⟩
   conv=>whnf
   refine ⟨E,by omega,3,E,E,?_⟩
   conv=>whnf
   refine ⟨by unfold I64; omega,?_⟩
   conv=>whnf
   exact Aq [] hlt ⟨⟨E,E,E,E,E,E,E,E,Y⟩,⟨.inl (congrArg (Ob.row 1 Aa) hsucc),E,Y⟩,E,E⟩
 have hjl:j = n.ports.length:=by
  have:¬ j < n.ports.length:=by simpa using h
  omega
 subst hjl
 refine rg ?_;conv=>whnf
 refine A0 n.devices.length (fun d=>[(0,J5 n up ranks roots costs),(3,.osl 14),(47,Aa n.devices.length),(48,Aa d)]) (fun d=>[(14,.row 1 Aa (Ij n up ranks roots costs d))]) []
  ⟨⟨rfl,rfl,rfl,rfl,rfl,rfl,rfl,rfl,trivial⟩,⟨.inl rfl,rfl,trivial⟩,rfl,rfl⟩ ?_
 clear hj h
 intro d hdle
 refine rg ?_;conv=>whnf
 refine ⟨fun h=>?_,fun h=>?_⟩
 ·have hlt:d < n.devices.length:=by simpa using h
  have hbs:=bestS n up ranks roots costs d hr hu hcost hrk hro hc hb (by omega)
  have hbl:=@best_lt n up ranks roots costs d
  have hlen:=Ex n up ranks roots costs d
  have hsucc:Ij n up ranks roots costs (d + 1) = if 0 ≤ L1 n up ranks roots costs d then (Ij n up ranks roots costs d).set (L1 n up ranks roots costs d).toNat 1 else Ij n up ranks roots costs d:=rfl
  generalize L1 n up ranks roots costs d = k at *
  refine rg ?_;conv=>whnf
  refine Ag hbs F160 E E E E E ?_
  refine rg ?_;conv=>whnf
  refine ⟨fun h=>?_,fun h=>?_⟩
  ·have hk:0 ≤ k:=of_decide_eq_true h
   rw [if_pos hk] at hsucc
   refine rg ?_;conv=>whnf
   refine ⟨hk,by omega,?_⟩
   conv=>whnf
   refine ⟨E,by omega,1,E,E,?_⟩
   conv=>whnf
   refine ⟨by unfold I64; omega,?_⟩
   conv=>whnf
   exact Aq [] hlt ⟨⟨E,E,E,E,E,E,E,E,Y⟩,⟨.inl (congrArg (Ob.row 1 Aa) hsucc),E,Y⟩,E,E⟩
  ·have hk:¬ 0 ≤ k:=of_decide_eq_false h
   rw [if_neg hk] at hsucc
   refine rg ?_;conv=>whnf
   refine ⟨by unfold I64; omega,?_⟩
   conv=>whnf
   exact Aq [] hlt ⟨⟨E,E,E,E,E,E,E,E,Y⟩,⟨.inl (congrArg (Ob.row 1 Aa) hsucc),E,Y⟩,E,E⟩
 have hdl:d = n.devices.length:=by
  have:¬ d < n.devices.length:=by simpa using h
  omega
 subst hdl
 refine rg ?_;conv=>whnf
 refine Ar 14 E ?_
 exact Ac E (.cons .tmp .nil) E E
def Vx (n:Net) (up:List Bool) (ranks:List Int) (roots costs:List Int):Obs:=[(0,.box (Ln n up ranks (.osl 1) (.osl 2))),(1,.row 1 Aa roots),(2,.row 1 Aa costs)]
theorem farR (n:Net) (up:List Bool) (ranks roots costs:List Int) (i:Nat) (hr:Af n = true) (hu:up.length = n.links.length) (hi:i < n.ports.length) :
  Sy.Spec Tryz.prog 158 [.ptr 0 0,Aa i] (Vx n up ranks roots costs) (Aa (Ck n up i)) (Vx n up ranks roots costs):=Ab Γ hm 100 F158 Tryz.ntmps158 rfl fun F hF=>by
 have hpl:=K2 hr hi
 have hf:=Dc hr
 have e1:n.ports[(i:Int).toNat]'(by omega) = n.ports[i]:=rfl
 have hfar:Ck n up i = if n.ports[i].link < 0 || !(up.getD n.ports[i].link.toNat false) then -1 else (nth n.links n.ports[i].link).a + (nth n.links n.ports[i].link).b - i:=by
  rw [Ck,Az hi]
 generalize hp:n.ports[i] = p at *
 have hle:=fun h=>I1 hr (i:=p.link.toNat) h
 conv=>whnf
 refine ⟨E,by omega,by omega,?_⟩
 rw [e1]
 conv=>whnf
 (repeat' (first | (refine ⟨fun h=>?_,fun h=>?_⟩ <;> (repeat (first | simp only [decide_eq_true_eq] at h | simp only [decide_eq_false_iff_not] at h | simp only [Bool.not_eq_true'] at h | simp only [Bool.not_eq_false'] at h)) <;> ((first|refine rg ?_|refine rd (by kernel_rfl) ?_);(conv=>whnf))) | (refine ⟨(by kernel_rfl),?_⟩; ((conv=>whnf);repeat((refine aT ?_);(refine rg ?_);(conv=>whnf)))) | (refine ⟨by (first | omega | ((have hq:=hle (by omega); unfold I64; omega))),by (first | omega | ((have hq:=hle (by omega); unfold I64; omega))),?_⟩; ((conv=>whnf))) | refine done rfl (.cons .tmp .nil) [] (Vx n up ranks roots costs) (fun _ h=>h) ?_ rfl ⟨trivial,⟨.inl rfl,rfl,.inl rfl,rfl,.inl rfl,rfl,trivial⟩,rfl,rfl⟩))
 all_goals (refine congrArg Aa ?_; rw [hfar])
 ·simp_all
 ·have h1:up.getD p.link.toNat false = false:=by rw [Az (by omega)]; assumption
  rw [h1]; simp
 ·have h1:up.getD p.link.toNat false = true:=by rw [Az (by omega)]; assumption
  rw [h1,An (by omega)]
  simp_all
def Cf (n:Net) (up:List Bool) (x:Item) (q:List Item) (i:Nat):List Item :=
 if (n.ports.getD i default).dev = x.dev ∧ 0 ≤ Ck n up i then Lq q ⟨x.root,x.cost + (nth n.ports (Ck n up i)).cost,(nth n.ports (Ck n up i)).dev⟩ else q
def Ji (n:Net) (up:List Bool) (s:List Item × List Int × List Int):List Item × List Int × List Int :=
 let x:=(B9 s.1).getLast?.getD default
 let q:=(B9 s.1).dropLast
 if 0 ≤ nth s.2.1 x.dev then (q,s.2) else ((List.range n.ports.length).foldl (Cf n up x) q,s.2.1.set x.dev.toNat x.root,s.2.2.set x.dev.toNat x.cost)
def Dx (n:Net) (up:List Bool):Nat → List Item × List Int × List Int → List Item × List Int × List Int
 | 0,s=>s
 | f + 1,s=>if s.1 = [] then s else Dx n up f (Ji n up s)
end Go.Sy.YtmelpejjondedaaGreat
namespace Go.Sy.YtmelpejjondedaaGreat
theorem L4 (q:List Item) (i j:Nat) (hi:i < q.length) (hj:j < q.length):(Cw q i j).Perm q:=by
 rw [Cw,Az hi,Az hj]
 exact List.set_set_perm hi hj
theorem Yi:∀ (f:Nat) (q:List Item) (j:Nat),j < q.length → (upF f q j).Perm q
 | 0,_,_,_=>.refl _
 | f + 1,q,j,hj=>by
  rw [upF]
  split
  ·exact .refl _
  ·split
   ·exact (Yi f _ _ (by rw [Au]; omega)).trans (L4 q _ _ (by omega) hj)
   ·exact .refl _
theorem Uv:∀ (f:Nat) (q:List Item) (i n:Nat),i < q.length → n ≤ q.length → (Cs f q i n).1.Perm q
 | 0,_,_,_,_,_=>.refl _
 | f + 1,q,i,n,hi,hn=>by
  rw [Cs]
  split
  ·rename_i h
   have hc:=I9 q i n h
   split
   ·exact (Uv f _ _ n (by rw [Au]; omega) (by rw [Au]; exact hn)).trans (L4 q _ _ hi (by omega))
   ·exact .refl _
  ·exact .refl _
theorem Jk (q:List Item) (x:Item):(Lq q x).Perm (x :: q) :=
 (Yi _ _ _ (by simp)).trans (List.perm_append_comm (l₁:=q) (l₂:=[x]))
theorem Hj (q:List Item) (x:Item):(Lq q x).length = q.length + 1:=by rw [Lq,S9]; simp
theorem K3 (q:List Item) (hq:q ≠ []):(B9 q).Perm q:=by
 have h0:0 < q.length:=List.length_pos_iff.2 hq
 exact (Uv _ _ _ _ (by rw [Au]; exact h0) (by rw [Au]; omega)).trans (L4 q _ _ h0 (by omega))
def H8 (q:List Item) (n:Nat):Prop:=∀ c,0 < c → c < n → c < q.length → Bi (q.getD c default) (q.getD ((c - 1) / 2) default) = false
theorem Jp {x y z:Item} (h1:Bi y x = false) (h2:Bi z y = false):Bi z x = false:=by
 unfold Bi at *
 grind
theorem Ab8 {q:List Item} {n:Nat} (h:H8 q n) (hn:n ≤ q.length):∀ c,c < n → Bi (q.getD c default) (q.getD 0 default) = false:=by
 intro c
 induction c using Nat.strongRecOn with
 | ind c ih =>
  intro hc
  rcases Nat.eq_zero_or_pos c with h0 | h0
  ·subst h0; unfold Bi; grind
  ·have h1:=h c h0 hc (by omega)
   have h2:=ih ((c - 1) / 2) (by omega) (by omega)
   exact Jp h2 h1
theorem C8 (q:List Item) (i j c:Nat) (hi:i < q.length) (hj:j < q.length):(Cw q i j).getD c default = if c = j then q.getD i default else if c = i then q.getD j default else q.getD c default:=by
 rw [Cw]
 simp only [List.getD_eq_getElem?_getD,List.getElem?_set,List.length_set]
 by_cases h1:c = j
 ·subst h1; simp [hj]
 ·rw [if_neg (Ne.symm h1),if_neg h1]
  by_cases h2:c = i
  ·subst h2; simp [hi]
  ·rw [if_neg (Ne.symm h2),if_neg h2]
theorem Jq {x y:Item} (h:Bi x y = true):Bi y x = false:=by
 unfold Bi at *
 grind
structure UpInv (q:List Item) (j n:Nat):Prop where
 heap:∀ c,0 < c → c < n → c ≠ j → Bi (q.getD c default) (q.getD ((c - 1) / 2) default) = false
 over:∀ c,0 < c → c < n → (c - 1) / 2 = j → 0 < j → Bi (q.getD c default) (q.getD ((j - 1) / 2) default) = false
theorem Yj (n:Nat):∀ (f:Nat) (q:List Item) (j:Nat),j ≤ f → j < n → n ≤ q.length → UpInv q j n → H8 (upF f q j) n
 | 0,q,j,hf,hj,hn,hI=>by
  have:j = 0:=by omega
  subst this
  exact fun c h0 hc _=>hI.heap c h0 hc (by omega)
 | f + 1,q,j,hf,hj,hn,hI=>by
  rw [upF]
  split
  ·rename_i h0
   subst h0
   exact fun c h0 hc _=>hI.heap c h0 hc (by omega)
  ·rename_i h0
   split
   ·rename_i hlt
    have hp:(j - 1) / 2 < j:=by omega
    refine Yj n f _ _ (by omega) (by omega) (by rw [Au]; exact hn) ⟨fun c hc0 hcn hcp=>?_,fun c hc0 hcn hpar hp0=>?_⟩
    ·rw [C8 _ _ _ _ (by omega) (by omega),C8 _ _ _ _ (by omega) (by omega)]
     by_cases hcj:c = j
     ·subst hcj
      rw [if_pos rfl,if_neg (by omega),if_pos rfl]
      exact Jq hlt
     ·rw [if_neg hcj,if_neg hcp]
      by_cases hpj:(c - 1) / 2 = j
      ·rw [if_pos hpj]
       exact hI.over c hc0 hcn hpj (by omega)
      ·rw [if_neg hpj]
       by_cases hpp:(c - 1) / 2 = (j - 1) / 2
       ·rw [if_pos hpp]
        have:=hI.heap c hc0 hcn hcj
        rw [hpp] at this
        exact Jp (Jq hlt) this
       ·rw [if_neg hpp]
        exact hI.heap c hc0 hcn hcj
    ·rw [C8 _ _ _ _ (by omega) (by omega),C8 _ _ _ _ (by omega) (by omega)]
     have hpI:=hI.heap ((j - 1) / 2) hp0 (by omega) (by omega)
     rw [if_neg (show ((j - 1) / 2 - 1) / 2 ≠ j by omega),if_neg (show ((j - 1) / 2 - 1) / 2 ≠ (j - 1) / 2 by omega)]
     by_cases hcj:c = j
     ·rw [if_pos hcj]; exact hpI
     ·rw [if_neg hcj,if_neg (by omega)]
      have:=hI.heap c hc0 hcn hcj
      rw [hpar] at this
      exact Jp hpI this
   ·rename_i hlt
    intro c hc0 hcn _
    by_cases hcj:c = j
    ·subst hcj; simpa using hlt
    ·exact hI.heap c hc0 hcn hcj
theorem I3 {q r:List Item} {c:Nat} (h:c < q.length):(q ++ r).getD c default = q.getD c default:=by
 simp [List.getD_eq_getElem?_getD,List.getElem?_append_left h]
theorem Tv (q:List Item) (x:Item) (h:H8 q q.length):H8 (Lq q x) (Lq q x).length:=by
 rw [Hj]
 refine Yj (q.length + 1) _ _ _ (Nat.le_refl _) (by omega) (by simp) ⟨fun c hc0 hcn hcj=>?_,fun c hc0 hcn hpar hp0=>by omega⟩
 rw [I3 (by omega),I3 (by omega)]
 exact h c hc0 (by omega) (by omega)
structure DownInv (q:List Item) (i n:Nat):Prop where
 heap:∀ c,0 < c → c < n → (c - 1) / 2 ≠ i → Bi (q.getD c default) (q.getD ((c - 1) / 2) default) = false
 over:∀ c,0 < c → c < n → (c - 1) / 2 = i → 0 < i → Bi (q.getD c default) (q.getD ((i - 1) / 2) default) = false
theorem Afp (q:List Item) (i n c:Nat) (_h:2 * i + 1 < n) (hc0:0 < c) (hc:c < n) (hp:(c - 1) / 2 = i):Bi (q.getD c default) (q.getD (Cr q i n) default) = false:=by
 have hcc:c = 2 * i + 1 ∨ c = 2 * i + 2:=by omega
 unfold Cr
 split
 ·rename_i hh
  rcases hcc with rfl | rfl
  ·exact Jq hh.2
  ·unfold Bi; grind
 ·rename_i hh
  rcases hcc with rfl | rfl
  ·unfold Bi; grind
  ·cases hlt:Bi (q.getD (2 * i + 2) default) (q.getD (2 * i + 1) default) with
   | false=>rfl
   | true=>exact absurd ⟨hc,hlt⟩ hh
theorem Uw (n:Nat):∀ (f:Nat) (q:List Item) (i:Nat),n ≤ f + i → i < q.length → n ≤ q.length → DownInv q i n → H8 (Cs f q i n).1 n
 | 0,q,i,hf,hi,hn,hI=>fun c hc0 hc _=>hI.heap c hc0 hc (by omega)
 | f + 1,q,i,hf,hi,hn,hI=>by
  rw [Cs]
  split
  ·rename_i h
   have hcl:=I9 q i n h
   have hpar:(Cr q i n - 1) / 2 = i:=by unfold Cr; split <;> omega
   have hle:=fun c=>Afp q i n c h
   generalize Cr q i n = k at *
   split
   ·rename_i hlt
    refine Uw n f _ _ (by omega) (by rw [Au]; omega) (by rw [Au]; exact hn) ⟨fun c hc0 hcn hck=>?_,fun c hc0 hcn hcp hk0=>?_⟩
    ·rw [C8 _ _ _ _ hi (by omega),C8 _ _ _ _ hi (by omega),if_neg hck]
     by_cases hc1:c = k
     ·subst hc1
      rw [if_pos rfl,if_pos hpar]
      exact Jq hlt
     ·rw [if_neg hc1]
      by_cases hc2:c = i
      ·subst hc2
       rw [if_pos rfl,if_neg (by omega)]
       exact hI.over k (by omega) hcl.1 hpar hc0
      ·rw [if_neg hc2]
       by_cases hc3:(c - 1) / 2 = i
       ·rw [if_pos hc3]; exact hle c hc0 hcn hc3
       ·rw [if_neg hc3]; exact hI.heap c hc0 hcn hc3
    ·rw [C8 _ _ _ _ hi (by omega),C8 _ _ _ _ hi (by omega)]
     rw [if_neg (by omega),if_neg (by omega),hpar,if_neg (by omega),if_pos rfl]
     have:=hI.heap c hc0 hcn (by omega)
     rwa [hcp] at this
   ·rename_i hlt
    intro c hc0 hcn _
    by_cases hc3:(c - 1) / 2 = i
    ·rw [hc3]
     exact Jp (by simpa using hlt) (hle c hc0 hcn hc3)
    ·exact hI.heap c hc0 hcn hc3
  ·exact fun c hc0 hc _=>hI.heap c hc0 hc (by omega)
theorem Uu (n:Nat):∀ (f:Nat) (q:List Item) (i c:Nat),i < n → n ≤ q.length → n ≤ c → (Cs f q i n).1.getD c default = q.getD c default
 | 0,_,_,_,_,_,_=>rfl
 | f + 1,q,i,c,hi,hn,hc=>by
  rw [Cs]
  split
  ·rename_i h
   have hcl:=I9 q i n h
   split
   ·rw [Uu n f _ _ c (by omega) (by rw [Au]; exact hn) hc,C8 _ _ _ _ (by omega) (by omega),if_neg (by omega),if_neg (by omega)]
   ·rfl
  ·rfl
theorem Zb (q:List Item) (hq:q ≠ []):(B9 q).getLast (Cu hq) = q.getD 0 default:=by
 have h0:0 < q.length:=List.length_pos_iff.2 hq
 rw [List.getLast_eq_getElem,← Az (show (B9 q).length - 1 < (B9 q).length by rw [C1]; omega),C1]
 by_cases h1:q.length = 1
 ·have:B9 q = q:=by
   obtain ⟨x,rfl⟩:=List.length_eq_one_iff.1 h1
   rfl
  rw [this,h1]
 ·rw [B9,Uu _ _ _ _ _ (by omega) (by rw [Au]; omega) (Nat.le_refl _),C8 _ _ _ _ h0 (by omega),if_pos rfl]
theorem Aeq (q:List Item) (hq:q ≠ []):(B9 q).dropLast ++ [q.getD 0 default] = B9 q:=by
 rw [← Zb q hq]; exact List.dropLast_concat_getLast (Cu hq)
theorem Ag2 (q:List Item) (hq:q ≠ []):(q.getD 0 default :: (B9 q).dropLast).Perm q :=
 ((List.perm_append_comm (l₁:=[q.getD 0 default]) (l₂:=(B9 q).dropLast)).trans (by rw [Aeq q hq])).trans (K3 q hq)
theorem Ag3 (q:List Item) (hq:q ≠ []) (h:H8 q q.length):H8 (B9 q).dropLast (B9 q).dropLast.length:=by
 have h0:0 < q.length:=List.length_pos_iff.2 hq
 have hd:(B9 q).dropLast.length = q.length - 1:=by rw [List.length_dropLast,C1]
 have hh:H8 (B9 q) (q.length - 1):=by
  rw [B9]
  refine Uw (q.length - 1) _ _ _ (by omega) (by rw [Au]; exact h0) (by rw [Au]; omega) ⟨fun c hc0 hcn hp=>?_,fun c hc0 hcn hp h=>by omega⟩
  rw [C8 _ _ _ _ h0 (by omega),C8 _ _ _ _ h0 (by omega),if_neg (by omega),if_neg (by omega),if_neg (by omega),if_neg hp]
  exact h c hc0 (by omega) (by omega)
 intro c hc0 hcn _
 rw [hd] at hcn
 have hl:=C1 q
 have e:∀ k,k < q.length - 1 → (B9 q).dropLast.getD k default = (B9 q).getD k default:=fun k hk=>by
  rw [Az (show k < (B9 q).dropLast.length by omega),Az (show k < (B9 q).length by omega),List.getElem_dropLast]
 rw [e c hcn,e _ (by omega)]
 exact hh c hc0 hcn (by omega)
theorem Aer (q:List Item) (h:H8 q q.length):∀ x ∈ q,Bi x (q.getD 0 default) = false:=fun x hx=>by
 obtain ⟨c,hc,rfl⟩:=List.getElem_of_mem hx
 have:=Ab8 h (Nat.le_refl _) c hc
 rwa [Az hc] at this
def C5 (ranks:List Int) (j:Nat):List Item:=(List.range j).foldl (fun q (i:Nat)=>Lq q ⟨ranks.getD i 0,0,i⟩) []
theorem E3 (ranks:List Int) (j:Nat):C5 ranks (j + 1) = Lq (C5 ranks j) ⟨ranks.getD j 0,0,j⟩:=by
 rw [C5,List.range_succ,List.foldl_append]; rfl
theorem Ii (ranks:List Int):∀ j,(C5 ranks j).length = j
 | 0=>rfl
 | j + 1=>by rw [E3,Hj,Ii ranks j]
def M6 (roots:List Int):Nat:=roots.countP (fun r=>decide (r < 0))
def reachM (s:List Item × List Int × List Int):Nat:=41 * M6 s.2.1 + s.1.length
structure ReachInv (n:Net) (s:List Item × List Int × List Int):Prop where
 rootsL:s.2.1.length = n.devices.length
 costsL:s.2.2.length = n.devices.length
 items:∀ x ∈ s.1,0 ≤ x.dev ∧ x.dev < n.devices.length ∧ 0 ≤ x.root ∧ 0 ≤ x.cost ∧ x.cost + 65535 * M6 s.2.1 ≤ 65535 * n.devices.length
 few:s.1.length + 40 * M6 s.2.1 ≤ 1000
theorem Ahh (roots:List Int):M6 roots ≤ roots.length:=List.countP_le_length
theorem Aey {roots:List Int} {i:Nat} {v:Int} (h:i < roots.length) (h0:roots[i] < 0) (hv:0 ≤ v):M6 (roots.set i v) + 1 = M6 roots:=by
 have h1:0 < roots.countP (fun r=>decide (r < 0)):=List.countP_pos_iff.2 ⟨roots[i],List.getElem_mem h,by simpa using h0⟩
 have hv':¬ v < 0:=by omega
 rw [M6,M6,List.countP_set h]
 simp only [h0,hv',decide_true,decide_false,if_true,Bool.false_eq_true,if_false]
 omega
theorem W4 (n:Net) (up:List Bool) (x:Item) (hr:Af n = true) (hcost:Cm n = true) {m:Nat} (hx:0 ≤ x.root ∧ 0 ≤ x.cost ∧ x.cost + 65535 * (m + 1) ≤ 65535 * n.devices.length) (q:List Item)
  (hq:∀ y ∈ q,0 ≤ y.dev ∧ y.dev < n.devices.length ∧ 0 ≤ y.root ∧ 0 ≤ y.cost ∧ y.cost + 65535 * m ≤ 65535 * n.devices.length) (i:Nat) (hi:i < n.ports.length) :
  (∀ y ∈ Cf n up x q i,0 ≤ y.dev ∧ y.dev < n.devices.length ∧ 0 ≤ y.root ∧ 0 ≤ y.cost ∧ y.cost + 65535 * m ≤ 65535 * n.devices.length) ∧ (Cf n up x q i).length ≤ q.length + 1:=by
 rw [Cf]
 split
 ·rename_i h
  have hlt:=Uq hr hi h.2
  have hk:(Ck n up i).toNat < n.ports.length:=by omega
  have hd:=Kb hr hk
  have hpc:1 ≤ n.ports[(Ck n up i).toNat].cost ∧ n.ports[(Ck n up i).toNat].cost ≤ 65535:=by
   simp only [Cm,Bool.not_eq_true',List.any_eq_false] at hcost
   have:=hcost _ (List.getElem_mem hk)
   simp only [If,Bool.or_eq_true,decide_eq_true_eq,not_or] at this
   omega
  have e:nth n.ports (Ck n up i) = n.ports[(Ck n up i).toNat]:=An (l:=n.ports) (i:=Ck n up i) (by omega)
  rw [e]
  refine ⟨fun y hy=>?_,by rw [Hj]; omega⟩
  rcases List.mem_cons.1 ((Jk q _).mem_iff.1 hy) with rfl | hy
  ·simp only
   omega
  ·exact hq y hy
 ·exact ⟨hq,by omega⟩
theorem Ts (n:Net) (up:List Bool) (x:Item) (hr:Af n = true) (hcost:Cm n = true) {m:Nat} (hx:0 ≤ x.root ∧ 0 ≤ x.cost ∧ x.cost + 65535 * (m + 1) ≤ 65535 * n.devices.length) (q:List Item)
  (hq:∀ y ∈ q,0 ≤ y.dev ∧ y.dev < n.devices.length ∧ 0 ≤ y.root ∧ 0 ≤ y.cost ∧ y.cost + 65535 * m ≤ 65535 * n.devices.length):∀ i,i ≤ n.ports.length →
  (∀ y ∈ (List.range i).foldl (Cf n up x) q,0 ≤ y.dev ∧ y.dev < n.devices.length ∧ 0 ≤ y.root ∧ 0 ≤ y.cost ∧ y.cost + 65535 * m ≤ 65535 * n.devices.length) ∧ ((List.range i).foldl (Cf n up x) q).length ≤ q.length + i
 | 0,_=>⟨hq,by simp⟩
 | i + 1,hi=>by
  obtain ⟨h1,h2⟩:=Ts n up x hr hcost hx q hq i (by omega)
  rw [List.range_succ,List.foldl_append]
  obtain ⟨h3,h4⟩:=W4 n up x hr hcost hx _ h1 i (by omega)
  exact ⟨h3,by simp only [List.foldl_cons,List.foldl_nil]; omega⟩
theorem T8 {q:List Item} (hq:q ≠ []):(B9 q).getLast?.getD default = (B9 q).getLast (Cu hq):=by
 rw [List.getLast?_eq_some_getLast (Cu hq)]; rfl
theorem Hs (n:Net) (up:List Bool) (hr:Af n = true) (hcost:Cm n = true) (s:List Item × List Int × List Int) (hI:ReachInv n s) (hne:s.1 ≠ []):ReachInv n (Ji n up s) ∧ reachM (Ji n up s) < reachM s:=by
 have hf:=Dc hr
 have hx:=hI.items _ ((K3 s.1 hne).mem_iff.1 (List.getLast_mem (Cu hne)))
 have hd:∀ y ∈ (B9 s.1).dropLast,y ∈ s.1:=fun y hy=>(K3 s.1 hne).mem_iff.1 ((List.dropLast_sublist _).subset hy)
 have h0:0 < s.1.length:=List.length_pos_iff.2 hne
 have hdl:(B9 s.1).dropLast.length + 1 = s.1.length:=by rw [List.length_dropLast,C1]; omega
 have hfew:=hI.few
 rw [Ji,T8 hne]
 generalize (B9 s.1).getLast (Cu hne) = x at *
 split
 ·exact ⟨⟨hI.rootsL,hI.costsL,fun y hy=>hI.items y (hd y hy),by simp only; omega⟩,by unfold reachM; simp only; omega⟩
 ·rename_i hneg
  have hk:x.dev.toNat < s.2.1.length:=by rw [hI.rootsL]; omega
  rw [An (l:=s.2.1) (i:=x.dev) (by rw [hI.rootsL]; omega)] at hneg
  have hm:=Aey hk (by omega) hx.2.2.1
  obtain ⟨h1,h2⟩:=Ts n up x hr hcost (m:=M6 (s.2.1.set x.dev.toNat x.root)) ⟨hx.2.2.1,hx.2.2.2.1,by have:=hx.2.2.2.2; omega⟩ (B9 s.1).dropLast (fun y hy=>by have:=hI.items y (hd y hy); omega) n.ports.length (Nat.le_refl _)
  exact ⟨⟨by simp only [List.length_set]; exact hI.rootsL,by simp only [List.length_set]; exact hI.costsL,h1,by simp only; omega⟩,by unfold reachM; simp only; omega⟩
theorem Qy (n:Net) (up:List Bool) (hr:Af n = true) (hcost:Cm n = true):∀ (f g:Nat) (s:List Item × List Int × List Int),ReachInv n s → reachM s ≤ f → reachM s ≤ g → Dx n up f s = Dx n up g s
 | 0,0,_,_,_,_=>rfl
 | 0,g + 1,s,_,h,_=>by
  have:s.1 = []:=List.eq_nil_of_length_eq_zero (by unfold reachM at h; omega)
  rw [Dx,Dx,if_pos this]
 | f + 1,0,s,_,_,h=>by
  have:s.1 = []:=List.eq_nil_of_length_eq_zero (by unfold reachM at h; omega)
  rw [Dx,Dx,if_pos this]
 | f + 1,g + 1,s,hI,h1,h2=>by
  rw [Dx,Dx]
  split
  ·rfl
  ·rename_i hne
   obtain ⟨h3,h4⟩:=Hs n up hr hcost s hI hne
   exact Qy n up hr hcost f g _ h3 (by omega) (by omega)
def E7 (n:Net) (up:List Bool) (s:List Item × List Int × List Int):List Item × List Int × List Int:=Dx n up (reachM s) s
theorem Abf (n:Net) (up:List Bool) (s:List Item × List Int × List Int) (h:s.1 = []):E7 n up s = s:=by
 rw [E7]
 cases reachM s with
 | zero=>rfl
 | succ m=>rw [Dx,if_pos h]
theorem Y6 (n:Net) (up:List Bool) (hr:Af n = true) (hcost:Cm n = true) (s:List Item × List Int × List Int) (hI:ReachInv n s) (hne:s.1 ≠ []):E7 n up s = E7 n up (Ji n up s):=by
 obtain ⟨h3,h4⟩:=Hs n up hr hcost s hI hne
 rw [E7,E7]
 obtain ⟨m,hm⟩:∃ m,reachM s = m + 1:=⟨reachM s - 1,by omega⟩
 rw [hm,Dx,if_neg hne]
 exact Qy n up hr hcost _ _ _ h3 (by omega) (Nat.le_refl _)
theorem Qt (ranks:List Int) (m:Nat) (hrr:∀ r ∈ ranks,0 ≤ r):∀ j,j ≤ ranks.length → ∀ y ∈ C5 ranks j,0 ≤ y.dev ∧ y.dev < m + ranks.length ∧ 0 ≤ y.root ∧ y.cost = 0
 | 0,_,y,hy=>by simp [C5] at hy
 | j + 1,hj,y,hy=>by
  rw [E3] at hy
  rcases List.mem_cons.1 ((Jk _ _).mem_iff.1 hy) with rfl | hy
  ·have h1:=hrr (ranks[j]'(by omega)) (List.getElem_mem _)
   have h2:(0:Int) ≤ (j:Int) ∧ (j:Int) < m + ranks.length:=by omega
   exact ⟨h2.1,h2.2,by rw [Az (show j < ranks.length by omega)]; exact h1,E⟩
  ·exact Qt ranks m hrr j (by omega) y hy
theorem Vv (n:Net) (ranks roots costs:List Int) (hr:Af n = true) (hrk:ranks.length = n.devices.length) (hro:roots.length = n.devices.length) (hc:costs.length = n.devices.length) (hrr:∀ r ∈ ranks,0 ≤ r):ReachInv n (C5 ranks ranks.length,roots,costs):=by
 have hf:=Dc hr
 have hm:=Ahh roots
 refine ⟨hro,hc,fun y hy=>?_,by simp only [Ii]; omega⟩
 have:=Qt ranks 0 hrr _ (Nat.le_refl _) y hy
 simp only
 omega
def Le2 (r c r' c':Int):Prop:=r < r' ∨ (r = r' ∧ c ≤ c')
theorem Ae6 {x y:Item} (h:Bi y x = false):Le2 x.root x.cost y.root y.cost:=by
 simp only [Bi,Bool.or_eq_false_iff,decide_eq_false_iff_not,Bool.and_eq_false_iff,beq_eq_false_iff_ne] at h
 unfold Le2
 omega
theorem Ae5 {a b c d e f:Int} (h1:Le2 a b c d) (h2:Le2 c d e f):Le2 a b e f:=by
 unfold Le2 at *
 omega
theorem Zv {a b c d m:Int} (h1:Le2 a b c d) (hm:0 ≤ m):Le2 a b c (d + m):=by
 unfold Le2 at *
 omega
def Hop (n:Net) (up:List Bool) (i j:Nat):Prop:=i < n.ports.length ∧ Ck n up i = j
theorem Ki {n:Net} {up:List Bool} (hr:Af n = true) {i j:Nat} (h:Hop n up i j):j < n.ports.length:=by
 have:=Uq (up:=up) hr h.1 (by rw [h.2]; omega)
 rw [h.2] at this
 omega
theorem Wc {n:Net} {up:List Bool} (hr:Af n = true) {i j:Nat} (h:Hop n up i j) :
  ∃ k:Nat,k < n.links.length ∧ (nth n.ports i).link = k ∧ (nth n.ports j).link = k ∧ up.getD k false = true ∧ (((nth n.links k).a = i ∧ (nth n.links k).b = j) ∨ ((nth n.links k).a = j ∧ (nth n.links k).b = i)) ∧ Di n i ≠ Di n j:=by
 have hj:=Ki hr h
 obtain ⟨hi,hf⟩:=h
 have hp:=Jg hr hi
 have hpl:=K2 hr hi
 simp only [Ib,Bool.and_eq_true,Bool.or_eq_true,beq_iff_eq] at hp
 have hp:=hp.2
 have e:nth n.ports i = n.ports[i]:=An (l:=n.ports) (i:=(i:Int)) (by simpa using hi)
 unfold Ck at hf
 rw [Az hi] at hf
 simp only at hf
 split at hf
 ·omega
 ·rename_i hc
  simp only [Bool.or_eq_true,decide_eq_true_eq,not_or,Bool.not_eq_true',Bool.not_eq_false] at hc
  rcases hp with hp | hp
  ·omega
  ·have hl:n.ports[i].link.toNat < n.links.length:=by omega
   have hlk:=To hr hl
   have he:=I1 hr hl
   have ek:((n.ports[i].link.toNat:Nat):Int) = n.ports[i].link:=by omega
   refine ⟨n.ports[i].link.toNat,hl,by rw [e]; omega,?_⟩
   simp only [Q6,Bool.and_eq_true,beq_iff_eq,bne_iff_ne] at hlk
   obtain ⟨⟨⟨_,hne⟩,h1⟩,h2⟩:=hlk
   rw [ek]
   rw [An (l:=n.links) (i:=n.ports[i].link) (by omega)] at hf hp ⊢
   generalize n.links[n.ports[i].link.toNat] = l at *
   rcases hp.2 with ha | hb
   ·have hb:l.b = j:=by omega
    rw [ha,hb] at hne
    rw [hb] at h2
    exact ⟨by omega,by simpa using hc.2,.inl ⟨ha,hb⟩,hne⟩
   ·have ha:l.a = j:=by omega
    rw [ha,hb] at hne
    rw [ha] at h1
    exact ⟨by omega,by simpa using hc.2,.inr ⟨ha,hb⟩,fun h=>hne h.symm⟩
theorem Z1 {n:Net} {up:List Bool} (hr:Af n = true) {i j:Nat} (h:Hop n up i j):Hop n up j i:=by
 have hj:=Ki hr h
 obtain ⟨k,hk,_,h2,h3,h4,_⟩:=Wc hr h
 refine ⟨hj,?_⟩
 unfold Ck
 have e:n.ports.getD j default = nth n.ports j:=rfl
 rw [e]
 simp only [h2,Int.toNat_natCast,h3]
 rw [if_neg (by simp)]
 omega
theorem K4 {n:Net} (hr:Af n = true) {i:Nat} (hi:i < n.ports.length):0 ≤ Di n i ∧ Di n i < n.devices.length:=by
 rw [Di,An (l:=n.ports) (i:=(i:Int)) (by simpa using hi)]
 exact Kb hr hi
def Der (n:Net) (up:List Bool) (K R C:Int → Int) (r c d:Int):Prop :=
 (r = K d ∧ c = 0) ∨ ∃ i j:Nat,Hop n up i j ∧ Di n i = d ∧ 0 ≤ R (Di n j) ∧ r = R (Di n j) ∧ c = C (Di n j) + M1 n i
structure Dij (n:Net) (up:List Bool) (K:Int → Int) (q:List Item) (R C:Int → Int):Prop where
 heap:H8 q q.length
 items:∀ x ∈ q,Der n up K R C x.root x.cost x.dev
 done:∀ d:Int,0 ≤ d → d < n.devices.length → 0 ≤ R d → Der n up K R C (R d) (C d) d
 own:∀ d:Int,0 ≤ d → d < n.devices.length → R d < 0 → ⟨K d,0,d⟩ ∈ q
 push:∀ i j:Nat,Hop n up i j → R (Di n i) < 0 → 0 ≤ R (Di n j) → ⟨R (Di n j),C (Di n j) + M1 n i,Di n i⟩ ∈ q
 low:∀ d:Int,0 ≤ d → d < n.devices.length → 0 ≤ R d → ∀ x ∈ q,Le2 (R d) (C d) x.root x.cost
 self:∀ d:Int,0 ≤ d → d < n.devices.length → 0 ≤ R d → Le2 (R d) (C d) (K d) 0
 tri:∀ i j:Nat,Hop n up i j → 0 ≤ R (Di n i) → 0 ≤ R (Di n j) → Le2 (R (Di n i)) (C (Di n i)) (R (Di n j)) (C (Di n j) + M1 n i)
theorem Tp (n:Net) (up:List Bool) (x:Item) (q:List Item) (y:Item):∀ m,y ∈ (List.range m).foldl (Cf n up x) q ↔ y ∈ q ∨ ∃ i,i < m ∧ Di n i = x.dev ∧ 0 ≤ Ck n up i ∧ y = ⟨x.root,x.cost + (nth n.ports (Ck n up i)).cost,(nth n.ports (Ck n up i)).dev⟩
 | 0=>by simp
 | m + 1=>by
  rw [List.range_succ,List.foldl_append]
  simp only [List.foldl_cons,List.foldl_nil]
  rw [Cf]
  have ih:=Tp n up x q y m
  have e:(n.ports.getD m default).dev = Di n m:=rfl
  rw [e]
  split
  ·rename_i h
   rw [(Jk _ _).mem_iff,List.mem_cons,ih]
   constructor
   ·rintro (h1 | h1 | ⟨i,h1,h2⟩)
    ·exact .inr ⟨m,by omega,h.1,h.2,h1⟩
    ·exact .inl h1
    ·exact .inr ⟨i,by omega,h2⟩
   ·rintro (h1 | ⟨i,h1,h2,h3,h4⟩)
    ·exact .inr (.inl h1)
    ·by_cases hm:i = m
     ·subst hm; exact .inl h4
     ·exact .inr (.inr ⟨i,by omega,h2,h3,h4⟩)
  ·rename_i h
   rw [ih]
   constructor
   ·rintro (h1 | ⟨i,h1,h2⟩)
    ·exact .inl h1
    ·exact .inr ⟨i,by omega,h2⟩
   ·rintro (h1 | ⟨i,h1,h2,h3,h4⟩)
    ·exact .inl h1
    ·by_cases hm:i = m
     ·subst hm; exact absurd ⟨h2,h3⟩ h
     ·exact .inr ⟨i,by omega,h2,h3,h4⟩
theorem Qx (n:Net) (up:List Bool) (x:Item) (q:List Item) (h:H8 q q.length):∀ m,H8 ((List.range m).foldl (Cf n up x) q) ((List.range m).foldl (Cf n up x) q).length
 | 0=>h
 | m + 1=>by
  rw [List.range_succ,List.foldl_append]
  simp only [List.foldl_cons,List.foldl_nil]
  have ih:=Qx n up x q h m
  rw [Cf]
  split
  ·exact Tv _ _ ih
  ·exact ih
theorem Ux {n:Net} {up:List Bool} {K R C R' C':Int → Int} {r c d:Int} (h:Der n up K R C r c d) (hs:∀ e,0 ≤ R e → R' e = R e ∧ C' e = C e):Der n up K R' C' r c d:=by
 rcases h with h | ⟨i,j,h1,h2,h3,h4,h5⟩
 ·exact .inl h
 ·obtain ⟨e1,e2⟩:=hs _ h3
  exact .inr ⟨i,j,h1,h2,by rw [e1]; exact h3,by rw [e1]; exact h4,by rw [e2]; exact h5⟩
theorem Aig {n:Net} {up:List Bool} {K R C:Int → Int} {q q':List Item} {x:Item} (h:Dij n up K q R C) (hp:(x :: q').Perm q) (hh:H8 q' q'.length) (hx:0 ≤ R x.dev):Dij n up K q' R C:=by
 have hm:∀ y,y ∈ q ↔ y = x ∨ y ∈ q':=fun y=>by rw [← hp.mem_iff,List.mem_cons]
 refine ⟨hh,fun y hy=>h.items y ((hm y).2 (.inr hy)),h.done,fun d h0 h1 h2=>?_,fun i j hij h1 h2=>?_,fun d h0 h1 h2 y hy=>h.low d h0 h1 h2 y ((hm y).2 (.inr hy)),h.self,h.tri⟩
 ·rcases (hm _).1 (h.own d h0 h1 h2) with e | e
  ·rw [← e] at hx; simp only at hx; omega
  ·exact e
 ·rcases (hm _).1 (h.push i j hij h1 h2) with e | e
  ·rw [← e] at hx; simp only at hx; omega
  ·exact e
theorem Aif {n:Net} {up:List Bool} {K R C R' C':Int → Int} {q q':List Item} {x:Item} (hr:Af n = true) (hcost:Cm n = true) (h:Dij n up K q R C) (hp:(x :: q').Perm q) (hh:H8 q' q'.length)
  (hmin:∀ y ∈ q,Bi y x = false) (hx:R x.dev < 0) (hx0:0 ≤ x.root) (_hxd:0 ≤ x.dev ∧ x.dev < n.devices.length)
  (hR:∀ e,R' e = if e = x.dev then x.root else R e) (hC:∀ e,C' e = if e = x.dev then x.cost else C e) :
  Dij n up K ((List.range n.ports.length).foldl (Cf n up x) q') R' C':=by
 have hm:∀ y,y ∈ q ↔ y = x ∨ y ∈ q':=fun y=>by rw [← hp.mem_iff,List.mem_cons]
 have hn:=fun y=>Tp n up x q' y n.ports.length
 have hs:∀ e,0 ≤ R e → R' e = R e ∧ C' e = C e:=fun e he=>by
  have:e ≠ x.dev:=fun h=>by rw [h] at he; omega
  rw [hR,hC,if_neg this,if_neg this]
  exact ⟨E,E⟩
 have hRd:R' x.dev = x.root:=by rw [hR,if_pos rfl]
 have hCd:C' x.dev = x.cost:=by rw [hC,if_pos rfl]
 have hxq:x ∈ q:=(hm x).2 (.inl rfl)
 have hle:∀ y ∈ q,Le2 x.root x.cost y.root y.cost:=fun y hy=>Ae6 (hmin y hy)
 have hnew:∀ y,y ∈ (List.range n.ports.length).foldl (Cf n up x) q' ↔ y ∈ q' ∨ ∃ i j:Nat,Hop n up i j ∧ Di n i = x.dev ∧ y = ⟨x.root,x.cost + M1 n j,Di n j⟩:=fun y=>by
  rw [hn y]
  constructor
  ·rintro (h1 | ⟨i,h1,h2,h3,h4⟩)
   ·exact .inl h1
   ·obtain ⟨j,hj⟩:∃ j:Nat,Ck n up i = j:=⟨(Ck n up i).toNat,by omega⟩
    rw [hj] at h4
    exact .inr ⟨i,j,⟨h1,hj⟩,h2,h4⟩
  ·rintro (h1 | ⟨i,j,h1,h2,h3⟩)
   ·exact .inl h1
   ·refine .inr ⟨i,h1.1,h2,by rw [h1.2]; omega,?_⟩
    rw [h1.2]
    exact h3
 refine ⟨Qx n up x q' hh _,fun y hy=>?_,fun d h0 h1 h2=>?_,fun d h0 h1 h2=>?_,fun i j hij h1 h2=>?_,fun d h0 h1 h2 y hy=>?_,fun d h0 h1 h2=>?_,fun i j hij h1 h2=>?_⟩
 ·rcases (hnew y).1 hy with hy | ⟨i,j,h1,h2,rfl⟩
  ·exact Ux (h.items y ((hm y).2 (.inr hy))) hs
  ·exact .inr ⟨j,i,Z1 hr h1,E,by rw [h2,hRd]; exact hx0,by rw [h2,hRd],by rw [h2,hCd]⟩
 ·by_cases hd:d = x.dev
  ·subst hd
   rw [hRd,hCd]
   exact Ux (h.items x hxq) hs
  ·rw [hR,if_neg hd] at h2
   obtain ⟨e1,e2⟩:=hs d h2
   rw [e1,e2]
   exact Ux (h.done d h0 h1 h2) hs
 ·have hd:d ≠ x.dev:=fun e=>by rw [e,hRd] at h2; omega
  rw [hR,if_neg hd] at h2
  refine (hnew _).2 (.inl ?_)
  rcases (hm _).1 (h.own d h0 h1 h2) with e | e
  ·exact absurd (congrArg Item.dev e) hd
  ·exact e
 ·have hd:Di n i ≠ x.dev:=fun e=>by rw [e,hRd] at h1; omega
  rw [hR,if_neg hd] at h1
  by_cases hj:Di n j = x.dev
  ·rw [hj,hRd,hCd]
   exact (hnew _).2 (.inr ⟨j,i,Z1 hr hij,hj,E⟩)
  ·rw [hR,if_neg hj] at h2
   obtain ⟨e1,e2⟩:=hs _ h2
   rw [e1,e2]
   refine (hnew _).2 (.inl ?_)
   rcases (hm _).1 (h.push i j hij h1 h2) with e | e
   ·exact absurd (congrArg Item.dev e) hd
   ·exact e
 ·have hdx:Le2 (R' d) (C' d) x.root x.cost:=by
   by_cases hd:d = x.dev
   ·subst hd; rw [hRd,hCd]; exact .inr ⟨rfl,Int.le_refl _⟩
   ·rw [hR,if_neg hd] at h2
    obtain ⟨e1,e2⟩:=hs d h2
    rw [e1,e2]
    exact h.low d h0 h1 h2 x hxq
  rcases (hnew y).1 hy with hy | ⟨i,j,h3,_,rfl⟩
  ·exact Ae5 hdx (hle y ((hm y).2 (.inr hy)))
  ·exact Zv hdx (by have:=Zg hcost (Ki hr h3); omega)
 ·by_cases hd:d = x.dev
  ·subst hd
   rw [hRd,hCd]
   exact hle _ (h.own _ h0 h1 hx)
  ·rw [hR,if_neg hd] at h2
   obtain ⟨e1,e2⟩:=hs d h2
   rw [e1,e2]
   exact h.self d h0 h1 h2
 ·have hj:=Ki hr hij
  have hpc:=Zg hcost hij.1
  have hne:=(Wc hr hij).choose_spec.2.2.2.2.2
  by_cases hd:Di n i = x.dev
  ·rw [hd,hRd,hCd]
   have hjd:Di n j ≠ x.dev:=fun e=>hne (by rw [hd,e])
   rw [hR,if_neg hjd] at h2
   obtain ⟨e1,e2⟩:=hs _ h2
   rw [e1,e2]
   exact hle _ (h.push i j hij (by rw [hd]; exact hx) h2)
  ·rw [hR,if_neg hd] at h1
   obtain ⟨e1,e2⟩:=hs _ h1
   rw [e1,e2]
   by_cases hjd:Di n j = x.dev
   ·rw [hjd,hRd,hCd]
    have hdl:=K4 hr hij.1
    exact Zv (h.low _ hdl.1 hdl.2 h1 x hxq) (by omega)
   ·rw [hR,if_neg hjd] at h2
    obtain ⟨e3,e4⟩:=hs _ h2
    rw [e3,e4]
    exact h.tri i j hij h1 h2
def atI (l:List Int) (e:Int):Int:=if e < 0 then -1 else nth l e
theorem H5 {l:List Int} {e:Int} (h:0 ≤ e):atI l e = nth l e:=by rw [atI,if_neg (by omega)]
theorem Adv {l:List Int} {d v:Int} (h0:0 ≤ d) (h1:d < l.length) (e:Int):atI (l.set d.toNat v) e = if e = d then v else atI l e:=by
 by_cases he:e < 0
 ·rw [atI,if_pos he,if_neg (by omega),atI,if_pos he]
 ·rw [atI,if_neg he,atI,if_neg he,nth,nth,List.getElem?_set]
  by_cases hd:e = d
  ·subst hd
   rw [if_pos rfl,if_pos rfl,if_pos (by omega)]
   rfl
  ·rw [if_neg (by omega),if_neg hd]
structure DijS (n:Net) (up:List Bool) (ranks:List Int) (s:List Item × List Int × List Int):Prop where
 inv:ReachInv n s
 dij:Dij n up (atI ranks) s.1 (atI s.2.1) (atI s.2.2)
 bound:∀ c ∈ s.2.2,0 ≤ c ∧ c ≤ 1000000
theorem Abg (n:Net) (up:List Bool) (ranks:List Int) (hr:Af n = true) (hcost:Cm n = true) (s:List Item × List Int × List Int) (hI:DijS n up ranks s) (hne:s.1 ≠ []):DijS n up ranks (Ji n up s):=by
 have hf:=Dc hr
 have h1:=(Hs n up hr hcost s hI.inv hne).1
 have hrest:=Ag2 s.1 hne
 have hheap:=Ag3 s.1 hne hI.dij.heap
 have hleast:=Aer s.1 hI.dij.heap
 have hx:=hI.inv.items _ (hrest.mem_iff.1 (List.mem_cons_self ..))
 have hrl:=hI.inv.rootsL
 have hcl:=hI.inv.costsL
 have hd:=hI.dij
 have hb:=hI.bound
 rw [Ji,T8 hne,Zb s.1 hne] at *
 generalize s.1.getD 0 default = x at *
 try simp only at *
 have ea:nth s.2.1 x.dev = atI s.2.1 x.dev:=(H5 hx.1).symm
 rw [ea]; rw [ea] at h1
 split
 ·rename_i hc
  rw [if_pos hc] at h1
  exact ⟨h1,Aig hd hrest hheap hc,hb⟩
 ·rename_i hc
  rw [if_neg hc] at h1
  refine ⟨h1,Aif hr hcost hd hrest hheap hleast (by omega) hx.2.2.1 ⟨hx.1,hx.2.1⟩ (Adv hx.1 (by omega)) (Adv hx.1 (by omega)),fun c hc=>?_⟩
  rcases List.mem_or_eq_of_mem_set hc with h | h
  ·exact hb c h
  ·omega
theorem Tt (n:Net) (up:List Bool) (ranks:List Int) (hr:Af n = true) (hcost:Cm n = true):∀ (f:Nat) (s:List Item × List Int × List Int),DijS n up ranks s → reachM s ≤ f → DijS n up ranks (Dx n up f s) ∧ (Dx n up f s).1 = []
 | 0,s,h,hf=>⟨h,List.eq_nil_of_length_eq_zero (by unfold reachM at hf; rw [Dx]; omega)⟩
 | f + 1,s,h,hf=>by
  rw [Dx]
  split
  ·rename_i he; exact ⟨h,he⟩
  ·rename_i hne
   exact Tt n up ranks hr hcost f _ (Abg n up ranks hr hcost s h hne) (by have:=(Hs n up hr hcost s h.inv hne).2; omega)
structure Solved (n:Net) (up:List Bool) (ranks roots costs:List Int):Prop where
 rootsL:roots.length = n.devices.length
 costsL:costs.length = n.devices.length
 bound:∀ c ∈ costs,0 ≤ c ∧ c ≤ 1000000
 root:∀ d:Int,0 ≤ d → d < n.devices.length → 0 ≤ nth roots d
 self:∀ d:Int,0 ≤ d → d < n.devices.length → Le2 (nth roots d) (nth costs d) (nth ranks d) 0
 tri:∀ i j:Nat,Hop n up i j → Le2 (nth roots (Di n i)) (nth costs (Di n i)) (nth roots (Di n j)) (nth costs (Di n j) + M1 n i)
 der:∀ d:Int,0 ≤ d → d < n.devices.length → (nth roots d = nth ranks d ∧ nth costs d = 0) ∨ ∃ i j:Nat,Hop n up i j ∧ Di n i = d ∧ nth roots d = nth roots (Di n j) ∧ nth costs d = nth costs (Di n j) + M1 n i
theorem Aec (n:Net) (up:List Bool) (ranks:List Int) (hr:Af n = true) (s:List Item × List Int × List Int) (h:DijS n up ranks s) (he:s.1 = []):Solved n up ranks s.2.1 s.2.2:=by
 have hd:=h.dij
 rw [he] at hd
 have h0:∀ d:Int,0 ≤ d → d < n.devices.length → 0 ≤ atI s.2.1 d:=fun d h1 h2=>by
  by_cases hc:0 ≤ atI s.2.1 d
  ·exact hc
  ·have:=hd.own d h1 h2 (by omega)
   simp at this
 refine ⟨h.inv.rootsL,h.inv.costsL,h.bound,fun d h1 h2=>?_,fun d h1 h2=>?_,fun i j hij=>?_,fun d h1 h2=>?_⟩
 ·have:=h0 d h1 h2
  rwa [H5 h1] at this
 ·have:=hd.self d h1 h2 (h0 d h1 h2)
  simpa only [H5 h1] using this
 ·have hi:=K4 hr hij.1
  have hj:=K4 hr (Ki hr hij)
  have:=hd.tri i j hij (h0 _ hi.1 hi.2) (h0 _ hj.1 hj.2)
  simpa only [H5 hi.1,H5 hj.1] using this
 ·rcases hd.done d h1 h2 (h0 d h1 h2) with h3 | ⟨i,j,h3,h4,_,h5,h6⟩
  ·simp only [H5 h1] at h3
   exact .inl h3
  ·have hj:=K4 hr (Ki hr h3)
   simp only [H5 h1,H5 hj.1] at h5 h6
   exact .inr ⟨i,j,h3,h4,h5,h6⟩
theorem O6 (ranks:List Int) (y:Item):∀ j,y ∈ C5 ranks j ↔ ∃ i,i < j ∧ y = ⟨ranks.getD i 0,0,i⟩
 | 0=>by simp [C5]
 | j + 1=>by
  rw [E3,(Jk _ _).mem_iff,List.mem_cons,O6 ranks y j]
  constructor
  ·rintro (h | ⟨i,h1,h2⟩)
   ·exact ⟨j,by omega,h⟩
   ·exact ⟨i,by omega,h2⟩
  ·rintro ⟨i,h1,h2⟩
   by_cases h:i = j
   ·subst h; exact .inl h2
   ·exact .inr ⟨i,by omega,h2⟩
theorem Td (ranks:List Int):∀ j,H8 (C5 ranks j) (C5 ranks j).length
 | 0=>fun c _ h2 _=>by simp [C5] at h2
 | j + 1=>by
  rw [E3]
  exact Tv _ _ (Td ranks j)
theorem Ve {v:Int} {m:Nat} {d:Int} (h1:d < m) (h0:0 ≤ d):nth (List.replicate m v) d = v:=by
 rw [An (by simp; omega)]; simp
theorem Aea (n:Net) (up:List Bool) (ranks:List Int) (hr:Af n = true) (hrk:ranks.length = n.devices.length) (hrr:∀ r ∈ ranks,0 ≤ r) :
  DijS n up ranks (C5 ranks ranks.length,List.replicate n.devices.length (-1),List.replicate n.devices.length 0):=by
 have hneg:∀ d:Int,0 ≤ d → d < n.devices.length → atI (List.replicate n.devices.length (-1)) d = -1:=fun d h0 h1=>by rw [H5 h0,Ve h1 h0]
 refine ⟨Vv n ranks _ _ hr hrk (by simp) (by simp) hrr,⟨Td ranks _,fun x hx=>?_,fun d h0 h1 h2=>?_,fun d h0 h1 h2=>?_,fun i j hij h1 h2=>?_,fun d h0 h1 h2=>?_,fun d h0 h1 h2=>?_,fun i j hij h1 h2=>?_⟩,fun c hc=>?_⟩
 ·obtain ⟨i,h1,rfl⟩:=(O6 ranks x _).1 hx
  refine .inl ⟨?_,E⟩
  simp only
  rw [H5 (by omega),An (by simpa using h1),Az h1]
  rfl
 ·rw [hneg d h0 h1] at h2; omega
 ·refine (O6 ranks _ _).2 ⟨d.toNat,by omega,?_⟩
  rw [H5 h0,An (by omega),Az (by omega),Int.toNat_of_nonneg h0]
 ·have hj:=K4 hr (Ki hr hij)
  rw [hneg _ hj.1 hj.2] at h2; omega
 ·rw [hneg d h0 h1] at h2; omega
 ·rw [hneg d h0 h1] at h2; omega
 ·have hj:=K4 hr (Ki hr hij)
  rw [hneg _ hj.1 hj.2] at h2; omega
 ·have:=List.eq_of_mem_replicate hc
  omega
def J9 (n:Net) (up:List Bool) (ranks:List Int):List Item × List Int × List Int:=E7 n up (C5 ranks ranks.length,List.replicate n.devices.length (-1),List.replicate n.devices.length 0)
theorem U9 (n:Net) (up:List Bool) (ranks:List Int) (hr:Af n = true) (hcost:Cm n = true) (hrk:ranks.length = n.devices.length) (hrr:∀ r ∈ ranks,0 ≤ r):Solved n up ranks (J9 n up ranks).2.1 (J9 n up ranks).2.2:=by
 obtain ⟨h1,h2⟩:=Tt n up ranks hr hcost _ _ (Aea n up ranks hr hrk hrr) (Nat.le_refl _)
 exact Aec n up ranks hr _ h1 h2
end Go.Sy.YtmelpejjondedaaGreat
namespace Go.Sy.YtmelpejjondedaaGreat
section
variable {n:Net} {up:List Bool} {ranks roots costs:List Int}
def rolesL (n:Net) (up:List Bool) (ranks roots costs:List Int):List Int:=Ij n up ranks roots costs n.devices.length
def Ah5 (roles:List Int) (l:Link):Bool:=inB [nth roles l.a,nth roles l.b] 1 && inB [nth roles l.a,nth roles l.b] 2
def fwdL (n:Net) (roles:List Int):List Bool:=n.links.map (Ah5 roles)
end
end Go.Sy.YtmelpejjondedaaGreat
namespace Go.Sy.YtmelpejjondedaaGreat
open Go.Proofs
theorem G_lit {C:Cx} {k:List KI} {s:SS} (d:Nat) {sz:Nat} {α:Type} (e:α → SV) (l:List α) {svs:List SV} (h:s.h d = .lit sz svs) (hl:l.map e = svs) (hg:G C k ⟨s.σ,upd s.h d (.row sz e l)⟩):G C k s:=fun κ a w hs=>by
 refine hg κ a w ⟨hs.defers,hs.size,hs.inv,hs.ctx,hs.slot,fun j=>?_⟩
 show ObOK κ w j (upd s.h d (.row sz e l) j)
 by_cases hj:j = d
 ·subst hj
  rw [A7]
  have hob:=hs.obj j
  rw [h] at hob
  have hlen:l.length = svs.length:=by rw [← hl,List.length_map]
  obtain ⟨b,cap,cs,T,fr,e1,e2,e3,e4,e5,e6⟩:=hob
  exact .inr ⟨b,cap,cs,T,fr,by rw [hlen]; exact e1,e2,e3,e4,by omega,fun i x hx=>by rw [hlen]; exact e6 i x (Iu hl i x hx)⟩
 ·rw [Bn _ _ hj]; exact hs.obj j
attribute [local irreducible] Go.Sy.G Go.Sy.DR
set_option maxRecDepth 100000
set_option maxHeartbeats 4000000
theorem Tq (n:Net) (up:List Bool) (x:Item) (q:List Item):∀ i,((List.range i).foldl (Cf n up x) q).length ≤ q.length + i
 | 0=>by simp
 | i + 1=>by
  have:=Tq n up x q i
  rw [List.range_succ,List.foldl_append]
  simp only [List.foldl_cons,List.foldl_nil]
  rw [Cf]
  split
  ·rw [Hj]; omega
  ·omega
theorem reachS (n:Net) (up:List Bool) (ranks roots costs:List Int) (hr:Af n = true) (hu:up.length = n.links.length) (hcost:Cm n = true) (hrk:ranks.length = n.devices.length) (hro:roots.length = n.devices.length) (hc:costs.length = n.devices.length) (hrr:∀ r ∈ ranks,0 ≤ r) (D:List Item × List Int × List Int) (hD:E7 n up (C5 ranks ranks.length,roots,costs) = D) :
  Sy.Spec Tryz.prog 157 [.ptr 0 0] (Vx n up ranks roots costs) (.tup []) (Vx n up ranks D.2.1 D.2.2):=Ab Γ hm 100 F157 Tryz.ntmps157 rfl fun F hF=>by
 have hf:=Dc hr
 conv=>whnf
 refine G_lit 10 A8 [] E E ?_
 refine A0 ranks.length (fun j=>[(0,.ptr 0 0),(2,.ptr 11 0),(15,.sl 1 Aa ranks),(16,Aa ranks.length),(17,Aa j)]) (fun j=>[(0,.box (Ln n up ranks (.osl 1) (.osl 2))),(1,.row 1 Aa roots),(2,.row 1 Aa costs),(11,.box [.osl 12]),(12,.row 3 A8 (C5 ranks j))]) [(12,10)]
  ⟨⟨rfl,rfl,rfl,rfl,rfl,rfl,rfl,rfl,rfl,rfl,trivial⟩,⟨.inl rfl,rfl,.inl rfl,rfl,.inl rfl,rfl,.inl rfl,rfl,.inl rfl,rfl,trivial⟩,rfl,rfl⟩ ?_
 intro j hj
 refine rg ?_;conv=>whnf
 refine ⟨fun h=>?_,fun h=>?_⟩
 ·have hlt:j < ranks.length:=by simpa using h
  have e1:ranks[(j:Int).toNat]'(by omega) = ranks[j]:=rfl
  have hpush:=Wd (C5 ranks j) ⟨ranks.getD j 0,0,j⟩ (by rw [Ii]; omega)
  have hsucc:=E3 ranks j
  rw [Az (show j < ranks.length by omega)] at hpush hsucc
  refine rg ?_;conv=>whnf
  refine ⟨by omega,by omega,?_⟩
  conv=>whnf
  refine ⟨by omega,?_⟩
  rw [e1]
  conv=>whnf
  refine Ah (Ai [(0,11),(1,12),(2,28)] E F233 hpush E ⟨E,E,Y⟩ E ⟨.inl E,.inl E,.inr E,Y⟩) E E ?_
  refine rg ?_;conv=>whnf
  refine ⟨by unfold I64; omega,?_⟩
  conv=>whnf
  refine Aq [(12,28)] hlt ⟨⟨E,E,E,E,E,E,E,E,E,E,Y⟩,⟨.inl E,E,.inl E,E,.inl E,E,.inl E,E,.inl (congrArg (Ob.row 3 A8) hsucc),E,Y⟩,E,E⟩
 ·have hjl:j = ranks.length:=by
   have:¬ j < ranks.length:=by simpa using h
   omega
  subst hjl
  refine rg ?_;conv=>whnf
  refine Kv (α:={s:List Item × List Int × List Int // ReachInv n s ∧ E7 n up s = D}) (fun p=>[(0,.ptr 0 0),(2,.ptr 11 0)]) (fun p=>[(0,.box (Ln n up ranks (.osl 1) (.osl 2))),(1,.row 1 Aa p.1.2.1),(2,.row 1 Aa p.1.2.2),(11,.box [.osl 12]),(12,.row 3 A8 p.1.1)]) (fun p=>reachM p.1) ⟨(C5 ranks ranks.length,roots,costs),Vv n ranks roots costs hr hrk hro hc hrr,hD⟩ []
   ⟨⟨rfl,rfl,rfl,rfl,trivial⟩,⟨.inl rfl,rfl,.inl rfl,rfl,.inl rfl,rfl,.inl rfl,rfl,.inl rfl,rfl,trivial⟩,rfl,rfl⟩ ?_
  rintro ⟨⟨q,ro,co⟩,hI,hDq⟩
  have hlen:=Qd q
  have hdn:=Abf n up (q,ro,co)
  have hds:=Y6 n up hr hcost (q,ro,co) hI
  dsimp only at hdn hds ⊢
  refine rg ?_;conv=>whnf
  refine Ah (Mf [12] E F234 hlen (.cons (.row E E) .nil) E E) E E ?_
  refine rg ?_;conv=>whnf
  refine ⟨fun h2=>?_,fun h2=>?_⟩
  ·have hne:q ≠ []:=fun e=>by subst e; simp at h2
   have hpop:=Ahx q hne (by have:=hI.few; simp only at this; omega)
   have hx:=hI.items _ ((K3 q hne).mem_iff.1 (List.getLast_mem (Cu hne)))
   have hst:Ji n up (q,ro,co) = if 0 ≤ nth ro ((B9 q).getLast (Cu hne)).dev then ((B9 q).dropLast,ro,co) else ((List.range n.ports.length).foldl (Cf n up ((B9 q).getLast (Cu hne))) (B9 q).dropLast,ro.set ((B9 q).getLast (Cu hne)).dev.toNat ((B9 q).getLast (Cu hne)).root,co.set ((B9 q).getLast (Cu hne)).dev.toNat ((B9 q).getLast (Cu hne)).cost):=by
    rw [Ji,T8 hne]
   have hr1:=Hs n up hr hcost (q,ro,co) hI hne
   have hD1:=hds hne
   rw [hDq] at hD1
   rw [hst] at hr1 hD1
   generalize (B9 q).getLast (Cu hne) = x at *
   have hroL:=hI.rootsL
   have hcoL:=hI.costsL
   dsimp only at hroL hcoL
   rw [An (l:=ro) (i:=x.dev) (by omega)] at hr1 hD1
   refine rg ?_;conv=>whnf
   refine Ah (Ai [(0,11),(1,12),(2,38)] E F235 hpop E ⟨E,E,Y⟩ E ⟨.inl E,.inl E,.inr E,Y⟩) E E ?_
   refine rg ?_;conv=>whnf
   refine Ah (Sc Γ.toTy E E E E) E E ?_
   (refine rg ?_;(conv=>whnf);refine aF ?_;refine rd (by kernel_rfl) ?_;conv=>whnf)
   have hx1:=hx.1
   have hx2:=hx.2.1
   refine ⟨by omega,by omega,?_⟩
   conv=>whnf
   refine ⟨E,by omega,?_⟩
   conv=>whnf
   refine ⟨(by kernel_rfl),?_⟩
   conv=>whnf
   refine ⟨fun h3=>?_,fun h3=>?_⟩
   ·have h30:0 ≤ ro[x.dev.toNat]'(by omega):=of_decide_eq_true h3
    rw [if_pos h30] at hr1 hD1
    refine rg ?_;conv=>whnf
    exact L2 (α:={s:List Item × List Int × List Int // ReachInv n s ∧ E7 n up s = D}) (L:=fun p=>[(0,.ptr 0 0),(2,.ptr 11 0)]) (O:=fun p=>[(0,.box (Ln n up ranks (.osl 1) (.osl 2))),(1,.row 1 Aa p.1.2.1),(2,.row 1 Aa p.1.2.2),(11,.box [.osl 12]),(12,.row 3 A8 p.1.1)]) (μ:=fun p=>reachM p.1) (x:=⟨(q,ro,co),hI,hDq⟩)
     ⟨((B9 q).dropLast,ro,co),hr1.1,hD1.symm⟩ [(12,38)] hr1.2
     ⟨⟨rfl,rfl,rfl,rfl,trivial⟩,⟨.inl rfl,rfl,.inl rfl,rfl,.inl rfl,rfl,.inl rfl,rfl,.inl rfl,rfl,trivial⟩,rfl,rfl⟩
   ·have h30:¬ 0 ≤ ro[x.dev.toNat]'(by omega):=of_decide_eq_false h3
    rw [if_neg h30] at hr1 hD1
    refine rg ?_;conv=>whnf
    refine ⟨by omega,by omega,?_⟩
    conv=>whnf
    refine ⟨by omega,by omega,?_⟩
    conv=>whnf
    refine ⟨x.root,E,E,?_⟩
    conv=>whnf
    refine ⟨by omega,by omega,E,by omega,x.cost,E,E,?_⟩
    conv=>whnf
    refine ⟨(by kernel_rfl),?_⟩
    conv=>whnf
    generalize ro.set x.dev.toNat x.root = ro' at *
    generalize co.set x.dev.toNat x.cost = co' at *
    refine A0 n.ports.length (fun j=>[(0,.ptr 0 0),(2,.ptr 11 0),(5,.ptr 5 0),(77,.sl 7 Ba n.ports),(78,Aa n.ports.length),(79,Aa j)]) (fun j=>[(0,.box (Ln n up ranks (.osl 1) (.osl 2))),(1,.row 1 Aa ro'),(2,.row 1 Aa co'),(5,.box [Aa x.root,Aa x.cost,Aa x.dev]),(11,.box [.osl 12]),(12,.row 3 A8 ((List.range j).foldl (Cf n up x) (B9 q).dropLast))]) [(12,38)]
     ⟨⟨rfl,rfl,rfl,rfl,rfl,rfl,rfl,rfl,rfl,rfl,rfl,rfl,trivial⟩,⟨.inl rfl,rfl,.inl rfl,rfl,.inl rfl,rfl,.inl rfl,rfl,.inl rfl,rfl,.inl rfl,rfl,trivial⟩,rfl,rfl⟩ ?_
    intro j hj
    refine rg ?_;conv=>whnf
    refine ⟨fun h4=>?_,fun h4=>?_⟩
    ·have hlt:j < n.ports.length:=by simpa using h4
     have e1:n.ports[(j:Int).toNat]'(by omega) = n.ports[j]:=rfl
     have hfar:=farR n up ranks ro' co' j hr hu hlt
     have hql:(B9 q).dropLast.length ≤ q.length:=by rw [List.length_dropLast,C1]; omega
     have hlenQ:=Tq n up x (B9 q).dropLast j
     have hfew:=hI.few
     dsimp only at hfew
     have hsucc:(List.range (j + 1)).foldl (Cf n up x) (B9 q).dropLast = Cf n up x ((List.range j).foldl (Cf n up x) (B9 q).dropLast) j:=by
      rw [List.range_succ,List.foldl_append]; rfl
     generalize (List.range j).foldl (Cf n up x) (B9 q).dropLast = Q at *
     rw [Cf,Az hlt] at hsucc
     refine rg ?_;conv=>whnf
     refine ⟨by omega,by omega,?_⟩
     conv=>whnf
     refine ⟨by omega,?_⟩
     rw [e1]
     conv=>whnf
     refine Ah (Ai [] E F158 hfar E ⟨E,E,E,Y⟩ E ⟨.inl E,.inl E,.inl E,Y⟩) E E ?_
     refine rg ?_;conv=>whnf
     refine ⟨fun h5=>?_,fun h5=>?_⟩
     ·refine rg ?_;conv=>whnf
      refine ⟨fun h6=>?_,fun h6=>?_⟩
      ·have hk0:0 ≤ Ck n up j:=of_decide_eq_true h6
       have hk1:=Uq (up:=up) hr hlt hk0
       rw [if_pos ⟨by simpa using h5,hk0⟩,An (l:=n.ports) (i:=Ck n up j) (by omega)] at hsucc
       have hpc:1 ≤ (n.ports[(Ck n up j).toNat]'(by omega)).cost ∧ (n.ports[(Ck n up j).toNat]'(by omega)).cost ≤ 65535:=by
        simp only [Cm,Bool.not_eq_true',List.any_eq_false] at hcost
        have:=hcost _ (List.getElem_mem (show (Ck n up j).toNat < n.ports.length by omega))
        simp only [If,Bool.or_eq_true,decide_eq_true_eq,not_or] at this
        omega
       have hxc:=hx.2.2.2
       have hpush:=Wd Q ⟨x.root,x.cost + (n.ports[(Ck n up j).toNat]'(by omega)).cost,(n.ports[(Ck n up j).toNat]'(by omega)).dev⟩ (by omega)
       refine rg ?_;conv=>whnf
       refine ⟨E,hk0,by omega,?_⟩
       conv=>whnf
       refine ⟨by unfold I64; omega,?_⟩
       conv=>whnf
       refine ⟨E,hk0,by omega,?_⟩
       conv=>whnf
       refine Bo (Ai [(0,11),(1,12),(2,123)] E F233 hpush E ⟨E,E,Y⟩ E ⟨.inl E,.inl E,.inr E,Y⟩) (by kernel_rfl) E ?_
       refine rd (by kernel_rfl) ?_;conv=>whnf
       refine ⟨(by kernel_rfl),?_⟩
       conv=>whnf
       refine ⟨by unfold I64; omega,?_⟩
       conv=>whnf
       refine Aq [(12,123)] hlt ⟨⟨E,E,E,E,E,E,E,E,E,E,E,E,Y⟩,⟨.inl E,E,.inl E,E,.inl E,E,.inl E,E,.inl E,E,.inl (congrArg (Ob.row 3 A8) hsucc),E,Y⟩,E,E⟩
      ·rw [if_neg (fun hh=>(of_decide_eq_false h6) hh.2)] at hsucc
       refine rg ?_;conv=>whnf
       refine ⟨by unfold I64; omega,?_⟩
       conv=>whnf
       refine Aq [] hlt ⟨⟨E,E,E,E,E,E,E,E,E,E,E,E,Y⟩,⟨.inl E,E,.inl E,E,.inl E,E,.inl E,E,.inl E,E,.inl (congrArg (Ob.row 3 A8) hsucc),E,Y⟩,E,E⟩
     ·rw [if_neg (fun hh=>absurd hh.1 (by simpa using h5))] at hsucc
      (refine rg ?_;(conv=>whnf);refine aF ?_;refine rg ?_;conv=>whnf)
      refine ⟨by unfold I64; omega,?_⟩
      conv=>whnf
      refine Aq [] hlt ⟨⟨E,E,E,E,E,E,E,E,E,E,E,E,Y⟩,⟨.inl E,E,.inl E,E,.inl E,E,.inl E,E,.inl E,E,.inl (congrArg (Ob.row 3 A8) hsucc),E,Y⟩,E,E⟩
    ·have hjl:j = n.ports.length:=by
      have:¬ j < n.ports.length:=by simpa using h4
      omega
     subst hjl
     refine rg ?_;conv=>whnf
     exact L2 (α:={s:List Item × List Int × List Int // ReachInv n s ∧ E7 n up s = D}) (L:=fun p=>[(0,.ptr 0 0),(2,.ptr 11 0)]) (O:=fun p=>[(0,.box (Ln n up ranks (.osl 1) (.osl 2))),(1,.row 1 Aa p.1.2.1),(2,.row 1 Aa p.1.2.2),(11,.box [.osl 12]),(12,.row 3 A8 p.1.1)]) (μ:=fun p=>reachM p.1) (x:=⟨(q,ro,co),hI,hDq⟩)
      ⟨((List.range n.ports.length).foldl (Cf n up x) (B9 q).dropLast,ro',co'),hr1.1,hD1.symm⟩ [] hr1.2
      ⟨⟨rfl,rfl,rfl,rfl,trivial⟩,⟨.inl rfl,rfl,.inl rfl,rfl,.inl rfl,rfl,.inl rfl,rfl,.inl rfl,rfl,trivial⟩,rfl,rfl⟩
  ·have he:q = []:=List.eq_nil_of_length_eq_zero (by
    have:¬ 0 < q.length:=by simpa using h2
    omega)
   have e:D = (q,ro,co):=by rw [← hDq,hdn he]
   rw [e]
   refine rg ?_;conv=>whnf
   exact Bc E .nil [] (Vx n up ranks ro co) (fun _ h=>h) E E ⟨Y,⟨.inl E,E,.inl E,E,.inl E,E,Y⟩,E,E⟩
end Go.Sy.YtmelpejjondedaaGreat
namespace Go.Sy.YtmelpejjondedaaGreat
open Go.Proofs
attribute [local irreducible] Go.Sy.G Go.Sy.DR
set_option maxRecDepth 100000
set_option maxHeartbeats 4000000
def okB (n:Net) (up:List Bool):Bool:=decide (up.length = n.links.length) && (Af n && Cm n)
theorem ok_iff {n:Net} {up:List Bool}:okB n up = true ↔ up.length = n.links.length ∧ Af n = true ∧ Cm n = true:=by simp [okB]
def Tl (n:Net) (up:List Bool):List Int:=(J9 n up (Cy n)).2.1
def Uz (n:Net) (up:List Bool):List Int:=(J9 n up (Cy n)).2.2
def Xf (n:Net) (up:List Bool):SV:=J5 n up (Cy n) (Tl n up) (Uz n up)
theorem Ajm (n:Net) (up:List Bool) (hn:n.Fin) (h:okB n up = false):Sy.Spec Tryz.prog 84 [At n,.sl 1 Ad up] [] (.tup [.val (.pointer none),Aa 2]) []:=Ab Γ hm 100 F84 Tryz.ntmps84 rfl fun F hF=>by
 have h':¬ (up.length = n.links.length ∧ Af n = true ∧ Cm n = true):=fun hh=>by rw [ok_iff.2 hh] at h; cases h
 conv=>whnf
 (repeat' (first | (refine ⟨fun h=>?_,fun h=>?_⟩ <;> (repeat (first | simp only [bne_iff_ne] at h | simp only [bne_eq_false_iff_eq] at h | simp only [Bool.not_eq_true'] at h | simp only [Bool.not_eq_false'] at h)) <;> ((refine rg ?_);(conv=>whnf);repeat((refine aT ?_);(refine rg ?_);(conv=>whnf)))) | (refine Ag (Bf n hn) F67 rfl rfl rfl rfl rfl ?_; ((refine rg ?_);(conv=>whnf))) | (refine Ag (Aih n hn.ports) F155 rfl rfl rfl rfl rfl ?_; ((refine rg ?_);(conv=>whnf))) | refine Ac rfl (.cons .tmp (.cons .tmp .nil)) rfl rfl))
 all_goals exact absurd ⟨by omega,by assumption,by assumption⟩ h'
def Jz (m j:Nat):List Int:=List.replicate j (-1) ++ List.replicate (m - j) 0
theorem Ace (m:Nat):Jz m 0 = List.replicate m 0:=by simp [Jz]
theorem Afh (m:Nat):Jz m m = List.replicate m (-1):=by simp [Jz]
theorem Xw (m j:Nat) (h:j ≤ m):(Jz m j).length = m:=by simp [Jz]; omega
theorem Acf (m j:Nat) (h:j < m):Jz m (j + 1) = (Jz m j).set j (-1):=by
 have e:m - j = (m - (j + 1)) + 1:=by omega
 rw [Jz,Jz,e,List.set_append_right _ _ (by simp),List.length_replicate,Nat.sub_self,List.replicate_succ' (n:=j),List.replicate_succ (n:=m - (j + 1))]
 simp
theorem openOK (n:Net) (up:List Bool) (hn:n.Fin) (hu:up.length = n.links.length) (hr:Af n = true) (hcost:Cm n = true):Sy.Spec Tryz.prog 84 [At n,.sl 1 Ad up] [] (.tup [Xf n up,Aa 0]) []:=Ab Γ hm 100 F84 Tryz.ntmps84 rfl fun F hF=>by
 have hf:=Dc hr
 have hrt:=Bf n hn
 have hct:=Aih n hn.ports
 have hrs:=ranksS n hn
 rw [hr] at hrt
 rw [hcost] at hct
 rw [hr,if_pos rfl] at hrs
 have hrk:=Ik n
 have hrr:∀ r ∈ Cy n,0 ≤ r:=fun r h=>(Qz n r h).1
 have hsv:Xf n up = J5 n up (Cy n) (J9 n up (Cy n)).2.1 (J9 n up (Cy n)).2.2:=rfl
 rw [hsv]
 generalize Cy n = ranks at *
 have hreach:=fun D hD=>reachS n up ranks (List.replicate n.devices.length (-1)) (List.replicate n.devices.length 0) hr hu hcost hrk (by simp) (by simp) hrr D hD
 have hRT:E7 n up (C5 ranks ranks.length,List.replicate n.devices.length (-1),List.replicate n.devices.length 0) = J9 n up ranks:=rfl
 generalize J9 n up ranks = D at *
 have hreach:=hreach D hRT
 clear hRT hsv
 conv=>whnf
 refine ⟨fun h=>absurd h (by simp [hu]),fun h=>?_⟩
 refine rg ?_;conv=>whnf
 refine Ag hrt F67 E E E E E ?_
 (refine rg ?_;(conv=>whnf);refine aF ?_;refine rg ?_;conv=>whnf)
 refine Ag hct F155 E E E E E ?_
 (refine rg ?_;(conv=>whnf);refine aF ?_;refine rg ?_;conv=>whnf)
 refine Ay hrs F156 E E E (by kernel_rfl) E ?_
 refine rd (by kernel_rfl) ?_;conv=>whnf
 refine Bo (Bt Γ.toTy (d:=31) (n:=n.devices.length) Aa 0 E E E E E E E E (by omega) (by omega) E E E) (by kernel_rfl) E ?_
 refine rd (by kernel_rfl) ?_;conv=>whnf
 refine Bo (Bt Γ.toTy (d:=35) (n:=n.devices.length) Aa 0 E E E E E E E E (by omega) (by omega) E E E) (by kernel_rfl) E ?_
 refine rd (by kernel_rfl) ?_;conv=>whnf
 refine ⟨(by kernel_rfl),?_⟩
 conv=>whnf
 refine A0 n.devices.length (fun j=>[(6,.ptr 37 0),(42,Aa (List.replicate n.devices.length (0:Int)).length),(43,Aa j)]) (fun j=>[(37,.box (Ln n up ranks (.osl 31) (.osl 35))),(31,.row 1 Aa (Jz n.devices.length j)),(35,.row 1 Aa (List.replicate n.devices.length 0))]) []
  ⟨⟨rfl,rfl,rfl,rfl,rfl,rfl,trivial⟩,⟨.inl rfl,rfl,.inl (by rw [Ace]; rfl),rfl,.inl rfl,rfl,trivial⟩,rfl,rfl⟩ ?_
 intro j hj
 have hlen:=Xw n.devices.length j hj
 refine rg ?_;conv=>whnf
 refine ⟨fun h=>?_,fun h=>?_⟩
 ·have hlt:j < n.devices.length:=by simpa using h
  have hsucc:=Acf n.devices.length j hlt
  generalize Jz n.devices.length j = u at *
  refine rg ?_;conv=>whnf
  refine ⟨by omega,by omega,?_⟩
  conv=>whnf
  refine ⟨E,by omega,-1,E,E,?_⟩
  conv=>whnf
  refine ⟨by unfold I64; omega,?_⟩
  conv=>whnf
  exact Aq [] hlt ⟨⟨E,E,E,E,E,E,Y⟩,⟨.inl E,E,.inl (congrArg (Ob.row 1 Aa) hsucc),E,.inl E,E,Y⟩,E,E⟩
 have hjl:j = n.devices.length:=by
  have:¬ j < n.devices.length:=by simpa using h
  omega
 subst hjl
 have hall:=Afh n.devices.length
 rw [← hall] at hreach
 refine rg ?_;conv=>whnf
 refine Ah (Ai [(0,37),(1,31),(2,35)] E F157 hreach E ⟨E,E,E,Y⟩ E ⟨.inl E,.inl E,.inl E,Y⟩) E E ?_
 refine Ar 31 E ?_
 refine Ar 35 E ?_
 refine By 37 12 (.agg (Ln n up ranks (.sl 1 Aa D.2.1) (.sl 1 Aa D.2.2))) E E E ?_
 refine rg ?_;conv=>whnf
 exact Ac E (.cons .tmp (.cons .tmp .nil)) E E
theorem Yn {n:Net} {up:List Bool} (h:okB n up = true):Solved n up (Cy n) (Tl n up) (Uz n up):=by
 obtain ⟨hu,hr,hcost⟩:=ok_iff.1 h
 exact U9 n up (Cy n) hr hcost (Ik n) (fun r h=>(Qz n r h).1)
def W2 (n:Net) (up:List Bool):List Int:=rolesL n up (Cy n) (Tl n up) (Uz n up)
def fwdT (n:Net) (up:List Bool):List Bool:=fwdL n (W2 n up)
theorem U8 (n:Net) (up:List Bool):(W2 n up).length = n.ports.length:=Ex ..
theorem Abp (n:Net) (up:List Bool) (h:okB n up = true):Sy.Spec Tryz.prog 85 [Xf n up] [] (.sl 1 Aa (W2 n up)) []:=by
 obtain ⟨hu,hr,hcost⟩:=ok_iff.1 h
 have S:=Yn h
 exact rolesS n up (Cy n) (Tl n up) (Uz n up) hr hu hcost (Ik n) S.rootsL S.costsL (fun c hc=>by have:=S.bound c hc; omega)
theorem Uk (n:Net) (up:List Bool) (hn:n.Fin) (h:okB n up = false):Sy.Spec Tryz.prog 44 [At n,.sl 1 Ad up] [] (.tup [.sl 1 Ad [],Aa 2]) []:=Ab Γ hm 100 F44 Tryz.ntmps44 rfl fun F hF=>by
 conv=>whnf
 refine Ag (Ajm n up hn h) F84 E E E E E ?_
 (refine rg ?_;(conv=>whnf);refine aT ?_;refine rg ?_;conv=>whnf)
 refine Ao 4 1 Ad E ?_
 exact Ac E (.cons .tmp (.cons .tmp .nil)) E E
def Sw (n:Net) (roles:List Int) (j:Nat):List Bool:=(n.links.take j).map (Ah5 roles) ++ List.replicate (n.links.length - j) false
theorem Afe (n:Net) (roles:List Int):Sw n roles 0 = List.replicate n.links.length false:=by simp [Sw]
theorem Ah4 (n:Net) (roles:List Int):Sw n roles n.links.length = fwdL n roles:=by simp [Sw,fwdL]
theorem Z6 (n:Net) (roles:List Int) (j:Nat) (h:j ≤ n.links.length):(Sw n roles j).length = n.links.length:=by simp [Sw]; omega
theorem Aff (n:Net) (roles:List Int) (j:Nat) (h:j < n.links.length):Sw n roles (j + 1) = (Sw n roles j).set j (Ah5 roles n.links[j]):=by
 have e:n.links.length - j = (n.links.length - (j + 1)) + 1:=by omega
 have el:((n.links.take j).map (Ah5 roles)).length = j:=by simp; omega
 rw [Sw,Sw,List.set_append_right _ _ (by omega),el,Nat.sub_self,List.take_succ_eq_append_getElem h,List.map_append,e,List.replicate_succ,List.set_cons_zero]
 simp
theorem Wh (n:Net) (up:List Bool) (hn:n.Fin) (h:okB n up = true):Sy.Spec Tryz.prog 44 [At n,.sl 1 Ad up] [] (.tup [.sl 1 Ad (fwdT n up),Aa 0]) []:=Ab Γ hm 100 F44 Tryz.ntmps44 rfl fun F hF=>by
 obtain ⟨hu,hr,hcost⟩:=ok_iff.1 h
 have hf:=Dc hr
 have ho:=openOK n up hn hu hr hcost
 have hro:=Abp n up h
 have hrl:=U8 n up
 rw [fwdT]
 generalize W2 n up = roles at *
 unfold Xf at ho hro
 generalize Cy n = ranks at *
 generalize Tl n up = roots at *
 generalize Uz n up = costs at *
 conv=>whnf
 refine Ag ho F84 E E E E E ?_
 (refine rg ?_;(conv=>whnf);refine aF ?_;refine rg ?_;conv=>whnf)
 refine Ag hro F85 E E E E E ?_
 refine rg ?_;conv=>whnf
 refine Ah (Bt Γ.toTy (d:=27) (n:=n.links.length) Ad false E E E E E E E E (by omega) (by omega) E E E) E E ?_
 rw [← Afe n roles]
 refine rg ?_;conv=>whnf
 refine A0 n.links.length (fun j=>[(8,.sl 1 Aa roles),(9,.osl 27),(29,.sl 3 Cj n.links),(30,Aa n.links.length),(31,Aa j)]) (fun j=>[(27,.row 1 Ad (Sw n roles j))]) []
  ⟨⟨rfl,rfl,rfl,rfl,rfl,rfl,rfl,rfl,rfl,rfl,trivial⟩,⟨.inl rfl,rfl,trivial⟩,rfl,rfl⟩ ?_
 intro j hj
 have hall:=Ah4 n roles
 refine rg ?_;conv=>whnf
 refine ⟨fun h=>?_,fun h=>?_⟩
 ·have hlt:j < n.links.length:=by simpa using h
  have he:=I1 hr hlt
  have e1:n.links[(j:Int).toNat]'(by omega) = n.links[j]:=rfl
  have hlen:=Z6 n roles j hj
  have hsucc:=Aff n roles j hlt
  generalize Sw n roles j = u at *
  generalize n.links[j] = l at *
  rw [Ah5,An (l:=roles) (i:=l.a) (by omega),An (l:=roles) (i:=l.b) (by omega)] at hsucc
  refine rg ?_;conv=>whnf
  refine ⟨E,by omega,by omega,?_⟩
  rw [e1]
  conv=>whnf
  refine ⟨E,by omega,by omega,?_⟩
  conv=>whnf
  refine ⟨E,by omega,by omega,?_⟩
  conv=>whnf
  refine ⟨(by kernel_rfl),?_⟩
  conv=>whnf
  have hA:0 ≤ l.a ∧ l.a < roles.length:=by omega
  have hB:0 ≤ l.b ∧ l.b < roles.length:=by omega
  obtain ⟨x,hx⟩:∃ x,roles[l.a.toNat]'(by omega) = x:=⟨_,rfl⟩
  obtain ⟨y,hy⟩:∃ y,roles[l.b.toNat]'(by omega) = y:=⟨_,rfl⟩
  rw [hx,hy] at hsucc
  refine Aay 46 (e:=Aa) (l:=[x,y]) E (by rw [← hx,← hy]; rfl) ?_
  refine Ar 46 E ?_
  refine Ag (C0 [x,y] 1 (by unfold Am; simp)) F86 E E E E E ?_
  refine rg ?_;conv=>whnf
  refine ⟨fun h1=>?_,fun h1=>?_⟩
  ·rw [h1,Bool.true_and] at hsucc
   refine rg ?_;conv=>whnf
   refine Ag (C0 [x,y] 2 (by unfold Am; simp)) F86 E E E E E ?_
   refine rg ?_;conv=>whnf
   refine ⟨by omega,by omega,?_⟩
   conv=>whnf
   refine ⟨E,by omega,inB [x,y] 2,E,E,?_⟩
   conv=>whnf
   refine ⟨by unfold I64; omega,?_⟩
   conv=>whnf
   exact Aq [] hlt ⟨⟨E,E,E,E,E,E,E,E,E,E,Y⟩,⟨.inl (congrArg (Ob.row 1 Ad) hsucc),E,Y⟩,E,E⟩
  ·rw [h1,Bool.false_and] at hsucc
   refine rg ?_;conv=>whnf
   refine ⟨by omega,by omega,?_⟩
   conv=>whnf
   refine ⟨E,by omega,false,E,E,?_⟩
   conv=>whnf
   refine ⟨by unfold I64; omega,?_⟩
   conv=>whnf
   exact Aq [] hlt ⟨⟨E,E,E,E,E,E,E,E,E,E,Y⟩,⟨.inl (congrArg (Ob.row 1 Ad) hsucc),E,Y⟩,E,E⟩
 have hjl:j = n.links.length:=by
  have:¬ j < n.links.length:=by simpa using h
  omega
 subst hjl
 rw [← hall]
 refine rg ?_;conv=>whnf
 refine Ar 27 E ?_
 exact Ac E (.cons .tmp (.cons .tmp .nil)) E E
end Go.Sy.YtmelpejjondedaaGreat
namespace Go.Sy.YtmelpejjondedaaGreat
open Go.Proofs
structure MacM where
 up:List Bool
 tables:List (List EntryM)
 queues:List (List QueuedM)
 now:Int
 injected:Int
 drops:Nat → Int
def Bv (m:MacM) (e:Int):MacM:=⟨m.up,m.tables,m.queues,m.now,m.injected,fun i=>if i = e.toNat then m.drops i + 1 else m.drops i⟩
def queueL (m:MacM) (dom:Int):List QueuedM:=(m.queues[dom.toNat]?).getD []
def tableL (m:MacM) (dom:Int):List EntryM:=(m.tables[dom.toNat]?).getD []
def Aeg (m:MacM) (dom:Int) (l:List QueuedM):MacM:=⟨m.up,m.tables,m.queues.set dom.toNat l,m.now,m.injected,m.drops⟩
def Dk (m:MacM) (dom:Int) (t:List EntryM):MacM:=⟨m.up,m.tables.set dom.toNat t,m.queues,m.now,m.injected,m.drops⟩
def comeM (m:MacM) (dom:Int) (q:QueuedM) (e:Int):MacM :=
 if e ≠ 0 then Bv m e else if (pushT (queueL m dom) q).2 = true then Aeg m dom (pushT (queueL m dom) q).1 else Bv m 3
def takeM (m:MacM) (dom at_:Int):MacM × QueuedM × Bool :=
 if Aj dom m.queues.length = false then (m,noQ,false)
 else (Aeg m dom (takeT (queueL m dom) at_).2.1,(takeT (queueL m dom) at_).1,(takeT (queueL m dom) at_).2.2)
def injectT (n:Net) (m:MacM) (port:Int) (b:List UInt8):MacM :=
 if Aj port n.ports.length = false ∨ 0 ≤ (nth n.ports port).link then m
 else comeM ⟨m.up,m.tables,m.queues,m.now,m.injected + 1,m.drops⟩ (enterT n port b).1 ⟨port,0,m.injected + 1,(enterT n port b).2.1⟩ (enterT n port b).2.2
def goesM (n:Net) (m:MacM) (o:OutM) (origin:Int):MacM × List SeenM :=
 if o.kind = 1 then (m,[⟨o.port,origin,o.bytes⟩])
 else if o.kind = 2 then (comeM m (linkT n o.port o.bytes).2.1 ⟨(linkT n o.port o.bytes).1,0,origin,(linkT n o.port o.bytes).2.2.1⟩ (linkT n o.port o.bytes).2.2.2,[])
 else if o.kind = 3 then (comeM m (comeT n o.bytes).2.1 ⟨-1,(comeT n o.bytes).1,origin,(comeT n o.bytes).2.2.1⟩ (comeT n o.bytes).2.2.2,[])
 else if o.kind = 4 then (comeM m o.domain ⟨-2,0,origin,o.frame⟩ 0,[])
 else (Bv m o.error,[])
def Bg (n:Net) (m:MacM) (origin:Int):List OutM → MacM × List SeenM
 | []=>(m,[])
 | o :: l=>((Bg n (goesM n m o origin).1 origin l).1,(goesM n m o origin).2 ++ (Bg n (goesM n m o origin).1 origin l).2)
def I4 (n:Net) (up:List Bool):List Bool:=if okB n up = true then fwdT n up else []
def Ze (n:Net) (m:MacM) (dom:Int) (q:QueuedM):List EntryM × List OutM × Int:=bridgeT n (I4 n m.up) (tableL m dom) dom q m.now
def M0 (m:MacM) (dom:Int) (r:List EntryM × List OutM × Int):MacM :=
 if r.2.2 = 2 then Bv m 2 else if r.2.2 ≠ 0 then Bv (Dk m dom r.1) r.2.2 else Dk m dom r.1
def pickT (n:Net) (m:MacM) (dom at_:Int):MacM × List SeenM :=
 if (takeM m dom at_).2.2 = false then ((takeM m dom at_).1,[])
 else Bg n (M0 (takeM m dom at_).1 dom (Ze n (takeM m dom at_).1 dom (takeM m dom at_).2.1)) (takeM m dom at_).2.1.origin (Ze n (takeM m dom at_).1 dom (takeM m dom at_).2.1).2.1
def Lm (m:MacM):MacM :=
 let now:=min (m.now + 1) 1099511627776
 ⟨m.up,m.tables.map (fun t=>ageT t now),m.queues,now,m.injected,m.drops⟩
def doT (n:Net) (m:MacM) (x:StepM):MacM × List SeenM :=
 if x.kind = 1 then (injectT n m x.port x.bytes,[])
 else if x.kind = 2 then pickT n m x.domain x.at_
 else if x.kind = 3 then ((takeM m x.domain x.at_).1,[])
 else if x.kind = 4 then (Lm m,[])
 else if x.kind = 5 then ((if x.up.length = n.links.length then ⟨x.up,m.tables,m.queues,m.now,m.injected,m.drops⟩ else m),[])
 else (m,[])
def newT (n:Net):MacM:=⟨List.replicate n.links.length true,List.replicate n.domains.length [],List.replicate n.domains.length [],0,0,fun _=>0⟩
def Dq (n:Net):MacM → List StepM → MacM × List SeenM
 | m,[]=>(m,[])
 | m,x :: l=>((Dq n (doT n m x).1 l).1,(doT n m x).2 ++ (Dq n (doT n m x).1 l).2)
end Go.Sy.YtmelpejjondedaaGreat
