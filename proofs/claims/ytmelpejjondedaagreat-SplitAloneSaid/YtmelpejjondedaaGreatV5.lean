/-
  K4 K5 D0 K6 K7 K26 Sy24 T1 T2 T3 T4 V6 V7 V8 T5 T6 T7 T8 T9 T10 T11 T12 T13 T15 T16 T17 T14 T19: parts of a proof, joined by program.
-/
import Derived.Test.YtmelpejjondedaaGreatV4
import Derived.Test.YtmelpejjondedaaGreatV3
namespace Go.Sy.YtmelpejjondedaaGreat
open Go.Proofs
attribute [local irreducible] Go.Sy.G Go.Sy.DR
set_option maxRecDepth 100000
set_option maxHeartbeats 4000000
theorem takeF_bad {b:List UInt8} (h:(takeF b).2 ≠ 0):(takeF b).1 = noF:=by
 unfold takeF at h ⊢
 split
 ·rfl
 rw [if_neg (by assumption)] at h
 split
 ·rfl
 rw [if_neg (by assumption)] at h
 exact absurd E h
theorem Zh {b:List UInt8} (h:(takeF b).2 = 0):FrameOK (takeF b).1:=by
 unfold takeF at h ⊢
 split
 ·rw [if_pos (by assumption)] at h; cases h
 rw [if_neg (by assumption)] at h
 split
 ·rw [if_pos (by assumption)] at h; cases h
 rename_i h1 h2
 have l1:((b.take 6).length) = 6:=by rw [List.length_take]; omega
 have l2:(((b.drop 6).take 6).length) = 6:=by rw [List.length_take,List.length_drop]; omega
 have l3:(((b.drop 12).take 2).length) = 2:=by rw [List.length_take,List.length_drop]; omega
 have a1:=Jo _ _ l1
 have a2:=Jo _ _ l2
 have a3:=Jo _ _ l3
 refine ⟨a1,a2,?_,?_⟩
 ·dsimp only; exact Nat.le_of_lt_succ a3
 ·dsimp only; rw [List.length_drop]; omega
theorem Ahq {f:FrameM} (hf:FrameOK f) (h:(stripT f).2.2.2 = 0):FrameOK (stripT f).1:=by
 unfold stripT at h ⊢
 split
 ·rw [if_pos (by assumption)] at h; cases h
 rw [if_neg (by assumption)] at h
 split
 ·rw [if_pos (by assumption)] at h; cases h
 rw [if_neg (by assumption)] at h
 split
 ·rw [if_pos (by assumption)] at h; cases h
 rename_i h1 h2 h3
 have l3:(((f.body.drop 2).take 2).length) = 2:=by rw [List.length_take,List.length_drop]; omega
 have a3:=Jo _ _ l3
 have hb:=hf.body
 refine ⟨hf.dst,hf.src,?_,?_⟩
 ·dsimp only; exact Nat.le_of_lt_succ a3
 ·dsimp only; rw [List.length_drop]; omega
theorem strip_bad {f:FrameM} (h:(stripT f).2.2.2 ≠ 0):(stripT f).1 = noF ∧ (stripT f).2.1 = 0:=by
 unfold stripT at h ⊢
 split
 ·exact ⟨E,E⟩
 rw [if_neg (by assumption)] at h
 split
 ·exact ⟨E,E⟩
 rw [if_neg (by assumption)] at h
 split
 ·exact ⟨E,E⟩
 rw [if_neg (by assumption)] at h
 exact absurd E h
theorem Aa4 (n:Net) (hn:n.Fin) (port:Int) (b:List UInt8) (hb:b.length < 100000) :
  Sy.Spec Tryz.prog 100 [Aq n,Aa port,.sl 1 Al b] [] (.tup [Aa (enterT n port b).1,By (enterT n port b).2.1,Aa (enterT n port b).2.2]) []:=Ab Γ hm 100 F100 Tryz.ntmps100 rfl fun F hF=>by
 have hres:=enterT.eq_1 n port b
 generalize enterT n port b = res at *
 have hr:=Bm n hn
 conv=>whnf
 by_cases hneg:port < 0
 ·rw [if_pos (.inl (by rw [Aj,decide_eq_false (by omega)]; rfl))] at hres
  subst hres
  (refine ⟨fun _=>?_,fun h=>False.elim (by simp at h; omega)⟩;refine rg ?_;(conv=>whnf);refine aT ?_;refine rg ?_;(conv=>whnf);refine aT ?_;refine rg ?_;conv=>whnf)
  refine A1 7 zF E (.cons (.refl _) (.cons (.refl _) (.cons (.refl _) (.cons .nil .nil)))) ?_
  exact Ac E (.cons .tmp (.cons (.cell E E E E) (.cons .tmp .nil))) E E
 refine ⟨fun h=>absurd (of_decide_eq_true h) hneg,fun _=>?_⟩
 refine B1 3 8 (Aq n) E E E ?_
 by_cases hge:(n.ports.length:Int) ≤ port
 ·rw [if_pos (.inl (by rw [Aj,decide_eq_false (by omega:¬ port < _),Bool.and_false]))] at hres
  subst hres
  refine rg ?_;conv=>whnf
  (refine ⟨fun _=>?_,fun h=>False.elim (by simp at h; omega)⟩;refine rg ?_;(conv=>whnf);refine aT ?_;refine rg ?_;conv=>whnf)
  refine A1 7 zF E (.cons (.refl _) (.cons (.refl _) (.cons (.refl _) (.cons .nil .nil)))) ?_
  exact Ac E (.cons .tmp (.cons (.cell E E E E) (.cons .tmp .nil))) E E
 have hpl:Aj port n.ports.length = true:=by rw [Aj,decide_eq_true (by omega),decide_eq_true (by omega)]; rfl
 refine rg ?_;conv=>whnf
 (refine ⟨fun h=>False.elim (by simp at h; omega),fun _=>?_⟩;refine rg ?_;conv=>whnf)
 refine Ag hr F67 E E E E E ?_
 cases hbn:Af n
 ·rw [if_pos (.inr hbn)] at hres
  subst hres
  (refine rg ?_;(conv=>whnf);refine aT ?_;refine rg ?_;conv=>whnf)
  refine A1 7 zF E (.cons (.refl _) (.cons (.refl _) (.cons (.refl _) (.cons .nil .nil)))) ?_
  exact Ac E (.cons .tmp (.cons (.cell E E E E) (.cons .tmp .nil))) E E
 rw [if_neg (by simp [hbn,hpl])] at hres
 have hp0:0 ≤ port:=by omega
 have hk:port.toNat < n.ports.length:=by omega
 have e1:nth n.ports port = n.ports[port.toNat]:=An hk
 have hsh:=hn.tagged _ (List.getElem_mem hk)
 obtain ⟨p,hp⟩:∃ p,n.ports[port.toNat]'hk = p:=⟨_,rfl⟩
 rw [hp] at e1 hsh
 have qt:=My b hb
 have hto:=@Zh b
 have htb:=@takeF_bad b
 generalize takeF b = tf at *
 obtain ⟨f,e⟩:=tf
 dsimp only at hres qt hto htb
 have qi:=Lf f
 (refine rg ?_;(conv=>whnf);refine aF ?_;refine rg ?_;conv=>whnf)
 refine Ag qt F165 E E E E E ?_
 refine rg ?_;conv=>whnf
 refine Ag qi F166 E E E E E ?_
 by_cases he:e = 0
 rotate_left
 ·rw [if_pos he] at hres
  subst hres
  obtain rfl:=htb he
  refine rg ?_;conv=>whnf
  (refine ⟨fun h=>False.elim (by simp at h; omega),fun _=>?_⟩;refine rg ?_;(conv=>whnf);refine aF ?_;refine rg ?_;conv=>whnf)
  (refine ⟨fun h=>False.elim (by simp at h; omega),fun _=>?_⟩;refine rg ?_;(conv=>whnf);refine aF ?_;refine rg ?_;conv=>whnf)
  refine ⟨E,hp0,hk,?_⟩
  rw [hp]
  conv=>whnf
  refine Ag (J6 p false 0 hsh) F168 E E E E E ?_
  refine rg ?_;conv=>whnf
  (refine ⟨fun h=>False.elim (by simp at h; omega),fun _=>?_⟩;refine rg ?_;(conv=>whnf);refine aF ?_;refine rg ?_;(conv=>whnf);refine ⟨fun _=>?_,fun h=>False.elim (by simp at h; omega)⟩;refine rg ?_;conv=>whnf)
  refine A1 7 zF E (.cons (.refl _) (.cons (.refl _) (.cons (.refl _) (.cons .nil .nil)))) ?_
  exact Ac E (.cons .tmp (.cons (.cell E E E E) (.cons .tmp .nil))) E E
 subst he
 rw [if_neg (by decide)] at hres
 have hfo:=hto rfl
 by_cases ht:f.typ = 33024
 ·rw [if_pos ht] at hres
  rw [decide_eq_true ht]
  have qs:=Ae8 f (by have:=hfo.body; omega)
  have hso:=@Ahq f hfo
  have hsb:=@strip_bad f
  generalize stripT f = st at *
  obtain ⟨g,vid,prio,e2⟩:=st
  dsimp only at hres qs hso hsb
  (refine rg ?_;(conv=>whnf);refine aT ?_;refine rg ?_;(conv=>whnf);refine aT ?_;refine rg ?_;conv=>whnf)
  refine Ag qs F167 E E E E E ?_
  by_cases he2:e2 = 0
  rotate_left
  ·rw [if_pos he2] at hres
   subst hres
   obtain ⟨rfl,rfl⟩:=hsb he2
   refine rg ?_;conv=>whnf
   (refine ⟨fun h=>False.elim (by simp at h; omega),fun _=>?_⟩;refine rg ?_;(conv=>whnf);refine aF ?_;refine rg ?_;conv=>whnf)
   refine ⟨E,hp0,hk,?_⟩
   rw [hp]
   conv=>whnf
   refine Ag (J6 p true 0 hsh) F168 E E E E E ?_
   refine rg ?_;conv=>whnf
   (refine ⟨fun h=>False.elim (by simp at h; omega),fun _=>?_⟩;refine rg ?_;(conv=>whnf);refine aF ?_;refine rg ?_;(conv=>whnf);refine ⟨fun _=>?_,fun h=>False.elim (by simp at h; omega)⟩;refine rg ?_;conv=>whnf)
   refine A1 7 zF E (.cons (.refl _) (.cons (.refl _) (.cons (.refl _) (.cons .nil .nil)))) ?_
   exact Ac E (.cons .tmp (.cons (.cell E E E E) (.cons .tmp .nil))) E E
  subst he2
  rw [if_neg (by decide)] at hres
  have hgo:=hso rfl
  have hgs:=hgo.src
  have qg:=Jc g.src (by omega)
  rw [If,e1] at hres
  have qv:=J6 p true vid hsh
  have qd:=Oq n hn p.dev (vlanT p true vid).1
  (refine rg ?_;(conv=>whnf);refine aT ?_;refine rg ?_;conv=>whnf)
  refine Ag qg F162 E E E E E ?_
  cases hgb:E4 g.src
  rotate_left
  ·rw [if_pos hgb] at hres
   subst hres
   (refine rg ?_;(conv=>whnf);refine aT ?_;refine rg ?_;conv=>whnf)
   refine ⟨E,hp0,hk,?_⟩
   rw [hp]
   conv=>whnf
   refine Ag qv F168 E E E E E ?_
   (refine rg ?_;(conv=>whnf);refine aF ?_;refine rg ?_;(conv=>whnf);refine aF ?_;refine rg ?_;(conv=>whnf);refine aT ?_;refine rg ?_;conv=>whnf)
   (skip)
   refine A1 7 zF E (.cons (.refl _) (.cons (.refl _) (.cons (.refl _) (.cons .nil .nil)))) ?_
   exact Ac E (.cons .tmp (.cons (.cell E E E E) (.cons .tmp .nil))) E E
  rw [if_neg (by simp [hgb])] at hres
  (refine rg ?_;(conv=>whnf);refine aF ?_;refine rg ?_;conv=>whnf)
  refine ⟨E,hp0,hk,?_⟩
  rw [hp]
  conv=>whnf
  refine Ag qv F168 E E E E E ?_
  generalize vlanT p true vid = vl at *
  obtain ⟨vl,vok⟩:=vl
  dsimp only at hres qd ⊢
  cases vok
  ·rw [if_pos rfl] at hres
   subst hres
   (refine rg ?_;(conv=>whnf);refine aT ?_;refine rg ?_;(conv=>whnf);refine aT ?_;refine rg ?_;(conv=>whnf);refine aT ?_;refine rg ?_;conv=>whnf)
   refine A1 7 zF E (.cons (.refl _) (.cons (.refl _) (.cons (.refl _) (.cons .nil .nil)))) ?_
   exact Ac E (.cons .tmp (.cons (.cell E E E E) (.cons .tmp .nil))) E E
  rw [if_neg (by simp)] at hres
  subst hres
  (refine rg ?_;(conv=>whnf);refine aT ?_;refine rg ?_;(conv=>whnf);refine aF ?_;refine rg ?_;(conv=>whnf);refine aF ?_;refine rg ?_;conv=>whnf)
  refine Ay qd F169 E E E (by kernel_rfl) E ?_
  refine rd (by kernel_rfl) ?_;conv=>whnf
  refine ⟨(by kernel_rfl),?_⟩
  conv=>whnf
  exact Ac E (.cons .tmp (.cons (.cell E E E E) (.cons .tmp .nil))) E E
 ·rw [if_neg ht] at hres
  rw [decide_eq_false ht]
  have hgo:=hfo
  have hgs:=hgo.src
  have qg:=Jc f.src (by omega)
  rw [If,e1] at hres
  have qv:=J6 p false 0 hsh
  have qd:=Oq n hn p.dev (vlanT p false 0).1
  (refine rg ?_;(conv=>whnf);refine aT ?_;refine rg ?_;(conv=>whnf);refine aF ?_;refine rg ?_;(conv=>whnf);refine aT ?_;refine rg ?_;conv=>whnf)
  refine Ag qg F162 E E E E E ?_
  cases hgb:E4 f.src
  rotate_left
  ·rw [if_pos hgb] at hres
   subst hres
   (refine rg ?_;(conv=>whnf);refine aT ?_;refine rg ?_;conv=>whnf)
   refine ⟨E,hp0,hk,?_⟩
   rw [hp]
   conv=>whnf
   refine Ag qv F168 E E E E E ?_
   (refine rg ?_;(conv=>whnf);refine aF ?_;refine rg ?_;(conv=>whnf);refine aF ?_;refine rg ?_;(conv=>whnf);refine aT ?_;refine rg ?_;conv=>whnf)
   (skip)
   refine A1 7 zF E (.cons (.refl _) (.cons (.refl _) (.cons (.refl _) (.cons .nil .nil)))) ?_
   exact Ac E (.cons .tmp (.cons (.cell E E E E) (.cons .tmp .nil))) E E
  rw [if_neg (by simp [hgb])] at hres
  (refine rg ?_;(conv=>whnf);refine aF ?_;refine rg ?_;conv=>whnf)
  refine ⟨E,hp0,hk,?_⟩
  rw [hp]
  conv=>whnf
  refine Ag qv F168 E E E E E ?_
  generalize vlanT p false 0 = vl at *
  obtain ⟨vl,vok⟩:=vl
  dsimp only at hres qd ⊢
  cases vok
  ·rw [if_pos rfl] at hres
   subst hres
   (refine rg ?_;(conv=>whnf);refine aT ?_;refine rg ?_;(conv=>whnf);refine aT ?_;refine rg ?_;(conv=>whnf);refine aT ?_;refine rg ?_;conv=>whnf)
   refine A1 7 zF E (.cons (.refl _) (.cons (.refl _) (.cons (.refl _) (.cons .nil .nil)))) ?_
   exact Ac E (.cons .tmp (.cons (.cell E E E E) (.cons .tmp .nil))) E E
  rw [if_neg (by simp)] at hres
  subst hres
  (refine rg ?_;(conv=>whnf);refine aT ?_;refine rg ?_;(conv=>whnf);refine aF ?_;refine rg ?_;(conv=>whnf);refine aF ?_;refine rg ?_;conv=>whnf)
  refine Ay qd F169 E E E (by kernel_rfl) E ?_
  refine rd (by kernel_rfl) ?_;conv=>whnf
  refine ⟨(by kernel_rfl),?_⟩
  conv=>whnf
  exact Ac E (.cons .tmp (.cons (.cell E E E E) (.cons .tmp .nil))) E E
theorem Bh {i:Int} {n:Nat} (h:Aj i n = true):0 ≤ i ∧ i < n:=by simpa [Aj] using h
end Go.Sy.YtmelpejjondedaaGreat
namespace Go.Sy.YtmelpejjondedaaGreat
open Go.Proofs
attribute [local irreducible] Go.Sy.G Go.Sy.DR
set_option maxRecDepth 20000
set_option maxHeartbeats 8000000
theorem Cb {i:Int} {n:Nat} (h:0 ≤ i ∧ i < n):Aj i n = true:=by simp only [Aj,Bool.and_eq_true,decide_eq_true_eq]; exact h
theorem Bw {i:Int} {n:Nat} (h:¬ (0 ≤ i ∧ i < n)):Aj i n = false:=by simp only [Aj,Bool.and_eq_false_iff,decide_eq_false_iff_not]; omega
end Go.Sy.YtmelpejjondedaaGreat
namespace Go.Sy.YtmelpejjondedaaGreat
open Go.Proofs
attribute [local irreducible] Go.Sy.G Go.Sy.DR
set_option maxRecDepth 100000
set_option maxHeartbeats 4000000
theorem Ip (i:Int) (n:Nat):Sy.Spec Tryz.prog 250 [Aa i,Aa n] [] (Ad (Aj i n)) []:=Ab Γ hm 100 F250 Tryz.ntmps250 rfl fun F hF=>by
 conv=>whnf
 (repeat' (first | (refine ⟨fun h=>?_,fun h=>?_⟩ <;> (repeat (first | simp only [decide_eq_true_eq] at h | simp only [decide_eq_false_iff_not] at h)) <;> ((refine rg ?_);(conv=>whnf))) | (refine Ac rfl (.cons .tmp .nil) ?_ rfl)))
 all_goals (refine congrArg Ad ?_)
 all_goals grind [Aj]
theorem Ac2 (n:Net) (f:FrameM) (h:FrameOK f) (v:Int):Sy.Spec Tryz.prog 252 [Aq n,By f,Aa v] [] (.tup [.sl 1 Al (Vq f),Aa 0]) []:=Ab Γ hm 100 F252 Tryz.ntmps252 rfl fun F hF=>by
 conv=>whnf
 refine Ai (Ah [(0,55)] E F33 (Lq f h) E Y E ⟨.inr E,Y⟩) E E ?_
 refine At 55 E ?_
 refine rg ?_;conv=>whnf
 exact Ac E (.cons .tmp (.cons .tmp .nil)) E E
theorem tag_ok {f:FrameM} (hf:FrameOK f) (v:Nat) (hv:v ≤ 4094) (h:(tagT f v).2 = 0):FrameOK (tagT f v).1:=by
 unfold tagT at h ⊢
 split
 ·rw [if_pos (by assumption)] at h; cases h
 rw [if_neg (by assumption)] at h
 split
 ·rw [if_pos (by assumption)] at h; cases h
 refine ⟨hf.dst,hf.src,?_,?_⟩
 ·show (33024:Nat) ≤ 65535; decide
 ·dsimp only; simp; omega
theorem Ye (n:Net) (f:FrameM) (h:FrameOK f) (v:Nat) (hv:v ≤ 4094) :
  Sy.Spec Tryz.prog 251 [Aq n,By f,Aa v] [] (.tup [.sl 1 Al (if (tagT f v).2 ≠ 0 then [] else Vq (tagT f v).1),Aa (if (tagT f v).2 ≠ 0 then (tagT f v).2 else 0)]) []:=by
 have q:=Ahn f v h hv
 have ho:=tag_ok h v hv
 generalize tagT f v = t at *
 obtain ⟨g,e⟩:=t
 dsimp only at q ho ⊢
 refine Ab Γ hm 100 F251 Tryz.ntmps251 E fun F hF=>by
  conv=>whnf
  refine Ag q F308 E E E E E ?_
  refine rg ?_;conv=>whnf
  by_cases he:e = 0
  ·subst he
   (refine ⟨fun h=>False.elim (absurd h (by decide)),fun _=>?_⟩;refine rg ?_;conv=>whnf)
   refine B1 8 4 (By g) E E E ?_
   refine rg ?_;conv=>whnf
   refine Ai (Ah [(0,55)] E F33 (Lq g (ho E)) E Y E ⟨.inr E,Y⟩) E E ?_
   refine At 55 E ?_
   refine rg ?_;conv=>whnf
   exact Ac E (.cons .tmp (.cons .tmp .nil)) E E
  ·rw [if_pos he,if_pos he]
   (refine ⟨fun _=>?_,fun h=>False.elim (by simp at h; omega)⟩;refine rg ?_;conv=>whnf)
   refine Ao 6 1 Al E ?_
   exact Ac E (.cons .tmp (.cons .tmp .nil)) E E
theorem Adm {n:Net} (h:Af n = true) {i:Nat} (hi:i < n.domains.length):1 ≤ n.domains[i].vlan ∧ n.domains[i].vlan ≤ 4094:=by
 simp only [Af,Bool.and_eq_true] at h
 have hb:Eo (La n) n.domains = true:=h.1.1.1.1.1.1.1.2
 have:=allB_iff.1 hb i hi
 simp only [La,Bool.and_eq_true,decide_eq_true_eq] at this
 omega
theorem Ai8 (n:Net) (hn:n.Fin) (port dom:Int) (f:FrameM) (h:FrameOK f) :
  Sy.Spec Tryz.prog 177 [Aq n,Aa port,Aa dom,By f] [] (.tup [.sl 1 Al (leaveT n port dom f).1,Aa (leaveT n port dom f).2]) []:=Ab Γ hm 100 F177 Tryz.ntmps177 rfl fun F hF=>by
 have hres:=leaveT.eq_1 n port dom f
 generalize leaveT n port dom f = res at *
 have hr:=Bm n hn
 have hpS:=Ip port n.ports.length
 have hdS:=Ip dom n.domains.length
 conv=>whnf
 refine Ag hpS F250 E E E E E ?_
 cases hpl:Aj port n.ports.length
 ·rw [if_pos (.inl hpl)] at hres
  subst hres
  (refine rg ?_;(conv=>whnf);refine aT ?_;refine rg ?_;(conv=>whnf);refine aT ?_;refine rg ?_;(conv=>whnf);refine aT ?_;refine rg ?_;conv=>whnf)
  refine Ao 8 1 Al E ?_
  exact Ac E (.cons .tmp (.cons .tmp .nil)) E E
 (refine rg ?_;(conv=>whnf);refine aF ?_;refine rg ?_;conv=>whnf)
 refine Ag hdS F250 E E E E E ?_
 cases hdl:Aj dom n.domains.length
 ·rw [if_pos (.inr (.inl hdl))] at hres
  subst hres
  (refine rg ?_;(conv=>whnf);refine aT ?_;refine rg ?_;(conv=>whnf);refine aT ?_;refine rg ?_;conv=>whnf)
  refine Ao 8 1 Al E ?_
  exact Ac E (.cons .tmp (.cons .tmp .nil)) E E
 (refine rg ?_;(conv=>whnf);refine aF ?_;refine rg ?_;conv=>whnf)
 refine Ag hr F67 E E E E E ?_
 cases hbn:Af n
 ·rw [if_pos (.inr (.inr hbn))] at hres
  subst hres
  (refine rg ?_;(conv=>whnf);refine aT ?_;refine rg ?_;conv=>whnf)
  refine Ao 8 1 Al E ?_
  exact Ac E (.cons .tmp (.cons .tmp .nil)) E E
 rw [if_neg (by simp [hbn,hpl,hdl])] at hres
 have hpi:=Bh hpl
 have hdi:=Bh hdl
 have hp0:0 ≤ port:=hpi.1
 have hd0:0 ≤ dom:=hdi.1
 have hk:port.toNat < n.ports.length:=by omega
 have hkd:dom.toNat < n.domains.length:=by omega
 have e1:nth n.ports port = n.ports[port.toNat]:=An hk
 have e2:nth n.domains dom = n.domains[dom.toNat]:=An hkd
 have hsh:=hn.tagged _ (List.getElem_mem hk)
 have hv:=Adm hbn hkd
 obtain ⟨p,hp⟩:∃ p,n.ports[port.toNat]'hk = p:=⟨_,rfl⟩
 obtain ⟨d,hd⟩:∃ d,n.domains[dom.toNat]'hkd = d:=⟨_,rfl⟩
 rw [hp] at e1 hsh
 rw [hd] at e2 hv
 rw [e1,e2] at hres
 have qm:=Yb p d.vlan hsh
 (refine rg ?_;(conv=>whnf);refine aF ?_;refine rg ?_;conv=>whnf)
 refine ⟨E,hp0,hk,E,hd0,hkd,?_⟩
 rw [hp,hd]
 conv=>whnf
 refine ⟨(by kernel_rfl),?_⟩
 conv=>whnf
 refine ⟨fun h1=>?_,fun h1=>?_⟩
 ·rw [if_pos (.inl (by simpa using h1))] at hres
  subst hres
  (refine rg ?_;(conv=>whnf);refine aT ?_;refine rg ?_;conv=>whnf)
  refine Ao 8 1 Al E ?_
  exact Ac E (.cons .tmp (.cons .tmp .nil)) E E
 refine B1 10 7 (A9 p) E E E ?_
 refine rg ?_;conv=>whnf
 refine Ag qm F198 E E E E E ?_
 cases hm1:J0 p d.vlan
 ·rw [if_pos (.inr hm1)] at hres
  subst hres
  (refine rg ?_;(conv=>whnf);refine aT ?_;refine rg ?_;conv=>whnf)
  refine Ao 8 1 Al E ?_
  exact Ac E (.cons .tmp (.cons .tmp .nil)) E E
 rw [if_neg (by simp at h1; simp [hm1,h1])] at hres
 have qt:=Lf f
 by_cases ht:f.typ = 33024
 ·rw [if_pos ht] at hres
  subst hres
  rw [decide_eq_true ht] at qt
  (refine rg ?_;(conv=>whnf);refine aF ?_;refine rg ?_;conv=>whnf)
  refine Ag qt F166 E E E E E ?_
  (refine rg ?_;(conv=>whnf);refine aT ?_;refine rg ?_;conv=>whnf)
  refine Ao 8 1 Al E ?_
  exact Ac E (.cons .tmp (.cons .tmp .nil)) E E
 rw [if_neg ht] at hres
 rw [decide_eq_false ht] at qt
 (refine rg ?_;(conv=>whnf);refine aF ?_;refine rg ?_;conv=>whnf)
 refine Ag qt F166 E E E E E ?_
 (refine rg ?_;(conv=>whnf);refine aF ?_;refine rg ?_;conv=>whnf)
 refine ⟨fun h2=>?_,fun h2=>?_⟩
 ·rw [if_pos (by simpa using h2)] at hres
  subst hres
  refine rg ?_;conv=>whnf
  refine Du ⟨⟨_,_,F252⟩,Ac2 n f h d.vlan⟩ E E E E E E ?_
  refine rg ?_;conv=>whnf
  exact Ac E (.cons .tmp (.cons .tmp .nil)) E E
 rw [if_neg (by simpa using h2)] at hres
 refine rg ?_;conv=>whnf
 have hv0:(d.vlan.toNat:Int) = d.vlan:=by omega
 have qg:=Ye n f h d.vlan.toNat (by omega)
 rw [hv0] at qg
 refine Du ⟨⟨_,_,F251⟩,qg⟩ E E E E E E ?_
 refine rg ?_;conv=>whnf
 by_cases he:(tagT f d.vlan).2 = 0
 ·rw [if_neg (by simpa using he)] at hres
  subst hres
  rw [if_neg (by simpa using he),if_neg (by simpa using he)]
  exact Ac E (.cons .tmp (.cons .tmp .nil)) E E
 ·rw [if_pos he] at hres
  subst hres
  rw [if_pos he,if_pos he]
  exact Ac E (.cons .tmp (.cons .tmp .nil)) E E
theorem inB_mem {l:List Int} {x:Int}:inB l x = true ↔ x ∈ l:=by
 simp [inB]
theorem Ac0 (n:Net) (hn:n.Fin) (port:Int) (b:List UInt8) (hb:b.length < 100000) :
  Sy.Spec Tryz.prog 182 [Aq n,Aa port,.sl 1 Al b] [] (.tup [Aa (linkT n port b).1,Aa (linkT n port b).2.1,By (linkT n port b).2.2.1,Aa (linkT n port b).2.2.2]) []:=Ab Γ hm 100 F182 Tryz.ntmps182 rfl fun F hF=>by
 have hres:=linkT.eq_1 n port b
 generalize linkT n port b = res at *
 have qo:=Yd n hn port
 have qe:=Aa4 n hn (Hk n port) b hb
 generalize Hk n port = o at *
 conv=>whnf
 refine Ag qo F258 E E E E E ?_
 refine rg ?_;conv=>whnf
 refine ⟨fun h1=>?_,fun h1=>?_⟩
 ·rw [if_pos (by simpa using h1)] at hres
  subst hres
  refine rg ?_;conv=>whnf
  refine A1 8 zF E (.cons (.refl _) (.cons (.refl _) (.cons (.refl _) (.cons .nil .nil)))) ?_
  exact Ac E (.cons .tmp (.cons .tmp (.cons (.cell E E E E) (.cons .tmp .nil)))) E E
 rw [if_neg (by simpa using h1)] at hres
 refine rg ?_;conv=>whnf
 refine Ag qe F100 E E E E E ?_
 generalize enterT n o b = en at *
 obtain ⟨x1,g,x2⟩:=en
 subst hres
 refine rg ?_;conv=>whnf
 refine ⟨(by kernel_rfl),?_⟩
 conv=>whnf
 exact Ac E (.cons .tmp (.cons .tmp (.cons (.cell E E E E) (.cons .tmp .nil)))) E E
end Go.Sy.YtmelpejjondedaaGreat
namespace Go.Sy.YtmelpejjondedaaGreat
open Go.Proofs
theorem Iu (l:List Nat):(Cp l).length = 2 * l.length:=by
 induction l with
 | nil=>rfl
 | cons a l ih=>simp only [Cp,List.flatMap_cons,List.length_append,List.length_cons,List.length_nil] at ih ⊢; omega
theorem Hc (l:List Nat) (n:Nat):Cp (l ++ [n]) = Cp l ++ [UInt8.ofNat (n / 256),UInt8.ofNat n]:=by simp [Cp]
theorem Ja (b:List UInt8) (k m:Nat):numAt b k m < 256 ^ m:=by
 have h:=Jo _ ((b.drop k).take m) rfl
 have h2:((b.drop k).take m).length ≤ m:=by rw [List.length_take]; omega
 exact Nat.lt_of_lt_of_le h (Nat.pow_le_pow_right (by decide) h2)
theorem Mr {b:List UInt8} {k:Nat} (h:k + 2 ≤ b.length):numAt b k 2 = (b[k]'(by omega)).toNat * 256 + (b[k + 1]'(by omega)).toNat:=by
 rw [numAt,M7 h,Ad4]
theorem Y3 {b:List UInt8} {k:Nat} (h:k < b.length):bAt b k = b[k]:=Adf h
theorem Ahm {b:List UInt8} {k:Nat} (h:k + 3 ≤ b.length):(b.drop k).take 3 = [b[k]'(by omega),b[k + 1]'(by omega),b[k + 2]'(by omega)]:=by
 rw [List.drop_eq_getElem_cons (by omega),List.drop_eq_getElem_cons (i:=k + 1) (by omega),List.drop_eq_getElem_cons (i:=k + 2) (by omega)]
 rfl
theorem Ahl {b:List UInt8} {k:Nat} (h:k + 4 ≤ b.length):(b.drop k).take 4 = [b[k]'(by omega),b[k + 1]'(by omega),b[k + 2]'(by omega),b[k + 3]'(by omega)]:=by
 rw [List.drop_eq_getElem_cons (by omega),List.drop_eq_getElem_cons (i:=k + 1) (by omega),List.drop_eq_getElem_cons (i:=k + 2) (by omega),List.drop_eq_getElem_cons (i:=k + 3) (by omega)]
 rfl
theorem numAt3 {b:List UInt8} {k:Nat} (h:k + 3 ≤ b.length):numAt b k 3 = ((b[k]'(by omega)).toNat * 256 + (b[k + 1]'(by omega)).toNat) * 256 + (b[k + 2]'(by omega)).toNat:=by
 rw [numAt,Ahm h]
 simp [Hq]
theorem numAt4 {b:List UInt8} {k:Nat} (h:k + 4 ≤ b.length):numAt b k 4 = numAt b k 2 * 65536 + numAt b (k + 2) 2:=by
 have e:b[k + 2 + 1]'(by omega) = b[k + 3]'(by omega):=rfl
 rw [numAt,Ahl h,Mr (by omega),Mr (by omega),e]
 simp [Hq]
 omega
theorem Il (f:FrameM):(Vq f).length = 14 + f.body.length:=by
 simp [Vq,frame,Ct]
 omega
theorem Md (p:PacketM) (s:Nat):(Hl p s).length = 20:=by rw [Hl,Iu]; rfl
theorem Kv (p:PacketM):(Ta p).length = 20 + p.body.length:=by rw [Ta,List.length_append,Md]
theorem Zf (s d:Nat) (b:List UInt8):(Ahg s d b).length = 8 + b.length:=by rw [Ahg,List.length_append,Iu]; rfl
theorem Hz (v:Nat):(Ke v).length = 8:=rfl
theorem C4:FrameOK noF:=⟨by decide,by decide,by decide,by decide⟩
theorem Uy (ip:Nat) (h:ip < 4294967296):Ho ip < 281474976710656:=by rw [Ho,Int.toNat_natCast]; omega
theorem Vx (n:Net) (port dom:Int) (f:FrameM) (hf:FrameOK f):(leaveT n port dom f).1.length ≤ 1518:=by
 have h4:=hf.body
 unfold leaveT
 split
 ·simp
 split
 ·simp
 split
 ·simp
 split
 ·rw [Il]; omega
 split
 ·simp
 ·rw [Il]
  rename_i h
  have h2:(tagT f (nth n.domains dom).vlan).2 = 0:=Classical.byContradiction h
  unfold tagT at h2 ⊢
  split
  ·rw [if_pos (by assumption)] at h2; cases h2
  rw [if_neg (by assumption)] at h2
  split
  ·rw [if_pos (by assumption)] at h2; cases h2
  ·dsimp only
   simp
   omega
theorem Uw {b:List UInt8} (h:(ipTakeT b).2 = 0):PacketOK (ipTakeT b).1 ∧ (ipTakeT b).1.body.length + 20 ≤ b.length:=by
 unfold ipTakeT at h ⊢
 split
 ·rw [if_pos (by assumption)] at h; cases h
 rw [if_neg (by assumption)] at h
 split
 ·rw [if_pos (by assumption)] at h; cases h
 rw [if_neg (by assumption)] at h
 split
 ·rw [if_pos (by assumption)] at h; cases h
 rw [if_neg (by assumption)] at h
 split
 ·rw [if_pos (by assumption)] at h; cases h
 rw [if_neg (by assumption)] at h
 split
 ·rw [if_pos (by assumption)] at h; cases h
 have l1:=(bAt b 1).toNat_lt
 have l8:=(bAt b 8).toNat_lt
 have l9:=(bAt b 9).toNat_lt
 have n4:=Ja b 4 2
 have n12:=Ja b 12 4
 have n16:=Ja b 16 4
 refine ⟨⟨?_,?_,?_,?_,?_,?_⟩,?_⟩
 ·show (bAt b 1).toNat ≤ 255; omega
 ·show numAt b 4 2 ≤ 65535; omega
 ·show (bAt b 8).toNat ≤ 255; omega
 ·show (bAt b 9).toNat ≤ 255; omega
 ·exact n12
 ·exact n16
 ·show ((b.take (numAt b 2 2)).drop 20).length + 20 ≤ b.length
  rw [List.length_drop,List.length_take]
  omega
theorem Al9 {b:List UInt8} (h:(ipTakeT b).2 ≠ 0):(ipTakeT b).1 = noP:=by
 unfold ipTakeT at h ⊢
 split
 ·rfl
 rw [if_neg (by assumption)] at h
 split
 ·rfl
 rw [if_neg (by assumption)] at h
 split
 ·rfl
 rw [if_neg (by assumption)] at h
 split
 ·rfl
 rw [if_neg (by assumption)] at h
 split
 ·rfl
 rw [if_neg (by assumption)] at h
 exact absurd E h
theorem Acv:PacketOK noP:=⟨by decide,by decide,by decide,by decide,by decide,by decide⟩
theorem Ac8 (p:PacketM) (s:Nat):((Hl p 0).set 10 (UInt8.ofNat (s / 256))).set 11 (UInt8.ofNat s) = Hl p s:=by
 simp only [Hl,Cp,List.flatMap_cons,List.flatMap_nil,List.cons_append,List.nil_append,List.set_cons_succ,List.set_cons_zero]
theorem Ag9 (a b v:Nat) (f:FrameM) (ha:a < 4294967296) (hb:b < 4294967296):PacketOK (L1 a b v f):=⟨Nat.zero_le _,Nat.zero_le _,by show (64:Nat) ≤ 255; decide,by show (17:Nat) ≤ 255; decide,ha,hb⟩
theorem Hp (a b v:Nat) (f:FrameM):(L1 a b v f).body.length = 30 + f.body.length:=by
 simp only [L1,Zf,List.length_append,Hz,Il]; omega
theorem Xj (a b:Nat) (v:Int) (f:FrameM):(wrapT a b v f).1.length ≤ 1514:=by
 unfold wrapT
 split
 ·simp
 split
 ·simp
 split
 ·simp
 ·simp only [frame,List.length_append,Ct,Kv,Hp,List.length_cons,List.length_nil]; omega
theorem Ya (n:Net) (dom peer:Int) (f:FrameM):(meshT n dom peer f).1.length ≤ 1514:=by
 unfold meshT
 split
 ·simp
 split
 ·simp
 ·exact Xj _ _ _ _
theorem Akl {b:List UInt8}:(udpTakeT b).2.2.1.length ≤ b.length:=by
 unfold udpTakeT
 repeat' split
 all_goals first | (simp; done) | (simp only [List.length_drop,List.length_take]; omega)
theorem vniT_body {b:List UInt8}:(vniT b).2.1.length ≤ b.length:=by
 unfold vniT
 repeat' split
 all_goals first | (simp; done) | (simp only [List.length_drop]; omega)
theorem Qw (b:List UInt8):PacketOK (outerT b).1 ∧ (outerT b).1.body.length ≤ b.length:=by
 unfold outerT
 split
 ·exact ⟨Acv,by simp [noP]⟩
 split
 ·exact ⟨Acv,by simp [noP]⟩
 split
 ·exact ⟨Acv,by simp [noP]⟩
 ·rename_i h1 h2 h3
  have h4:(takeF b).2 = 0:=Classical.byContradiction h1
  have h5:(ipTakeT (takeF b).1.body).2 = 0:=Classical.byContradiction h3
  obtain ⟨h6,h7⟩:=Uw h5
  refine ⟨h6,?_⟩
  have h8:(takeF b).1.body.length ≤ b.length:=by
   unfold takeF
   repeat' split
   all_goals simp [noF]
  dsimp only
  omega
theorem W0 (b:List UInt8):FrameOK (I1 b).2.1 ∧ 0 ≤ (I1 b).1:=by
 unfold I1
 repeat' split
 all_goals first | exact ⟨C4,Int.le_refl _⟩ | skip
 rename_i h1 h2 h3 h4 h5
 refine ⟨Zh (Classical.byContradiction h4),?_⟩
 show 0 ≤ (vniT (udpTakeT b).2.2.1).1
 unfold vniT
 repeat' split
 all_goals omega
theorem Tt (b:List UInt8):(Bq b).1 < 4294967296 ∧ (Bq b).2.1 < 4294967296 ∧ 0 ≤ (Bq b).2.2.1 ∧ FrameOK (Bq b).2.2.2.1:=by
 unfold Bq
 split
 ·exact ⟨Nat.zero_lt_succ _,Nat.zero_lt_succ _,Int.le_refl _,C4⟩
 split
 ·exact ⟨Nat.zero_lt_succ _,Nat.zero_lt_succ _,Int.le_refl _,C4⟩
 ·exact ⟨(Qw b).1.src,(Qw b).1.dst,(W0 _).2,(W0 _).1⟩
theorem W9 (n:Net) (port:Int) (f:FrameM) (hf:FrameOK f) (tg:Bool) (vid:Int):FrameOK (If n port f tg vid).2.1:=by
 unfold If
 split
 ·exact C4
 split
 ·exact C4
 ·exact hf
theorem Q5 (n:Net) (port:Int) (b:List UInt8):FrameOK (enterT n port b).2.1:=by
 unfold enterT
 split
 ·exact C4
 split
 ·exact C4
 rename_i h1 h2
 have h3:=Zh (Classical.byContradiction h2)
 split
 ·split
  ·exact C4
  ·rename_i h5
   exact W9 _ _ _ (Ahq h3 (Classical.byContradiction h5)) _ _
 ·exact W9 _ _ _ h3 _ _
theorem Aal (n:Net) (port:Int) (b:List UInt8):FrameOK (linkT n port b).2.2.1:=by
 unfold linkT
 split
 ·exact C4
 ·exact Q5 _ _ _
theorem Abe (n:Net) (b:List UInt8):FrameOK (comeT n b).2.2.1:=by
 unfold comeT
 split
 ·exact C4
 split
 ·exact C4
 split
 ·exact C4
 split
 ·exact C4
 ·exact (Tt b).2.2.2
theorem Alk (n:Net) (hm:n.Num) (irb:Int) (f:FrameM) (hin:∀ (d:Int),(lookT n irb d).2 = true → 0 ≤ (lookT n irb d).1 ∧ (lookT n irb d).1.toNat < n.irbs.length):FrameOK (hopT n irb f).2.1:=by
 unfold hopT
 split
 ·exact C4
 split
 ·exact C4
 split
 ·exact C4
 split
 ·exact C4
 split
 ·exact C4
 split
 ·exact C4
 rename_i h1 h2 h3 h4 h5 h6
 have hp:=(Uw (Classical.byContradiction h3)).1
 have hl:=hin ((ipTakeT f.body).1.dst:Int) (by simpa using h5)
 have ha:=hm.addr _ (List.getElem_mem hl.2)
 rw [← An hl.2] at ha
 refine ⟨Uy _ hp.dst,?_,?_,?_⟩
 ·show Ho (nth n.irbs _).addr < _
  rw [Ho]; omega
 ·show (2048:Nat) ≤ 65535; decide
 ·show (Ta (Adb (ipTakeT f.body).1)).length ≤ 1504
  rw [Kv]
  show 20 + (ipTakeT f.body).1.body.length ≤ 1504
  omega
end Go.Sy.YtmelpejjondedaaGreat
namespace Go.Sy
structure Meth (P:Program) (t:TypeId) (name:String) (f:FuncId) (pr:Bool) (e:TypeId):Prop where
 row:∃ i m,P.info? t = some i ∧ i.methods.find? (·.name == name) = some m ∧ m.path = #[] ∧ m.func = some (f,pr)
 under:P.underlying t = some (.pointer e)
theorem T3 {P:Program} {t:TypeId} {name:String} {f:FuncId} {e:TypeId} (hm:Meth P t name f true e) (w:World) (v:Value):(Go.method (P.types.size + Made.depth) t v name).run P w = .ok (f,v) w:=by
 obtain ⟨⟨i,m,h1,h2,h3,h4⟩,hu⟩:=hm
 show (Go.method (P.types.size + 99 + 1) t v name).run P w = _
 rw [Go.method]
 simp only [Sem.run_bind,run_typeInfo w h1,Result.andThen_ok,h2,h3,Go.follow,Sem.run_pure,h4,Go.receiverAt,run_underlying hu,Go.Place.get]
theorem T1 {P:Program} {t:TypeId} {name:String} {f:FuncId} {e:TypeId} (hm:Meth P t name f false e) (w:World) (a:Addr) {v:Value} (hv:(loadVar e a).run P w = .ok v w):(Go.method (P.types.size + Made.depth) t (.pointer (some a)) name).run P w = .ok (f,v) w:=by
 obtain ⟨⟨i,m,h1,h2,h3,h4⟩,hu⟩:=hm
 show (Go.method (P.types.size + 99 + 1) t (.pointer (some a)) name).run P w = _
 rw [Go.method]
 have he:(#[]:Array FieldStep).isEmpty = true:=rfl
 simp only [Sem.run_bind,run_typeInfo w h1,Result.andThen_ok,h2,h3,Go.follow,Sem.run_pure,h4,Go.receiverAt,run_underlying hu,Go.Place.get,he,if_true]
 have hs : ∀ n : String, (Builtin.ssaWrapNilChk_ #[t] t #[.pointer (some a), strVal "", strVal n]).run P w = .ok (.pointer (some a)) w := fun n => rfl
 simp only [hs,Result.andThen_ok,asAddr,Sem.run_pure,hv]
theorem Mi {P:Program} {o:Oper} {s:SS} {rd:List Nat} {f:FuncId} {fn:Func} {c:Code} {t e:TypeId} {name:String} {x:Operand} {xs:List Operand} {ts:Array TypeId} {y:SV} (hm:Meth P t name f true e) (hf:Fun P f fn c) (h:o.op = .call ⟨.invoke x name,xs.toArray,ts⟩) (hx:ev s x = .ifc t y) :
  J9 P o s rd f (y :: xs.map (ev s)) :=
 fun κ a w hr _=>by
  have h1:=hr x (by simp [h,Op.operands,Call.operands])
  rw [hx] at h1
  simp only [Rd] at h1
  obtain ⟨u,e1,e2⟩:=h1
  refine ⟨u :: xs.map a.eval,?_,?_⟩
  ·have hcall:=Hs hf (u :: xs.map a.eval).toArray w
   have hmeth:=T3 hm w u
   simp only [execOp,h,resolve,invoke,e1,Sem.run_bind,Sem.run_pure,Result.andThen_ok] at hcall ⊢
   simp only [callMethod]
   rw [← hcall]
   have htk:(xs.map a.eval).take xs.length = xs.map a.eval:=List.take_of_length_le (by simp)
   simp [hmeth,Sem.run_bind,htk]
  ·simp only [RdL]
   exact ⟨_,_,E,e2,It xs (fun y hy=>hr y (by simp [h,Op.operands,Call.operands,hy]))⟩
theorem A5 {P:Program} (Γ:Ty P) {o:Oper} {s:SS} {f:FuncId} {fn:Func} {c:Code} {t e:TypeId} {ti:TI} {name:String} {x:Operand} {xs:List Operand} {ts:Array TypeId} {k off:Nat} {l:List SV} {z:SV} (hm:Meth P t name f false e) (hf:Fun P f fn c) (h:o.op = .call ⟨.invoke x name,xs.toArray,ts⟩)
  (hx:ev s x = .ifc t (.ptr k off)) (hk:s.h k = .box l) (ht:Γ.get e = some ti) (hz:Ib ti l off = some z):J9 P o s [k] f (z :: xs.map (ev s)) :=
 fun κ a w hr ho=>by
  have h1:=hr x (by simp [h,Op.operands,Call.operands])
  rw [hx] at h1
  simp only [Rd] at h1
  obtain ⟨u,e1,e2⟩:=h1
  have hob:=ho k (by simp)
  rw [hk] at hob
  obtain ⟨b,f1,f2⟩:=hob.cellsAt
  rw [f1] at e2
  simp only at e2
  subst e2
  obtain ⟨v,g1,g2⟩:=H4 (P:=P) Γ ht f2 hz
  rw [Nat.zero_add] at g1
  refine ⟨v :: xs.map a.eval,?_,?_⟩
  ·have hcall:=Hs hf (v :: xs.map a.eval).toArray w
   have hmeth:=T1 hm w ⟨b,off,none⟩ g1
   simp only [execOp,h,resolve,invoke,e1,Sem.run_bind,Sem.run_pure,Result.andThen_ok] at hcall ⊢
   simp only [callMethod]
   rw [← hcall]
   have htk:(xs.map a.eval).take xs.length = xs.map a.eval:=List.take_of_length_le (by simp)
   simp [hmeth,Sem.run_bind,htk]
  ·simp only [RdL]
   exact ⟨_,_,E,g2,It xs (fun y hy=>hr y (by simp [h,Op.operands,Call.operands,hy]))⟩
theorem Sw {P:Program} (Γ:Ty P) {o:Oper} {s:SS} {x:Operand} {xt t:TypeId} {ti:TI} {y:SV} {ok:Bool} (h:o.op = .typeAssert x xt t ok) (hx:ev s x = .ifc t y) (ht:Γ.get t = some ti) (hk:ti.k matches .bool | .int _ | .string | .slice .. | .struct _ | .ptr | .func) :
  Good P o s ⟨if ok then .tup [y,Ad true] else y,[],[]⟩ :=
 Good.pure fun κ a w _ hr _=>by
  have h1:=hr x (by simp [h,Op.operands])
  rw [hx] at h1
  simp only [Rd] at h1
  obtain ⟨u,e1,e2⟩:=h1
  obtain ⟨d,info,z,k1,k2,_⟩:=Γ.ok t ti ht
  have hni:∀ ms,d ≠ .interface ms:=by
   obtain ⟨k,n,zz⟩:=ti
   intro ms hd
   subst hd
   cases k <;> simp_all [TK.ok]
  have hrun:(Instr.typeAssert (.iface t u) xt t ok).run P w = .ok (if ok then .tuple #[u,.bool true] else u) w:=by
   cases d <;> first
    | exact absurd rfl (hni _)
    | (cases ok <;> simp [Instr.typeAssert,run_underlying k1])
  refine ⟨if ok then .tuple #[u,.bool true] else u,by simp [execOp,h,e1,hrun],?_⟩
  cases ok
  ·exact e2
  ·simp only [if_true,Rd,RdL]
   exact ⟨[u,.bool true],E,_,_,E,e2,_,_,E,by simp [Ad,Rd],E⟩
def Al8 (P:Program) (t:TypeId) (name:String) (f:FuncId) (pr:Bool):Bool :=
 match P.info? t with
 | some i=>(match i.methods.find? (·.name == name) with
  | some m=>m.path.isEmpty && (match m.func with | some (g,b)=>Nat.beq g f && (b == pr) | none=>false)
  | none=>false)
 | none=>false
theorem Meth.of {P:Program} {t:TypeId} {name:String} {f:FuncId} {pr:Bool} {e:TypeId} (h:Al8 P t name f pr = true) (hu:P.underlying t = some (.pointer e)):Meth P t name f pr e:=by
 refine ⟨?_,hu⟩
 unfold Al8 at h
 split at h
 ·rename_i i hi
  split at h
  ·rename_i m hm
   simp only [Bool.and_eq_true] at h
   obtain ⟨h1,h2⟩:=h
   split at h2
   ·rename_i g b hf
    simp only [Bool.and_eq_true,beq_iff_eq] at h2
    obtain ⟨h3,rfl⟩:=h2
    have h3:=Nat.eq_of_beq_eq_true h3
    subst h3
    exact ⟨i,m,hi,hm,by simpa using h1,hf⟩
   ·cases h2
  ·cases h
 ·cases h
end Go.Sy
namespace Go.Sy.YtmelpejjondedaaGreat
open Go.Proofs
attribute [local irreducible] Go.Sy.G Go.Sy.DR
set_option maxRecDepth 20000
set_option maxHeartbeats 4000000
structure Item where
 (root cost dev:Int)
instance:Inhabited Item:=⟨⟨0,0,0⟩⟩
def A8 (x:Item):SV:=.agg [Aa x.root,Aa x.cost,Aa x.dev]
def Bo (x y:Item):Bool:=decide (x.root < y.root) || (x.root == y.root && decide (x.cost < y.cost))
theorem Qu (q:List Item):Sy.Spec Tryz.prog 234 [.sl 3 A8 q] [] (Aa q.length) []:=Ab Γ hm 100 F234 Tryz.ntmps234 rfl fun F hF=>by
 conv=>whnf
 exact Ac E (.cons .tmp .nil) E E
theorem H8 (q:List Item) (i j:Nat) (hi:i < q.length) (hj:j < q.length):Sy.Spec Tryz.prog 384 [.sl 3 A8 q,Aa i,Aa j] [] (Ad (Bo q[i] q[j])) []:=Ab Γ hm 100 F384 Tryz.ntmps384 rfl fun F hF=>by
 have e1:q[(i:Int).toNat]'(by omega) = q[i]:=rfl
 have e2:q[(j:Int).toNat]'(by omega) = q[j]:=rfl
 conv=>whnf
 (repeat' (first | (refine ⟨fun h=>?_,fun h=>?_⟩ <;> (repeat (first | simp only [decide_eq_true_eq] at h | simp only [decide_eq_false_iff_not] at h | simp only [beq_iff_eq] at h | simp only [beq_eq_false_iff_ne] at h)) <;> ((refine rd (by kernel_rfl) ?_);(conv=>whnf))) | (refine Ac rfl (.cons .tmp .nil) ?_ rfl) | (refine ⟨(by kernel_rfl),?_⟩; ((conv=>whnf))) | (refine ⟨by (omega),by (omega),?_⟩; ((conv=>whnf)))))
 all_goals (refine congrArg Ad ?_; clear hF; grind [Bo])
theorem H7 (q:List Item) (i j:Nat) (hi:i < q.length) (hj:j < q.length):Sy.Spec Tryz.prog 387 [.osl 0,Aa i,Aa j] [(0,.row 3 A8 q)] (.tup []) [(0,.row 3 A8 ((q.set i q[j]).set j q[i]))]:=Ab Γ hm 100 F387 Tryz.ntmps387 rfl fun F hF=>by
 have e1:q[(i:Int).toNat]'(by omega) = q[i]:=rfl
 have e2:q[(j:Int).toNat]'(by omega) = q[j]:=rfl
 conv=>whnf
 refine ⟨by omega,by omega,?_⟩
 conv=>whnf
 refine ⟨E,by omega,?_⟩
 rw [e2]
 conv=>whnf
 refine ⟨by omega,by omega,?_⟩
 conv=>whnf
 refine ⟨E,by omega,?_⟩
 rw [e1]
 conv=>whnf
 refine ⟨by omega,by omega,?_⟩
 conv=>whnf
 refine ⟨E,by omega,q[j],E,E,?_⟩
 conv=>whnf
 refine ⟨by omega,by simp; omega,?_⟩
 conv=>whnf
 refine ⟨E,by simp; omega,q[i],E,E,?_⟩
 conv=>whnf
 refine ⟨(by kernel_rfl),?_⟩
 conv=>whnf
 exact Bi E .nil [] [(0,.row 3 A8 ((q.set i q[j]).set j q[i]))] (fun _ h=>h) E E ⟨Y,⟨.inl E,E,Y⟩,E,E⟩
theorem Acd (q:List Item) (x:Item) (hq:q.length < 1000000):Sy.Spec Tryz.prog 386 [.ptr 0 0,.ifc 345 (A8 x)] [(0,.box [.osl 1]),(1,.row 3 A8 q)] (.tup []) [(0,.box [.osl 2]),(1,.non),(2,.row 3 A8 (q ++ [x]))]:=Ab Γ hm 100 F386 Tryz.ntmps386 rfl fun F hF=>by
 conv=>whnf
 refine Ai (Sw Γ.toTy E E E E) E E ?_
 (refine rg ?_;(conv=>whnf);refine aT ?_;refine rg ?_;conv=>whnf)
 refine Bu (Ak Γ.toTy 18 E E E E E (.row E) (.lit (l:=[x]) E E) (by simp) (by simp; omega) (by simp; omega)) (by kernel_rfl) E ?_
 refine rd (by kernel_rfl) ?_;conv=>whnf
 refine ⟨(by kernel_rfl),?_⟩
 conv=>whnf
 exact Bi E .nil [(2,18)] [(0,.box [.osl 2]),(1,.non),(2,.row 3 A8 (q ++ [x]))] (fun _ h=>h) E E ⟨Y,⟨.inl E,E,.inl E,E,.inl E,E,Y⟩,E,E⟩
theorem Afr (q:List Item) (hq:q ≠ []) (hl:q.length < 1000000):Sy.Spec Tryz.prog 385 [.ptr 0 0] [(0,.box [.osl 1]),(1,.row 3 A8 q)] (.ifc 345 (A8 (q.getLast hq))) [(0,.box [.osl 2]),(1,.non),(2,.row 3 A8 q.dropLast)]:=Ab Γ hm 100 F385 Tryz.ntmps385 rfl fun F hF=>by
 have h0:0 < q.length:=List.length_pos_iff.2 hq
 have e1:q[((q.length:Int) - 1).toNat]'(by omega) = q.getLast hq:=by
  rw [List.getLast_eq_getElem]
  congr 1
  omega
 conv=>whnf
 refine ⟨by unfold I64; omega,?_⟩
 conv=>whnf
 refine ⟨by omega,by omega,?_⟩
 conv=>whnf
 refine ⟨E,by omega,?_⟩
 rw [e1]
 conv=>whnf
 refine ⟨(by kernel_rfl),?_⟩
 conv=>whnf
 refine ⟨by unfold I64; omega,?_⟩
 conv=>whnf
 refine Bu (U0 Γ.toTy (d:=23) (hi:=q.length - 1) E E E E E (by decide) E (.inl ⟨E,E⟩) (.inr ⟨_,_,E,congrArg (fun z=>SV.val (.int .i64 z)) (by omega)⟩) (by omega)) (by kernel_rfl) E ?_
 rw [← List.dropLast_eq_take]
 refine rd (by kernel_rfl) ?_;conv=>whnf
 refine ⟨(by kernel_rfl),?_⟩
 conv=>whnf
 exact done E (.cons .tmp .nil) [(2,23)] [(0,.box [.osl 2]),(1,.non),(2,.row 3 A8 q.dropLast)] (fun _ h=>h) E E ⟨Y,⟨.inl E,E,.inl E,E,.inl E,E,Y⟩,E,E⟩
end Go.Sy.YtmelpejjondedaaGreat
namespace Go.Sy.YtmelpejjondedaaGreat
open Go.Proofs
attribute [local irreducible] Go.Sy.G Go.Sy.DR
set_option maxRecDepth 100000
set_option maxHeartbeats 4000000
theorem mLen : Meth Tryz.prog 340 "Len" 234 false 342 := .of (by kernel_rfl) Tryz.underlying340
theorem Aaf : Meth Tryz.prog 340 "Less" 384 false 342 := .of (by kernel_rfl) Tryz.underlying340
theorem Aae : Meth Tryz.prog 340 "Swap" 387 false 342 := .of (by kernel_rfl) Tryz.underlying340
theorem mPush : Meth Tryz.prog 340 "Push" 386 true 342 := .of (by kernel_rfl) Tryz.underlying340
theorem mPop : Meth Tryz.prog 340 "Pop" 385 true 342 := .of (by kernel_rfl) Tryz.underlying340
def C2 (q:List Item) (i j:Nat):List Item:=(q.set i (q.getD j default)).set j (q.getD i default)
theorem Av (q:List Item) (i j:Nat):(C2 q i j).length = q.length:=by simp [C2]
def upF:Nat → List Item → Nat → List Item
 | 0,q,_=>q
 | n + 1,q,j=>if j = 0 then q else if Bo (q.getD j default) (q.getD ((j - 1) / 2) default) then upF n (C2 q ((j - 1) / 2) j) ((j - 1) / 2) else q
theorem Zd:∀ (n m:Nat) (q:List Item) (j:Nat),j ≤ n → j ≤ m → upF n q j = upF m q j
 | 0,m,q,j,h,_=>by
  have:j = 0:=by omega
  subst this
  cases m <;> simp [upF]
 | n + 1,0,q,j,_,h=>by
  have:j = 0:=by omega
  subst this
  simp [upF]
 | n + 1,m + 1,q,j,h1,h2=>by
  rw [upF,upF]
  split
  ·rfl
  ·split
   ·exact Zd n m _ _ (by omega) (by omega)
   ·rfl
theorem Ahe (r:List Item):∀ (i:Nat),i ≠ 0 → upF i r i = if Bo (r.getD i default) (r.getD ((i - 1) / 2) default) then upF ((i - 1) / 2) (C2 r ((i - 1) / 2) i) ((i - 1) / 2) else r
 | 0,h=>absurd rfl h
 | m + 1,_=>by
  rw [upF,if_neg (by omega)]
  split
  ·exact Zd _ _ _ _ (by omega) (by omega)
  ·rfl
theorem upS (q:List Item) (j:Nat) (hj:j < q.length) (hl:q.length < 1000000) :
  Sy.Spec Tryz.prog 285 [.ifc 340 (.ptr 0 0),Aa j] [(0,.box [.osl 1]),(1,.row 3 A8 q)] (.tup []) [(0,.box [.osl 1]),(1,.row 3 A8 (upF j q j))]:=Ab Γ hm 100 F285 Tryz.ntmps285 rfl fun F hF=>by
 conv=>whnf
 refine Ld (α:={p:List Item × Nat // upF p.2 p.1 p.2 = upF j q j ∧ p.1.length = q.length ∧ p.2 < p.1.length}) (fun p=>[(0,.ifc 340 (.ptr 0 0)),(1,Aa p.1.2)]) (fun p=>[(0,.box [.osl 1]),(1,.row 3 A8 p.1.1)]) (fun p=>p.1.2) ⟨(q,j),E,E,hj⟩ []
  ⟨⟨rfl,rfl,rfl,rfl,trivial⟩,⟨.inl rfl,rfl,.inl rfl,rfl,trivial⟩,rfl,rfl⟩ ?_
 rintro ⟨⟨r,i⟩,h1,h2,h3⟩
 simp only at h1 h2 h3
 dsimp only
 have hw:IntKind.i64.wrap (((i:Int) - 1).tdiv 2) = (((i - 1) / 2:Nat):Int):=by
  rcases Nat.eq_zero_or_pos i with h0 | h0
  ·subst h0; rfl
  ·have:((i:Int) - 1) = ((i - 1:Nat):Int):=by omega
   rw [this,Int.tdiv_eq_ediv_of_nonneg (by omega),IntKind.wrap_i64]
   omega
 refine rg ?_;conv=>whnf
 refine ⟨by unfold I64; omega,?_⟩
 conv=>whnf
 refine ⟨by decide,?_⟩
 rw [hw]
 conv=>whnf
 refine ⟨fun h=>?_,fun h=>?_⟩
 ·have h0:i = 0:=by
   have:(((i - 1) / 2:Nat):Int) = i:=by simpa using h
   omega
  subst h0
  have e:upF j q j = r:=by rw [← h1]; rfl
  rw [e]
  (refine rg ?_;(conv=>whnf);refine aT ?_;refine rg ?_;conv=>whnf)
  exact Bi E .nil [] [(0,.box [.osl 1]),(1,.row 3 A8 r)] (fun _ h=>h) E E ⟨Y,⟨.inl E,E,.inl E,E,Y⟩,E,E⟩
 have h0:i ≠ 0:=by
  intro h0
  subst h0
  exact absurd h (by decide)
 have hp:(i - 1) / 2 < r.length:=by omega
 have hless:=H8 r i ((i - 1) / 2) h3 hp
 refine rg ?_;conv=>whnf
 refine Ai (C7 [1] (A5 Γ.toTy Aaf F384 E E E E E) hless (.cons (.row E E) (.cons (.refl _) (.cons (.refl _) .nil))) E E) E E ?_
 refine rg ?_;conv=>whnf
 have hu:upF i r i = if Bo r[i] r[(i - 1) / 2] then upF ((i - 1) / 2) (C2 r ((i - 1) / 2) i) ((i - 1) / 2) else r:=by
  rw [Ahe r i h0,Az h3,Az hp]
 refine ⟨fun h=>?_,fun h=>?_⟩
 ·have hlt:Bo r[i] r[(i - 1) / 2] = false:=by simpa using h
  have e:upF j q j = r:=by rw [← h1,hu,hlt]; rfl
  rw [e]
  refine rg ?_;conv=>whnf
  exact Bi E .nil [] [(0,.box [.osl 1]),(1,.row 3 A8 r)] (fun _ h=>h) E E ⟨Y,⟨.inl E,E,.inl E,E,Y⟩,E,E⟩
 have hlt:Bo r[i] r[(i - 1) / 2] = true:=by simpa using h
 rw [hlt,if_pos rfl] at hu
 have hsw:=H7 r ((i - 1) / 2) i hp h3
 have e:(r.set ((i - 1) / 2) r[i]).set i r[(i - 1) / 2] = C2 r ((i - 1) / 2) i:=by
  rw [C2,Az h3,Az hp]
 rw [e] at hsw
 refine rg ?_;conv=>whnf
 refine Ai (Ce [(0,1)] (A5 Γ.toTy Aae F387 E E E E E) hsw E ⟨E,Y⟩ E ⟨.inl E,Y⟩) E E ?_
 refine rg ?_;conv=>whnf
 exact Ml (α:={p:List Item × Nat // upF p.2 p.1 p.2 = upF j q j ∧ p.1.length = q.length ∧ p.2 < p.1.length}) (L:=fun p=>[(0,.ifc 340 (.ptr 0 0)),(1,Aa p.1.2)]) (O:=fun p=>[(0,.box [.osl 1]),(1,.row 3 A8 p.1.1)]) (μ:=fun p=>p.1.2) (x:=⟨(r,i),h1,h2,h3⟩)
  ⟨(C2 r ((i - 1) / 2) i,(i - 1) / 2),by rw [← h1,hu],by rw [Av]; exact h2,by rw [Av]; exact hp⟩ [] (by simp only; omega)
  ⟨⟨rfl,rfl,rfl,rfl,trivial⟩,⟨.inl rfl,rfl,.inl rfl,rfl,trivial⟩,rfl,rfl⟩
theorem Ts:∀ (n:Nat) (q:List Item) (j:Nat),(upF n q j).length = q.length
 | 0,q,j=>rfl
 | n + 1,q,j=>by
  rw [upF]
  split
  ·rfl
  ·split
   ·rw [Ts n,Av]
   ·rfl
def L8 (q:List Item) (x:Item):List Item:=upF q.length (q ++ [x]) q.length
theorem W2 (q:List Item) (x:Item) (hl:q.length < 999999) :
  Sy.Spec Tryz.prog 233 [.ifc 340 (.ptr 0 0),.ifc 345 (A8 x)] [(0,.box [.osl 1]),(1,.row 3 A8 q)] (.tup []) [(0,.box [.osl 2]),(1,.non),(2,.row 3 A8 (L8 q x))]:=Ab Γ hm 100 F233 Tryz.ntmps233 rfl fun F hF=>by
 have hpush:=Acd q x (by omega)
 have hlen:=Qu (q ++ [x])
 have hup:=upS (q ++ [x]) q.length (by simp) (by simp; omega)
 have hln:(((q ++ [x]).length:Nat):Int) - 1 = (q.length:Int):=by simp
 conv=>whnf
 refine Ai (Ce (rd:=[]) [(2,6)] (Mi mPush F386 E E) hpush E ⟨E,E,Y⟩ E ⟨.inl E,.inl E,.inr E,Y⟩) E E ?_
 refine rg ?_;conv=>whnf
 refine Ai (C7 [6] (A5 Γ.toTy mLen F234 E E E E E) hlen (.cons (.row E E) .nil) E E) E E ?_
 refine rg ?_;conv=>whnf
 refine ⟨by unfold I64; simp; omega,?_⟩
 rw [hln]
 conv=>whnf
 refine Ai (Ah [(1,6)] E F285 hup E ⟨E,E,Y⟩ E ⟨.inl E,.inl E,Y⟩) E E ?_
 refine rg ?_;conv=>whnf
 exact Bi E .nil [(2,6)] [(0,.box [.osl 2]),(1,.non),(2,.row 3 A8 (L8 q x))] (fun _ h=>h) E E ⟨Y,⟨.inl E,E,.inl E,E,.inl E,E,Y⟩,E,E⟩
def Cy (q:List Item) (i n:Nat):Nat:=if 2 * i + 2 < n ∧ Bo (q.getD (2 * i + 2) default) (q.getD (2 * i + 1) default) = true then 2 * i + 2 else 2 * i + 1
theorem Jm (q:List Item) (i n:Nat) (h:2 * i + 1 < n):Cy q i n < n ∧ i < Cy q i n:=by
 unfold Cy
 split <;> omega
def Cz:Nat → List Item → Nat → Nat → List Item × Nat
 | 0,q,i,_=>(q,i)
 | f + 1,q,i,n=>if 2 * i + 1 < n then (if Bo (q.getD (Cy q i n) default) (q.getD i default) then Cz f (C2 q i (Cy q i n)) (Cy q i n) n else (q,i)) else (q,i)
theorem Mz:∀ (f g:Nat) (q:List Item) (i n:Nat),n ≤ f + i → n ≤ g + i → Cz f q i n = Cz g q i n
 | 0,g,q,i,n,h1,h2=>by
  cases g with
  | zero=>rfl
  | succ g=>rw [Cz,Cz,if_neg (by omega)]
 | f + 1,0,q,i,n,h1,h2=>by rw [Cz,Cz,if_neg (by omega)]
 | f + 1,g + 1,q,i,n,h1,h2=>by
  rw [Cz,Cz]
  split
  ·rename_i h
   have:=Jm q i n h
   split
   ·exact Mz f g _ _ n (by omega) (by omega)
   ·rfl
  ·rfl
theorem Adp (r:List Item) (i n:Nat):Cz (n - i) r i n = if 2 * i + 1 < n then (if Bo (r.getD (Cy r i n) default) (r.getD i default) then Cz (n - Cy r i n) (C2 r i (Cy r i n)) (Cy r i n) n else (r,i)) else (r,i):=by
 rw [Mz (n - i) (n - i + 1) r i n (by omega) (by omega),Cz]
 split
 ·rename_i h
  have:=Jm r i n h
  split
  ·exact Mz _ _ _ _ _ (by omega) (by omega)
  ·rfl
 ·rfl
theorem O9:∀ (f:Nat) (q:List Item) (i n:Nat),(Cz f q i n).1.length = q.length
 | 0,_,_,_=>rfl
 | f + 1,q,i,n=>by
  rw [Cz]
  split
  ·split
   ·rw [O9 f,Av]
   ·rfl
  ·rfl
theorem downS (q:List Item) (i0 n:Nat) (hn:n ≤ q.length) (hi:i0 < q.length) (hl:q.length < 1000000) :
  Sy.Spec Tryz.prog 286 [.ifc 340 (.ptr 0 0),Aa i0,Aa n] [(0,.box [.osl 1]),(1,.row 3 A8 q)] (Ad (decide (((Cz (n - i0) q i0 n).2:Int) > i0))) [(0,.box [.osl 1]),(1,.row 3 A8 (Cz (n - i0) q i0 n).1)]:=Ab Γ hm 100 F286 Tryz.ntmps286 rfl fun F hF=>by
 generalize hD:Cz (n - i0) q i0 n = D
 conv=>whnf
 refine Ld (α:={p:List Item × Nat // Cz (n - p.2) p.1 p.2 n = D ∧ p.1.length = q.length ∧ p.2 < p.1.length}) (fun p=>[(0,.ifc 340 (.ptr 0 0)),(1,Aa i0),(2,Aa n),(7,Aa p.1.2)]) (fun p=>[(0,.box [.osl 1]),(1,.row 3 A8 p.1.1)]) (fun p=>n - p.1.2) ⟨(q,i0),hD,E,hi⟩ []
  ⟨⟨rfl,rfl,rfl,rfl,rfl,rfl,rfl,rfl,trivial⟩,⟨.inl rfl,rfl,.inl rfl,rfl,trivial⟩,rfl,rfl⟩ ?_
 rintro ⟨⟨r,i⟩,h1,h2,h3⟩
 simp only at h1 h2 h3
 dsimp only
 have h10:=h1
 rw [Adp] at h1
 have hj1:(2:Int) * i + 1 = ((2 * i + 1:Nat):Int):=by omega
 have hj2:((2 * i + 1:Nat):Int) + 1 = ((2 * i + 2:Nat):Int):=by omega
 refine rg ?_;conv=>whnf
 refine ⟨by unfold I64; omega,?_⟩
 conv=>whnf
 refine ⟨by unfold I64; omega,?_⟩
 rw [hj1]
 conv=>whnf
 refine ⟨fun h=>?_,fun h=>?_⟩
 ·have hge:¬ 2 * i + 1 < n:=by have:=of_decide_eq_true h; omega
  rw [if_neg hge] at h1
  rw [← h1]
  (refine rg ?_;(conv=>whnf);refine aT ?_;refine rg ?_;conv=>whnf)
  exact done E (.cons .tmp .nil) [] [(0,.box [.osl 1]),(1,.row 3 A8 r)] (fun _ h=>h) E E ⟨Y,⟨.inl E,E,.inl E,E,Y⟩,E,E⟩
 have hlt:2 * i + 1 < n:=by have:=of_decide_eq_false h; omega
 rw [if_pos hlt] at h1
 (refine rg ?_;(conv=>whnf);refine aF ?_;refine rg ?_;conv=>whnf)
 refine ⟨by unfold I64; omega,?_⟩
 rw [hj2]
 conv=>whnf
 refine ⟨fun h=>?_,fun h=>?_⟩
 ·have h2n:2 * i + 2 < n:=by have:=of_decide_eq_true h; omega
  have hA:2 * i + 2 < r.length:=by omega
  have hB:2 * i + 1 < r.length:=by omega
  have hlc:=H8 r (2 * i + 2) (2 * i + 1) hA hB
  refine rg ?_;conv=>whnf
  refine Ai (C7 [1] (A5 Γ.toTy Aaf F384 E E E E E) hlc (.cons (.row E E) (.cons (.refl _) (.cons (.refl _) .nil))) E E) E E ?_
  refine rg ?_;conv=>whnf
  refine ⟨fun h=>?_,fun h=>?_⟩
  ·have hc:Cy r i n = 2 * i + 2:=by rw [Cy,if_pos ⟨h2n,by rw [Az hA,Az hB]; exact h⟩]
   have hJ:=hA
   refine rg ?_;conv=>whnf
   rw [hc,Az hJ,Az h3] at h1
   have hls:=H8 r (2 * i + 2) i hJ h3
   refine Ai (C7 [1] (A5 Γ.toTy Aaf F384 E E E E E) hls (.cons (.row E E) (.cons (.refl _) (.cons (.refl _) .nil))) E E) E E ?_
   refine rg ?_;conv=>whnf
   refine ⟨fun h=>?_,fun h=>?_⟩
   ·have hf:Bo r[2 * i + 2] r[i] = false:=by simpa using h
    rw [hf] at h1
    have e:D = (r,i):=h1.symm
    rw [e]
    refine rg ?_;conv=>whnf
    exact done E (.cons .tmp .nil) [] [(0,.box [.osl 1]),(1,.row 3 A8 r)] (fun _ h=>h) E E ⟨Y,⟨.inl E,E,.inl E,E,Y⟩,E,E⟩
   have hf:Bo r[2 * i + 2] r[i] = true:=by simpa using h
   rw [hf,if_pos rfl] at h1
   have hsw:=H7 r i (2 * i + 2) h3 hJ
   have e:(r.set i r[2 * i + 2]).set (2 * i + 2) r[i] = C2 r i (2 * i + 2):=by
    rw [C2,Az h3,Az hJ]
   rw [e] at hsw
   refine rg ?_;conv=>whnf
   refine Ai (Ce [(0,1)] (A5 Γ.toTy Aae F387 E E E E E) hsw E ⟨E,Y⟩ E ⟨.inl E,Y⟩) E E ?_
   refine rg ?_;conv=>whnf
   exact Ml (α:={p:List Item × Nat // Cz (n - p.2) p.1 p.2 n = D ∧ p.1.length = q.length ∧ p.2 < p.1.length}) (L:=fun p=>[(0,.ifc 340 (.ptr 0 0)),(1,Aa i0),(2,Aa n),(7,Aa p.1.2)]) (O:=fun p=>[(0,.box [.osl 1]),(1,.row 3 A8 p.1.1)]) (μ:=fun p=>n - p.1.2) (x:=⟨(r,i),h10,h2,h3⟩)
    ⟨(C2 r i (2 * i + 2),2 * i + 2),h1,by rw [Av]; exact h2,by rw [Av]; exact hJ⟩ [] (by simp only; omega)
    ⟨⟨rfl,rfl,rfl,rfl,rfl,rfl,rfl,rfl,trivial⟩,⟨.inl rfl,rfl,.inl rfl,rfl,trivial⟩,rfl,rfl⟩
  ·have hc:Cy r i n = 2 * i + 1:=by rw [Cy,if_neg (fun hh=>by rw [Az hA,Az hB,h] at hh; exact absurd hh.2 (by simp))]
   have hJ:=hB
   refine rg ?_;conv=>whnf
   rw [hc,Az hJ,Az h3] at h1
   have hls:=H8 r (2 * i + 1) i hJ h3
   refine Ai (C7 [1] (A5 Γ.toTy Aaf F384 E E E E E) hls (.cons (.row E E) (.cons (.refl _) (.cons (.refl _) .nil))) E E) E E ?_
   refine rg ?_;conv=>whnf
   refine ⟨fun h=>?_,fun h=>?_⟩
   ·have hf:Bo r[2 * i + 1] r[i] = false:=by simpa using h
    rw [hf] at h1
    have e:D = (r,i):=h1.symm
    rw [e]
    refine rg ?_;conv=>whnf
    exact done E (.cons .tmp .nil) [] [(0,.box [.osl 1]),(1,.row 3 A8 r)] (fun _ h=>h) E E ⟨Y,⟨.inl E,E,.inl E,E,Y⟩,E,E⟩
   have hf:Bo r[2 * i + 1] r[i] = true:=by simpa using h
   rw [hf,if_pos rfl] at h1
   have hsw:=H7 r i (2 * i + 1) h3 hJ
   have e:(r.set i r[2 * i + 1]).set (2 * i + 1) r[i] = C2 r i (2 * i + 1):=by
    rw [C2,Az h3,Az hJ]
   rw [e] at hsw
   refine rg ?_;conv=>whnf
   refine Ai (Ce [(0,1)] (A5 Γ.toTy Aae F387 E E E E E) hsw E ⟨E,Y⟩ E ⟨.inl E,Y⟩) E E ?_
   refine rg ?_;conv=>whnf
   exact Ml (α:={p:List Item × Nat // Cz (n - p.2) p.1 p.2 n = D ∧ p.1.length = q.length ∧ p.2 < p.1.length}) (L:=fun p=>[(0,.ifc 340 (.ptr 0 0)),(1,Aa i0),(2,Aa n),(7,Aa p.1.2)]) (O:=fun p=>[(0,.box [.osl 1]),(1,.row 3 A8 p.1.1)]) (μ:=fun p=>n - p.1.2) (x:=⟨(r,i),h10,h2,h3⟩)
    ⟨(C2 r i (2 * i + 1),2 * i + 1),h1,by rw [Av]; exact h2,by rw [Av]; exact hJ⟩ [] (by simp only; omega)
    ⟨⟨rfl,rfl,rfl,rfl,rfl,rfl,rfl,rfl,trivial⟩,⟨.inl rfl,rfl,.inl rfl,rfl,trivial⟩,rfl,rfl⟩
 ·have h2n:¬ 2 * i + 2 < n:=by have:=of_decide_eq_false h; omega
  have hJ:2 * i + 1 < r.length:=by omega
  have hc:Cy r i n = 2 * i + 1:=by rw [Cy,if_neg (fun hh=>h2n hh.1)]
  (refine rg ?_;(conv=>whnf);refine aF ?_;refine rg ?_;conv=>whnf)
  rw [hc,Az hJ,Az h3] at h1
  have hls:=H8 r (2 * i + 1) i hJ h3
  refine Ai (C7 [1] (A5 Γ.toTy Aaf F384 E E E E E) hls (.cons (.row E E) (.cons (.refl _) (.cons (.refl _) .nil))) E E) E E ?_
  refine rg ?_;conv=>whnf
  refine ⟨fun h=>?_,fun h=>?_⟩
  ·have hf:Bo r[2 * i + 1] r[i] = false:=by simpa using h
   rw [hf] at h1
   have e:D = (r,i):=h1.symm
   rw [e]
   refine rg ?_;conv=>whnf
   exact done E (.cons .tmp .nil) [] [(0,.box [.osl 1]),(1,.row 3 A8 r)] (fun _ h=>h) E E ⟨Y,⟨.inl E,E,.inl E,E,Y⟩,E,E⟩
  have hf:Bo r[2 * i + 1] r[i] = true:=by simpa using h
  rw [hf,if_pos rfl] at h1
  have hsw:=H7 r i (2 * i + 1) h3 hJ
  have e:(r.set i r[2 * i + 1]).set (2 * i + 1) r[i] = C2 r i (2 * i + 1):=by
   rw [C2,Az h3,Az hJ]
  rw [e] at hsw
  refine rg ?_;conv=>whnf
  refine Ai (Ce [(0,1)] (A5 Γ.toTy Aae F387 E E E E E) hsw E ⟨E,Y⟩ E ⟨.inl E,Y⟩) E E ?_
  refine rg ?_;conv=>whnf
  exact Ml (α:={p:List Item × Nat // Cz (n - p.2) p.1 p.2 n = D ∧ p.1.length = q.length ∧ p.2 < p.1.length}) (L:=fun p=>[(0,.ifc 340 (.ptr 0 0)),(1,Aa i0),(2,Aa n),(7,Aa p.1.2)]) (O:=fun p=>[(0,.box [.osl 1]),(1,.row 3 A8 p.1.1)]) (μ:=fun p=>n - p.1.2) (x:=⟨(r,i),h10,h2,h3⟩)
   ⟨(C2 r i (2 * i + 1),2 * i + 1),h1,by rw [Av]; exact h2,by rw [Av]; exact hJ⟩ [] (by simp only; omega)
   ⟨⟨rfl,rfl,rfl,rfl,rfl,rfl,rfl,rfl,trivial⟩,⟨.inl rfl,rfl,.inl rfl,rfl,trivial⟩,rfl,rfl⟩
def Cd (q:List Item):List Item:=(Cz (q.length - 1 - 0) (C2 q 0 (q.length - 1)) 0 (q.length - 1)).1
theorem C6 (q:List Item):(Cd q).length = q.length:=by rw [Cd,O9,Av]
theorem C1 {q:List Item} (h:q ≠ []):Cd q ≠ []:=fun e=>h (List.eq_nil_of_length_eq_zero (by rw [← C6,e]; rfl))
theorem Ajf (q:List Item) (hq:q ≠ []) (hl:q.length < 1000000) :
  Sy.Spec Tryz.prog 235 [.ifc 340 (.ptr 0 0)] [(0,.box [.osl 1]),(1,.row 3 A8 q)] (.ifc 345 (A8 ((Cd q).getLast (C1 hq)))) [(0,.box [.osl 2]),(1,.non),(2,.row 3 A8 (Cd q).dropLast)]:=Ab Γ hm 100 F235 Tryz.ntmps235 rfl fun F hF=>by
 have h0:0 < q.length:=List.length_pos_iff.2 hq
 have hlen:=Qu q
 have hsw:=H7 q 0 (q.length - 1) h0 (by omega)
 have e:(q.set 0 q[q.length - 1]).set (q.length - 1) q[0] = C2 q 0 (q.length - 1):=by
  rw [C2,Az (show q.length - 1 < q.length by omega),Az h0]
 rw [e] at hsw
 have hdn:=downS (C2 q 0 (q.length - 1)) 0 (q.length - 1) (by rw [Av]; omega) (by rw [Av]; exact h0) (by rw [Av]; exact hl)
 have hpop:=Afr (Cd q) (C1 hq) (by rw [C6]; exact hl)
 have hln:(q.length:Int) - 1 = ((q.length - 1:Nat):Int):=by omega
 conv=>whnf
 refine Ai (C7 [1] (A5 Γ.toTy mLen F234 E E E E E) hlen (.cons (.row E E) .nil) E E) E E ?_
 refine rg ?_;conv=>whnf
 refine ⟨by unfold I64; omega,?_⟩
 rw [hln]
 conv=>whnf
 refine Ai (Ce [(0,1)] (A5 Γ.toTy Aae F387 E E E E E) hsw E ⟨E,Y⟩ E ⟨.inl E,Y⟩) E E ?_
 refine rg ?_;conv=>whnf
 refine Ai (Ah [] E F286 hdn E ⟨E,E,Y⟩ E ⟨.inl E,.inl E,Y⟩) E E ?_
 refine rg ?_;conv=>whnf
 refine Ai (Ce (rd:=[]) [(2,14)] (Mi mPop F385 E E) hpop E ⟨E,E,Y⟩ E ⟨.inl E,.inl E,.inr E,Y⟩) E E ?_
 refine rg ?_;conv=>whnf
 exact done E (.cons .tmp .nil) [(2,14)] [(0,.box [.osl 2]),(1,.non),(2,.row 3 A8 (Cd q).dropLast)] (fun _ h=>h) E E ⟨Y,⟨.inl E,E,.inl E,E,.inl E,E,Y⟩,E,E⟩
end Go.Sy.YtmelpejjondedaaGreat
namespace Go.Sy.YtmelpejjondedaaGreat
open Go.Proofs
attribute [local irreducible] Go.Sy.G Go.Sy.DR
set_option maxRecDepth 20000
set_option maxHeartbeats 4000000
theorem great1 {n:Net} (h:n.ports.any (fun p=>decide (100 < p.tagged.length)) = true):D4 n = true:=by simp only [D4,h,Bool.or_true,Bool.true_or]
theorem great2 {n:Net} (h:n.domains.any (fun p=>decide (100 < p.peers.length)) = true):D4 n = true:=by simp only [D4,h,Bool.or_true,Bool.true_or]
theorem great3 {n:Net} (h:n.floods.any (fun p=>decide (100 < p.addrs.length)) = true):D4 n = true:=by simp only [D4,h,Bool.or_true,Bool.true_or]
theorem great4 {n:Net} (h:n.vrfs.any (fun v=>decide (100 < v.imports.length) || decide (100 < v.exports.length)) = true):D4 n = true:=by simp only [D4,h,Bool.or_true]
theorem greatS (n:Net):Sy.Spec Tryz.prog 10 [Aq n] [] (Ad (D4 n)) []:=Ab Γ hm 100 F10 Tryz.ntmps10 rfl fun F hF=>by
 conv=>whnf
 (repeat' (first | (refine ⟨fun h=>?_,fun h=>?_⟩ <;> (repeat (first | simp only [decide_eq_true_eq] at h | simp only [decide_eq_false_iff_not] at h)) <;> ((refine rg ?_);(conv=>whnf);repeat((refine aT ?_);(refine rg ?_);(conv=>whnf)))) | (refine Ac rfl (.cons .tmp .nil) ?_ rfl)))
 all_goals first
  | (refine congrArg Ad ?_; clear hF; grind [D4])
  | skip
 have l1:n.ports.length ≤ 200:=by omega
 have l2:n.domains.length ≤ 200:=by omega
 have l3:n.floods.length ≤ 200:=by omega
 have l4:n.vrfs.length ≤ 200:=by omega
 refine B1 1 8 (Aq n) E E E ?_
 refine Bc n.ports.length (fun j=>Ep (fun _ p=>!(decide (100 < p.tagged.length))) n.ports j) (fun j=>[(1,.ref 8 (Aq n) 0),(3,Aa j)]) (fun _=>[]) [] (Bf _ _) ⟨⟨E,E,E,E,Y⟩,Y,E,E⟩ ?_
 intro j hj hI
 refine rg ?_;conv=>whnf
 refine ⟨fun h=>?_,fun h=>?_⟩
 ·have hjl:j < n.ports.length:=by simpa using h
  refine rg ?_;conv=>whnf
  (repeat' (first | (refine ⟨fun h=>?_,fun h=>?_⟩ <;> (repeat (first | simp only [decide_eq_true_eq] at h | simp only [decide_eq_false_iff_not] at h)) <;> ((refine rg ?_);(conv=>whnf))) | (refine Ac rfl (.cons .tmp .nil) ?_ rfl) | (refine ⟨(by kernel_rfl),?_⟩; ((conv=>whnf))) | (refine ⟨by (omega),by (omega),?_⟩; ((conv=>whnf))) | (refine ⟨by (unfold I64; omega),?_⟩; ((conv=>whnf))) | refine Ba [] hI hjl ?_ ⟨⟨rfl,rfl,rfl,rfl,trivial⟩,trivial,rfl,rfl⟩))
  all_goals (simp only [Int.toNat_natCast] at *)
  ·refine congrArg Ad ?_
   exact great1 (Qf hjl (by simp; omega))
  ·exact Bb hI hjl (by simp; omega)
 have a1:n.ports.any (fun p=>decide (100 < p.tagged.length)) = false:=Lt hI (by simpa using h)
 clear hI hj h
 refine rg ?_;conv=>whnf
 refine Bc n.domains.length (fun j=>Ep (fun _ p=>!(decide (100 < p.peers.length))) n.domains j) (fun j=>[(1,.ref 8 (Aq n) 0),(4,Aa j)]) (fun _=>[]) [] (Bf _ _) ⟨⟨E,E,E,E,Y⟩,Y,E,E⟩ ?_
 intro j hj hI
 refine rg ?_;conv=>whnf
 refine ⟨fun h=>?_,fun h=>?_⟩
 ·have hjl:j < n.domains.length:=by simpa using h
  refine rg ?_;conv=>whnf
  (repeat' (first | (refine ⟨fun h=>?_,fun h=>?_⟩ <;> (repeat (first | simp only [decide_eq_true_eq] at h | simp only [decide_eq_false_iff_not] at h)) <;> ((refine rg ?_);(conv=>whnf))) | (refine Ac rfl (.cons .tmp .nil) ?_ rfl) | (refine ⟨(by kernel_rfl),?_⟩; ((conv=>whnf))) | (refine ⟨by (omega),by (omega),?_⟩; ((conv=>whnf))) | (refine ⟨by (unfold I64; omega),?_⟩; ((conv=>whnf))) | refine Ba [] hI hjl ?_ ⟨⟨rfl,rfl,rfl,rfl,trivial⟩,trivial,rfl,rfl⟩))
  all_goals (simp only [Int.toNat_natCast] at *)
  ·refine congrArg Ad ?_
   exact great2 (Qf hjl (by simp; omega))
  ·exact Bb hI hjl (by simp; omega)
 have a2:n.domains.any (fun p=>decide (100 < p.peers.length)) = false:=Lt hI (by simpa using h)
 clear hI hj h
 refine rg ?_;conv=>whnf
 refine Bc n.floods.length (fun j=>Ep (fun _ p=>!(decide (100 < p.addrs.length))) n.floods j) (fun j=>[(1,.ref 8 (Aq n) 0),(5,Aa j)]) (fun _=>[]) [] (Bf _ _) ⟨⟨E,E,E,E,Y⟩,Y,E,E⟩ ?_
 intro j hj hI
 refine rg ?_;conv=>whnf
 refine ⟨fun h=>?_,fun h=>?_⟩
 ·have hjl:j < n.floods.length:=by simpa using h
  refine rg ?_;conv=>whnf
  (repeat' (first | (refine ⟨fun h=>?_,fun h=>?_⟩ <;> (repeat (first | simp only [decide_eq_true_eq] at h | simp only [decide_eq_false_iff_not] at h)) <;> ((refine rg ?_);(conv=>whnf))) | (refine Ac rfl (.cons .tmp .nil) ?_ rfl) | (refine ⟨(by kernel_rfl),?_⟩; ((conv=>whnf))) | (refine ⟨by (omega),by (omega),?_⟩; ((conv=>whnf))) | (refine ⟨by (unfold I64; omega),?_⟩; ((conv=>whnf))) | refine Ba [] hI hjl ?_ ⟨⟨rfl,rfl,rfl,rfl,trivial⟩,trivial,rfl,rfl⟩))
  all_goals (simp only [Int.toNat_natCast] at *)
  ·refine congrArg Ad ?_
   exact great3 (Qf hjl (by simp; omega))
  ·exact Bb hI hjl (by simp; omega)
 have a3:n.floods.any (fun p=>decide (100 < p.addrs.length)) = false:=Lt hI (by simpa using h)
 clear hI hj h
 refine rg ?_;conv=>whnf
 refine Bc n.vrfs.length (fun j=>Ep (fun _ v=>!(decide (100 < v.imports.length) || decide (100 < v.exports.length))) n.vrfs j) (fun j=>[(1,.ref 8 (Aq n) 0),(6,Aa j)]) (fun _=>[]) [] (Bf _ _) ⟨⟨E,E,E,E,Y⟩,Y,E,E⟩ ?_
 intro j hj hI
 refine rg ?_;conv=>whnf
 refine ⟨fun h=>?_,fun h=>?_⟩
 ·have hjl:j < n.vrfs.length:=by simpa using h
  refine rg ?_;conv=>whnf
  (repeat' (first | (refine ⟨fun h=>?_,fun h=>?_⟩ <;> (repeat (first | simp only [decide_eq_true_eq] at h | simp only [decide_eq_false_iff_not] at h)) <;> ((refine rg ?_);(conv=>whnf);repeat((refine aT ?_);(refine rg ?_);(conv=>whnf)))) | (refine Ac rfl (.cons .tmp .nil) ?_ rfl) | (refine ⟨(by kernel_rfl),?_⟩; ((conv=>whnf))) | (refine ⟨by (omega),by (omega),?_⟩; ((conv=>whnf))) | (refine ⟨by (unfold I64; omega),?_⟩; ((conv=>whnf))) | refine Ba [] hI hjl ?_ ⟨⟨rfl,rfl,rfl,rfl,trivial⟩,trivial,rfl,rfl⟩))
  all_goals (simp only [Int.toNat_natCast] at *)
  all_goals first
   | exact Bb hI hjl (by simp; omega)
   | (refine congrArg Ad ?_; exact great4 (Qf hjl (by simp; omega)))
 have a4:n.vrfs.any (fun v=>decide (100 < v.imports.length) || decide (100 < v.exports.length)) = false:=Lt hI (by simpa using h)
 clear hI hj h
 refine rg ?_;conv=>whnf
 refine Ac E (.cons .tmp .nil) (congrArg Ad ?_) E
 rw [D4,a1,a2,a3,a4]
 simp
 omega
def Cv:Vec → List Vec → Vec
 | v,[]=>v
 | v,x :: l=>Cv (if Ws x v then x else v) l
def zeroV:Vec:=⟨0,0,0,0,0⟩
def J1:List Vec → Vec × Bool
 | []=>(zeroV,false)
 | v :: l=>(Cv v (v :: l),true)
theorem Ur:∀ (v:Vec) (l:List Vec),Cv v l = v ∨ Cv v l ∈ l
 | v,[]=>.inl rfl
 | v,x :: l=>by
  rw [Cv]
  rcases Ur (if Ws x v then x else v) l with h | h
  ·rw [h]
   split
   ·exact .inr (by simp)
   ·exact .inl E
  ·exact .inr (by simp [h])
theorem Aan (v:Vec) (l:List Vec) (j:Nat) (h:j < l.length):Cv v (l.take (j + 1)) = (if Ws l[j] (Cv v (l.take j)) then l[j] else Cv v (l.take j)):=by
 have key:∀ (a b:List Vec) (v:Vec),Cv v (a ++ b) = Cv (Cv v a) b:=by
  intro a
  induction a with
  | nil=>intro b v; rfl
  | cons x a ih=>intro b v; rw [List.cons_append,Cv,Cv,ih]
 rw [List.take_succ_eq_append_getElem h,key]
 rfl
theorem leastS (l:List Vec) (hl:Am l):Sy.Spec Tryz.prog 236 [.sl 5 Kj l] [] (.tup [Kj (J1 l).1,Ad (J1 l).2]) []:=Ab Γ hm 100 F236 Tryz.ntmps236 rfl fun F hF=>by
 unfold Am at hl
 have hR:∀ h:0 < l.length,J1 l = (Cv l[0] l,true):=fun h=>by
  cases l with
  | nil=>simp at h
  | cons v t=>rfl
 conv=>whnf
 refine ⟨fun h=>?_,fun h=>?_⟩
 ·have:l = []:=List.eq_nil_of_length_eq_zero (by have:(l.length:Int) = 0:=(by simpa using h); omega)
  subst this
  refine rg ?_;conv=>whnf
  exact done E (.cons (.cell E E E E) (.cons .tmp .nil)) [] [] (fun _ h=>h) E E ⟨Y,Y,E,E⟩
 have h0:0 < l.length:=by
  have:¬ (l.length:Int) = 0:=by simpa using h
  omega
 rw [hR h0]
 refine rg ?_;conv=>whnf
 refine ⟨E,by decide,h0,?_⟩
 conv=>whnf
 have e0:l[(0:Int).toNat]'(h0) = l[0]:=rfl
 generalize hv:l[0] = v at *
 refine A0 l.length (fun j=>[(0,.sl 5 Kj l),(2,.ptr 2 0),(4,.ptr 4 0),(14,.sl 5 Kj l),(15,Aa l.length),(16,Aa j)]) (fun j=>[(2,.box [Aa 0,Aa 0,Aa 0,Aa 0,Aa 0]),(4,.box [Aa (Cv v (l.take j)).root,Aa (Cv v (l.take j)).cost,Aa (Cv v (l.take j)).bridge,Aa (Cv v (l.take j)).port,Aa (Cv v (l.take j)).own])]) []
  ⟨⟨rfl,rfl,rfl,rfl,rfl,rfl,rfl,rfl,rfl,rfl,rfl,rfl,trivial⟩,⟨.inl rfl,rfl,.inl (by subst hv; rfl),rfl,trivial⟩,rfl,rfl⟩ ?_
 intro j hj
 refine rg ?_;conv=>whnf
 refine ⟨fun h=>?_,fun h=>?_⟩
 ·have hlt:j < l.length:=by simpa using h
  have hdrop:=Aan v l j hlt
  generalize hx:l[j] = x at hdrop
  have hx':l[(j:Int).toNat]'(by omega) = x:=hx
  generalize hmn:Cv v (l.take j) = m at hdrop
  refine rg ?_;conv=>whnf
  refine ⟨E,by omega,by omega,?_⟩
  rw [hx']
  conv=>whnf
  refine Ag (lessS x m) F287 E E E E E ?_
  refine rg ?_;conv=>whnf
  refine ⟨fun h2=>?_,fun h2=>?_⟩
  ·rw [h2,if_pos rfl] at hdrop
   refine rg ?_;conv=>whnf
   refine ⟨by unfold I64; omega,?_⟩
   conv=>whnf
   exact Ar [] hlt ⟨⟨E,E,E,E,E,E,E,E,E,E,E,E,Y⟩,⟨.inl E,E,.inl (by rw [hdrop]; rfl),E,Y⟩,E,E⟩
  ·rw [h2] at hdrop
   refine rg ?_;conv=>whnf
   refine ⟨by unfold I64; omega,?_⟩
   conv=>whnf
   exact Ar [] hlt ⟨⟨E,E,E,E,E,E,E,E,E,E,E,E,Y⟩,⟨.inl E,E,.inl (by rw [hdrop]; rfl),E,Y⟩,E,E⟩
 ·have hjl:¬ j < l.length:=by simpa using h
  rw [List.take_of_length_le (by omega)]
  refine rg ?_;conv=>whnf
  exact done E (.cons (.cell E E E E) (.cons .tmp .nil)) [] [] (fun _ h=>h) E E ⟨Y,Y,E,E⟩
theorem leastR_mem {l:List Vec} (h:(J1 l).2 = true):(J1 l).1 ∈ l:=by
 cases l with
 | nil=>cases h
 | cons v t =>
  rcases Ur v (v :: t) with h | h
  ·show Cv v (v :: t) ∈ v :: t
   rw [h]; simp
  ·exact h
theorem Sj (n:Net):∀ x ∈ C3 n,0 ≤ x ∧ x < n.devices.length:=fun x hx=>by
 rw [Zz,I8] at hx
 obtain ⟨i,hi,rfl⟩:=List.mem_map.1 hx
 have hi:=List.mem_range.1 hi
 have h1:=List.countP_le_length (p:=fun k=>B8 n (k:Nat) i) (l:=List.range n.devices.length)
 rw [List.length_range] at h1
 have h2:(List.range n.devices.length).countP (fun k=>B8 n (k:Nat) i) ≠ n.devices.length:=fun e=>by
  have:=List.countP_eq_length.1 (e.trans List.length_range.symm) i (List.mem_range.2 hi)
  rw [J8] at this
  cases this
 omega
theorem Ix (n:Net):(C3 n).length = n.devices.length:=by rw [Zz,I8]; simp
end Go.Sy.YtmelpejjondedaaGreat
namespace Go.Sy.YtmelpejjondedaaGreat
open Go.Proofs
attribute [local irreducible] Go.Sy.G Go.Sy.DR
set_option maxRecDepth 100000
set_option maxHeartbeats 4000000
def L5 (n:Net) (up:List Bool) (ranks:List Int) (x y:SV):List SV:=[.sl 5 Bj n.devices,.sl 7 A9 n.ports,.sl 3 Cg n.links,.sl 6 Au n.domains,.sl 4 Bg n.statics,.sl 4 Bz n.floods,.sl 5 Cu n.vrfs,.sl 5 Dn n.irbs,.sl 1 Ad up,.sl 1 Aa ranks,x,y]
def Cq (n:Net) (up:List Bool) (i:Nat):Int :=
 let p:=n.ports.getD i default
 if p.link < 0 || !(up.getD p.link.toNat false) then -1 else (nth n.links p.link).a + (nth n.links p.link).b - i
theorem farS (n:Net) (up:List Bool) (ranks:List Int) (x y:SV) (_hx:(x.boxed && x.data && y.boxed && y.data && Nat.beq (cellsOf x).length 1 && Nat.beq (cellsOf y).length 1) = true) (i:Nat) (hr:Af n = true) (hu:up.length = n.links.length) (hi:i < n.ports.length) :
  Sy.Spec Tryz.prog 158 [.ref 12 (.agg (L5 n up ranks x y)) 0,Aa i] [] (Aa (Cq n up i)) []:=Ab Γ hm 100 F158 Tryz.ntmps158 rfl fun F hF=>by
 have hpl:=Lk hr hi
 have hf:=Dh hr
 have e1:n.ports[(i:Int).toNat]'(by omega) = n.ports[i]:=rfl
 have hfar:Cq n up i = if n.ports[i].link < 0 || !(up.getD n.ports[i].link.toNat false) then -1 else (nth n.links n.ports[i].link).a + (nth n.links n.ports[i].link).b - i:=by
  rw [Cq,Az hi]
 generalize hp:n.ports[i] = p at *
 have hle:=fun h=>Jd hr (i:=p.link.toNat) h
 conv=>whnf
 refine ⟨E,by omega,by omega,?_⟩
 rw [e1]
 conv=>whnf
 (repeat' (first | (refine ⟨fun h=>?_,fun h=>?_⟩ <;> (repeat (first | simp only [decide_eq_true_eq] at h | simp only [decide_eq_false_iff_not] at h | simp only [Bool.not_eq_true'] at h | simp only [Bool.not_eq_false'] at h)) <;> ((first|refine rg ?_|refine rd (by kernel_rfl) ?_);(conv=>whnf))) | (refine Ac rfl (.cons .tmp .nil) ?_ rfl) | (refine ⟨(by kernel_rfl),?_⟩; ((conv=>whnf);repeat((refine aT ?_);(refine rg ?_);(conv=>whnf)))) | (refine ⟨by (first | omega | ((have hq:=hle (by omega); unfold I64; omega))),by (first | omega | ((have hq:=hle (by omega); unfold I64; omega))),?_⟩; ((conv=>whnf)))))
 all_goals (refine congrArg Aa ?_; rw [hfar])
 ·simp_all
 ·have h1:up.getD p.link.toNat false = false:=by rw [Az (by omega)]; assumption
  rw [h1]; simp
 ·have h1:up.getD p.link.toNat false = true:=by rw [Az (by omega)]; assumption
  rw [h1,An (by omega)]
  simp_all
def Km (n:Net) (up:List Bool) (ranks roots costs:List Int):SV:=.ref 12 (.agg (L5 n up ranks (.sl 1 Aa roots) (.sl 1 Aa costs))) 0
def I5 (n:Net) (ranks costs:List Int) (i k:Nat):Bool :=
 let a:=(n.ports.getD i default).dev
 let b:=(n.ports.getD k default).dev
 decide (nth costs a < nth costs b) || (nth costs a == nth costs b && decide (nth ranks a < nth ranks b))
theorem Ab4 (n:Net) (up:List Bool) (ranks roots costs:List Int) (i k:Nat) (hr:Af n = true) (hrk:ranks.length = n.devices.length) (hc:costs.length = n.devices.length) (hi:i < n.ports.length) (hk:k < n.ports.length) :
  Sy.Spec Tryz.prog 159 [Km n up ranks roots costs,Aa i,Aa k] [] (Ad (I5 n ranks costs i k)) []:=Ab Γ hm 100 F159 Tryz.ntmps159 rfl fun F hF=>by
 have hd1:=Kr hr hi
 have hd2:=Kr hr hk
 have e1:n.ports[(i:Int).toNat]'(by omega) = n.ports[i]:=rfl
 have e2:n.ports[(k:Int).toNat]'(by omega) = n.ports[k]:=rfl
 have hres:I5 n ranks costs i k = (decide (nth costs n.ports[i].dev < nth costs n.ports[k].dev) || (nth costs n.ports[i].dev == nth costs n.ports[k].dev && decide (nth ranks n.ports[i].dev < nth ranks n.ports[k].dev))):=by
  rw [I5,Az hi,Az hk]
 rw [An (by omega),An (by omega),An (by omega),An (by omega)] at hres
 conv=>whnf
 (repeat' (first | (refine ⟨fun h=>?_,fun h=>?_⟩ <;> (repeat (first | simp only [decide_eq_true_eq] at h | simp only [decide_eq_false_iff_not] at h | simp only [beq_iff_eq] at h | simp only [beq_eq_false_iff_ne] at h)) <;> ((refine rd (by kernel_rfl) ?_);(conv=>whnf))) | (refine Ac rfl (.cons .tmp .nil) ?_ rfl) | (refine ⟨(by kernel_rfl),?_⟩; ((conv=>whnf))) | (refine ⟨by (first | omega | (simp only [Int.toNat_natCast]; omega)),by (first | omega | (simp only [Int.toNat_natCast]; omega)),?_⟩; ((conv=>whnf)))))
 all_goals (refine congrArg Ad ?_; rw [hres]; clear hF hres hr; simp only [Int.toNat_natCast] at *; grind)
theorem U7 {n:Net} {up:List Bool} (h:Af n = true) {i:Nat} (hi:i < n.ports.length) (hf:0 ≤ Cq n up i):Cq n up i < n.ports.length:=by
 have hp:=Jt h hi
 have hpl:=Lk h hi
 simp only [Im,Bool.and_eq_true,Bool.or_eq_true,beq_iff_eq] at hp
 have hp:=hp.2
 unfold Cq at *
 rw [Az hi] at *
 simp only at *
 split at hf
 ·omega
 ·rename_i hc
  rw [if_neg hc]
  simp only [Bool.or_eq_true,decide_eq_true_eq,not_or] at hc
  rcases hp with hp | hp
  ·omega
  ·have hl:n.ports[i].link.toNat < n.links.length:=by omega
   have he:=Jd h hl
   rw [An hl] at *
   omega
def Vj (n:Net) (up:List Bool) (ranks roots costs:List Int) (dev:Int) (i:Nat):Option Vec :=
 let p:=n.ports.getD i default
 let far:=Cq n up i
 let there:=(nth n.ports far).dev
 if p.dev == dev && decide (0 ≤ far) then some ⟨nth roots there,nth costs there + p.cost,nth ranks there,far,i⟩ else none
def Jn (n:Net) (up:List Bool) (ranks roots costs:List Int) (dev:Int) (j:Nat):List Vec:=(List.range j).filterMap (Vj n up ranks roots costs dev)
theorem Adw (n:Net) (up:List Bool) (ranks roots costs:List Int) (dev:Int) (j:Nat):Jn n up ranks roots costs dev (j + 1) = Jn n up ranks roots costs dev j ++ (Vj n up ranks roots costs dev j).toList:=by
 rw [Jn,List.range_succ,List.filterMap_append]
 cases h:Vj n up ranks roots costs dev j <;> simp [Jn,h]
theorem Qe (n:Net) (up:List Bool) (ranks roots costs:List Int) (dev:Int) (j:Nat):(Jn n up ranks roots costs dev j).length ≤ j:=by
 have:=List.length_filterMap_le (Vj n up ranks roots costs dev) (List.range j)
 simpa [Jn] using this
def Mk (n:Net) (up:List Bool) (ranks roots costs:List Int) (dev:Int):Int :=
 let r:=J1 (Jn n up ranks roots costs dev n.ports.length)
 if !r.2 || nth roots dev == nth ranks dev then -1 else r.1.own
theorem bestS (n:Net) (up:List Bool) (ranks roots costs:List Int) (dev:Int) (hr:Af n = true) (hu:up.length = n.links.length) (hcost:Cr n = true) (hrk:ranks.length = n.devices.length) (hro:roots.length = n.devices.length) (hc:costs.length = n.devices.length)
  (hb:∀ c ∈ costs,0 ≤ c ∧ c < 1000000000) (hd:0 ≤ dev ∧ dev < n.devices.length) :
  Sy.Spec Tryz.prog 160 [Km n up ranks roots costs,Aa dev] [] (Aa (Mk n up ranks roots costs dev)) []:=Ab Γ hm 100 F160 Tryz.ntmps160 rfl fun F hF=>by
 have hf:=Dh hr
 conv=>whnf
 refine B5 5 1000 5 Kj E E ?_
 refine A0 n.ports.length (fun j=>[(0,Km n up ranks roots costs),(1,Aa dev),(5,.osl 1000),(16,.sl 7 A9 n.ports),(17,Aa n.ports.length),(18,Aa j)]) (fun j=>[(1000,.row 5 Kj (Jn n up ranks roots costs dev j))]) []
  ⟨⟨rfl,rfl,rfl,rfl,rfl,rfl,rfl,rfl,rfl,rfl,rfl,rfl,trivial⟩,⟨.inl rfl,rfl,trivial⟩,rfl,rfl⟩ ?_
 intro j hj
 refine rg ?_;conv=>whnf
 refine ⟨fun h=>?_,fun h=>?_⟩
 ·have hlt:j < n.ports.length:=by simpa using h
  have e1:n.ports[(j:Int).toNat]'(by omega) = n.ports[j]:=rfl
  have hfar:=farS n up ranks (.sl 1 Aa roots) (.sl 1 Aa costs) rfl j hr hu hlt
  have hfl:=U7 (up:=up) hr hlt
  have hsucc:=Adw n up ranks roots costs dev j
  have hbl:=Qe n up ranks roots costs dev j
  have hcand:Vj n up ranks roots costs dev j = if n.ports[j].dev == dev && decide (0 ≤ Cq n up j) then some ⟨nth roots (nth n.ports (Cq n up j)).dev,nth costs (nth n.ports (Cq n up j)).dev + n.ports[j].cost,nth ranks (nth n.ports (Cq n up j)).dev,Cq n up j,j⟩ else none:=by
   rw [Vj,Az hlt]
  generalize Cq n up j = k at *
  have hpc:1 ≤ n.ports[j].cost ∧ n.ports[j].cost ≤ 65535:=by
   simp only [Cr,Bool.not_eq_true',List.any_eq_false] at hcost
   have:=hcost _ (List.getElem_mem hlt)
   simp only [Is,Bool.or_eq_true,decide_eq_true_eq,not_or] at this
   omega
  obtain ⟨p,hp⟩:∃ p,n.ports[j] = p:=⟨_,rfl⟩
  rw [hp] at e1 hcand hpc
  refine rg ?_;conv=>whnf
  refine ⟨E,by omega,by omega,?_⟩
  rw [e1]
  conv=>whnf
  refine Ag hfar F158 E E E E E ?_
  refine rg ?_;conv=>whnf
  refine ⟨fun h=>?_,fun h=>?_⟩
  ·refine rg ?_;conv=>whnf
   refine ⟨fun h2=>?_,fun h2=>?_⟩
   ·have hk0:0 ≤ k:=of_decide_eq_true h2
    have hk1:=hfl hk0
    rw [if_pos (by simp only [Bool.and_eq_true,decide_eq_true_eq]; exact ⟨h,hk0⟩),An (l:=n.ports) (i:=k) (by omega)] at hcand
    have hpd:=Kr hr (i:=k.toNat) (by omega)
    obtain ⟨q,hq⟩:∃ q,n.ports[k.toNat]'(by omega) = q:=⟨_,rfl⟩
    rw [hq] at hcand hpd
    have hcb:=hb (costs[q.dev.toNat]'(by omega)) (List.getElem_mem _)
    rw [An (l:=roots) (i:=q.dev) (by omega),An (l:=costs) (i:=q.dev) (by omega),An (l:=ranks) (i:=q.dev) (by omega)] at hcand
    refine rg ?_;conv=>whnf
    refine ⟨E,hk0,by omega,?_⟩
    rw [hq]
    conv=>whnf
    refine ⟨(by kernel_rfl),?_⟩
    refine ⟨by omega,by omega,?_⟩
    conv=>whnf
    refine ⟨(by kernel_rfl),?_⟩
    refine ⟨by omega,by omega,?_⟩
    conv=>whnf
    refine ⟨by unfold I64; omega,?_⟩
    conv=>whnf
    refine ⟨(by kernel_rfl),?_⟩
    refine ⟨by omega,by omega,?_⟩
    conv=>whnf
    refine Bu (Ak Γ.toTy 72 E E E E E (.row E) (.lit (l:=[(⟨roots[q.dev.toNat]'(by omega),costs[q.dev.toNat]'(by omega) + p.cost,ranks[q.dev.toNat]'(by omega),k,j⟩:Vec)]) E E) (by simp) (by simp; omega) (by simp; omega)) (by kernel_rfl) E ?_
    refine rd (by kernel_rfl) ?_;conv=>whnf
    refine ⟨(by kernel_rfl),?_⟩
    conv=>whnf
    refine ⟨by unfold I64; omega,?_⟩
    conv=>whnf
    refine Ar [(1000,72)] hlt ⟨⟨E,E,E,E,E,E,E,E,E,E,E,E,Y⟩,⟨.inl (congrArg (Ob.row 5 Kj) ?_),E,Y⟩,E,E⟩
    rw [hsucc,hcand]
    rfl
   ·have hk0:¬ 0 ≤ k:=of_decide_eq_false h2
    rw [if_neg (by simp only [Bool.and_eq_true,decide_eq_true_eq]; exact fun hh=>hk0 hh.2)] at hcand
    refine rg ?_;conv=>whnf
    refine ⟨by unfold I64; omega,?_⟩
    conv=>whnf
    refine Ar [] hlt ⟨⟨E,E,E,E,E,E,E,E,E,E,E,E,Y⟩,⟨.inl (congrArg (Ob.row 5 Kj) ?_),E,Y⟩,E,E⟩
    rw [hsucc,hcand]
    simp
  ·rw [if_neg (by rw [h]; simp)] at hcand
   (refine rg ?_;(conv=>whnf);refine aF ?_;refine rg ?_;conv=>whnf)
   refine ⟨by unfold I64; omega,?_⟩
   conv=>whnf
   refine Ar [] hlt ⟨⟨E,E,E,E,E,E,E,E,E,E,E,E,Y⟩,⟨.inl (congrArg (Ob.row 5 Kj) ?_),E,Y⟩,E,E⟩
   rw [hsucc,hcand]
   simp
 ·have hjl:j = n.ports.length:=by
   have:¬ j < n.ports.length:=by simpa using h
   omega
  subst hjl
  have hbl:=Qe n up ranks roots costs dev n.ports.length
  have hbi:Mk n up ranks roots costs dev = if !(J1 (Jn n up ranks roots costs dev n.ports.length)).2 || nth roots dev == nth ranks dev then -1 else (J1 (Jn n up ranks roots costs dev n.ports.length)).1.own:=rfl
  rw [An (by omega),An (by omega)] at hbi
  have hls:=leastS (Jn n up ranks roots costs dev n.ports.length) (by unfold Am; omega)
  generalize J1 (Jn n up ranks roots costs dev n.ports.length) = r at hls hbi
  obtain ⟨v,ok⟩:=r
  simp only at hls hbi
  rw [hbi]
  refine rg ?_;conv=>whnf
  refine At 1000 E ?_
  refine Ag hls F236 E E E E E ?_
  refine rg ?_;conv=>whnf
  (repeat' (first | (refine ⟨fun h=>?_,fun h=>?_⟩ <;> (repeat (first | simp only [beq_iff_eq] at h | simp only [beq_eq_false_iff_ne] at h | simp only [Bool.not_eq_true'] at h | simp only [Bool.not_eq_false'] at h)) <;> ((first|refine rg ?_|refine rd (by kernel_rfl) ?_);(conv=>whnf))) | (refine Ac rfl (.cons .tmp .nil) ?_ rfl) | (refine ⟨(by kernel_rfl),?_⟩; ((conv=>whnf);repeat((refine aT ?_);(refine rg ?_);(conv=>whnf)))) | (refine ⟨by (omega),by (omega),?_⟩; ((conv=>whnf)))))
  all_goals (refine congrArg Aa ?_; clear hF hls hbi; grind)
theorem best_lt {n:Net} {up:List Bool} {ranks roots costs:List Int} {dev:Int} (h:0 ≤ Mk n up ranks roots costs dev):Mk n up ranks roots costs dev < n.ports.length:=by
 have hmem:=@leastR_mem (Jn n up ranks roots costs dev n.ports.length)
 unfold Mk at *
 simp only at *
 split at h
 ·omega
 ·rename_i hc
  rw [if_neg hc]
  simp only [Bool.or_eq_true,Bool.not_eq_true',not_or] at hc
  have h2:=hmem (by simpa using hc.1)
  obtain ⟨i,hi,he⟩:=List.mem_filterMap.1 h2
  have hi:=List.mem_range.1 hi
  unfold Vj at he
  simp only at he
  split at he
  ·have e:=congrArg Vec.own (Option.some.inj he)
   simp only at e
   omega
  ·cases he
def Aec (n:Net) (up:List Bool) (ranks costs:List Int) (i:Nat):Int :=
 if Cq n up i < 0 then 0 else if I5 n ranks costs i (Cq n up i).toNat then 2 else 3
def E1 (n:Net) (up:List Bool) (ranks costs:List Int) (j:Nat):List Int:=(List.range n.ports.length).map fun i=>if i < j then Aec n up ranks costs i else 0
theorem L6 (n:Net) (up:List Bool) (ranks costs:List Int) (j:Nat):(E1 n up ranks costs j).length = n.ports.length:=by simp [E1]
theorem Zs (n:Net) (up:List Bool) (ranks costs:List Int):E1 n up ranks costs 0 = List.replicate n.ports.length 0:=by
 rw [E1]
 exact List.ext_getElem (by simp) (by simp)
theorem Zt (n:Net) (up:List Bool) (ranks costs:List Int) (j:Nat) (hj:j < n.ports.length):E1 n up ranks costs (j + 1) = (E1 n up ranks costs j).set j (Aec n up ranks costs j):=by
 refine List.ext_getElem (by simp [E1]) (fun i h1 h2=>?_)
 rw [List.getElem_set]
 simp only [E1,List.getElem_map,List.getElem_range]
 rcases Nat.lt_trichotomy i j with h | h | h
 ·rw [if_pos (by omega),if_neg (by omega),if_pos h]
 ·subst h; rw [if_pos (by omega),if_pos rfl]
 ·rw [if_neg (by omega),if_neg (by omega),if_neg (by omega)]
theorem Zu (n:Net) (up:List Bool) (ranks costs:List Int) (j:Nat) (h:Aec n up ranks costs j = 0):E1 n up ranks costs (j + 1) = E1 n up ranks costs j:=by
 simp only [E1]
 refine List.map_congr_left (fun i _=>?_)
 by_cases hij:i < j
 ·rw [if_pos (by omega),if_pos hij]
 ·by_cases he:i = j
  ·subst he; rw [if_pos (by omega),if_neg hij,h]
  ·rw [if_neg (by omega),if_neg hij]
def Iw (n:Net) (up:List Bool) (ranks roots costs:List Int):Nat → List Int
 | 0=>E1 n up ranks costs n.ports.length
 | d + 1=>if 0 ≤ Mk n up ranks roots costs d then (Iw n up ranks roots costs d).set (Mk n up ranks roots costs d).toNat 1 else Iw n up ranks roots costs d
theorem E8 (n:Net) (up:List Bool) (ranks roots costs:List Int):∀ d,(Iw n up ranks roots costs d).length = n.ports.length
 | 0=>L6 n up ranks costs _
 | d + 1=>by
  rw [Iw]
  split
  ·rw [List.length_set,E8]
  ·rw [E8]
theorem rolesS (n:Net) (up:List Bool) (ranks roots costs:List Int) (hr:Af n = true) (hu:up.length = n.links.length) (hcost:Cr n = true) (hrk:ranks.length = n.devices.length) (hro:roots.length = n.devices.length) (hc:costs.length = n.devices.length)
  (hb:∀ c ∈ costs,0 ≤ c ∧ c < 1000000000) :
  Sy.Spec Tryz.prog 85 [Km n up ranks roots costs] [] (.sl 1 Aa (Iw n up ranks roots costs n.devices.length)) []:=Ab Γ hm 100 F85 Tryz.ntmps85 rfl fun F hF=>by
 have hf:=Dh hr
 conv=>whnf
 refine Ai (Bv Γ.toTy (d:=14) (n:=n.ports.length) Aa 0 E E E E E E E E (by omega) (by omega) E E E) E E ?_
 rw [← Zs n up ranks costs]
 refine rg ?_;conv=>whnf
 refine A0 n.ports.length (fun j=>[(0,Km n up ranks roots costs),(3,.osl 14),(20,Aa n.ports.length),(21,Aa j)]) (fun j=>[(14,.row 1 Aa (E1 n up ranks costs j))]) []
  ⟨⟨rfl,rfl,rfl,rfl,rfl,rfl,rfl,rfl,trivial⟩,⟨.inl rfl,rfl,trivial⟩,rfl,rfl⟩ ?_
 intro j hj
 refine rg ?_;conv=>whnf
 refine ⟨fun h=>?_,fun h=>?_⟩
 ·have hlt:j < n.ports.length:=by simpa using h
  have hfar:=farS n up ranks (.sl 1 Aa roots) (.sl 1 Aa costs) rfl j hr hu hlt
  have hfl:=U7 (up:=up) hr hlt
  have hlen:=L6 n up ranks costs j
  have hrole:Aec n up ranks costs j = if Cq n up j < 0 then 0 else if I5 n ranks costs j (Cq n up j).toNat then 2 else 3:=rfl
  have hsucc:=Zt n up ranks costs j hlt
  have hsame:=Zu n up ranks costs j
  generalize Cq n up j = k at *
  refine rg ?_;conv=>whnf
  refine Ag hfar F158 E E E E E ?_
  refine rg ?_;conv=>whnf
  refine ⟨fun h=>?_,fun h=>?_⟩
  ·have hk:k < 0:=of_decide_eq_true h
   rw [if_pos hk] at hrole
   refine rg ?_;conv=>whnf
   refine ⟨by unfold I64; omega,?_⟩
   conv=>whnf
   exact Ar [] hlt ⟨⟨E,E,E,E,E,E,E,E,Y⟩,⟨.inl (congrArg (Ob.row 1 Aa) (hsame hrole)),E,Y⟩,E,E⟩
  have hk:¬ k < 0:=of_decide_eq_false h
  rw [if_neg hk] at hrole
  obtain ⟨m,rfl⟩:∃ m:Nat,k = m:=⟨k.toNat,by omega⟩
  have hah:=Ab4 n up ranks roots costs j m hr hrk hc hlt (by omega)
  rw [Int.toNat_natCast] at hrole
  refine rg ?_;conv=>whnf
  refine Ag hah F159 E E E E E ?_
  refine rg ?_;conv=>whnf
  refine ⟨fun h=>?_,fun h=>?_⟩
  ·rw [h,if_pos rfl] at hrole
   rw [hrole] at hsucc
   refine rg ?_;conv=>whnf
   refine ⟨by omega,by omega,?_⟩
   conv=>whnf
   refine ⟨E,by omega,2,E,E,?_⟩
   conv=>whnf
   refine ⟨by unfold I64; omega,?_⟩
   conv=>whnf
   exact Ar [] hlt ⟨⟨E,E,E,E,E,E,E,E,Y⟩,⟨.inl (congrArg (Ob.row 1 Aa) hsucc),E,Y⟩,E,E⟩
  ·rw [h] at hrole
   simp only [Bool.false_eq_true,if_false] at hrole
   rw [hrole] at hsucc
   refine rg ?_;conv=>whnf
   refine ⟨by omega,by omega,?_⟩
   conv=>whnf
   refine ⟨E,by omega,3,E,E,?_⟩
   conv=>whnf
   refine ⟨by unfold I64; omega,?_⟩
   conv=>whnf
   exact Ar [] hlt ⟨⟨E,E,E,E,E,E,E,E,Y⟩,⟨.inl (congrArg (Ob.row 1 Aa) hsucc),E,Y⟩,E,E⟩
 have hjl:j = n.ports.length:=by
  have:¬ j < n.ports.length:=by simpa using h
  omega
 subst hjl
 refine rg ?_;conv=>whnf
 refine A0 n.devices.length (fun d=>[(0,Km n up ranks roots costs),(3,.osl 14),(47,Aa n.devices.length),(48,Aa d)]) (fun d=>[(14,.row 1 Aa (Iw n up ranks roots costs d))]) []
  ⟨⟨rfl,rfl,rfl,rfl,rfl,rfl,rfl,rfl,trivial⟩,⟨.inl rfl,rfl,trivial⟩,rfl,rfl⟩ ?_
 clear hj h
 intro d hdle
 refine rg ?_;conv=>whnf
 refine ⟨fun h=>?_,fun h=>?_⟩
 ·have hlt:d < n.devices.length:=by simpa using h
  have hbs:=bestS n up ranks roots costs d hr hu hcost hrk hro hc hb (by omega)
  have hbl:=@best_lt n up ranks roots costs d
  have hlen:=E8 n up ranks roots costs d
  have hsucc:Iw n up ranks roots costs (d + 1) = if 0 ≤ Mk n up ranks roots costs d then (Iw n up ranks roots costs d).set (Mk n up ranks roots costs d).toNat 1 else Iw n up ranks roots costs d:=rfl
  generalize Mk n up ranks roots costs d = k at *
  refine rg ?_;conv=>whnf
  refine Ag hbs F160 E E E E E ?_
  refine rg ?_;conv=>whnf
  refine ⟨fun h=>?_,fun h=>?_⟩
  ·have hk:0 ≤ k:=of_decide_eq_true h
   rw [if_pos hk] at hsucc
   refine rg ?_;conv=>whnf
   refine ⟨hk,by omega,?_⟩
   conv=>whnf
   refine ⟨E,by omega,1,E,E,?_⟩
   conv=>whnf
   refine ⟨by unfold I64; omega,?_⟩
   conv=>whnf
   exact Ar [] hlt ⟨⟨E,E,E,E,E,E,E,E,Y⟩,⟨.inl (congrArg (Ob.row 1 Aa) hsucc),E,Y⟩,E,E⟩
  ·have hk:¬ 0 ≤ k:=of_decide_eq_false h
   rw [if_neg hk] at hsucc
   refine rg ?_;conv=>whnf
   refine ⟨by unfold I64; omega,?_⟩
   conv=>whnf
   exact Ar [] hlt ⟨⟨E,E,E,E,E,E,E,E,Y⟩,⟨.inl (congrArg (Ob.row 1 Aa) hsucc),E,Y⟩,E,E⟩
 have hdl:d = n.devices.length:=by
  have:¬ d < n.devices.length:=by simpa using h
  omega
 subst hdl
 refine rg ?_;conv=>whnf
 refine At 14 E ?_
 exact Ac E (.cons .tmp .nil) E E
def Wi (n:Net) (up:List Bool) (ranks:List Int) (roots costs:List Int):Obs:=[(0,.box (L5 n up ranks (.osl 1) (.osl 2))),(1,.row 1 Aa roots),(2,.row 1 Aa costs)]
theorem farR (n:Net) (up:List Bool) (ranks roots costs:List Int) (i:Nat) (hr:Af n = true) (hu:up.length = n.links.length) (hi:i < n.ports.length) :
  Sy.Spec Tryz.prog 158 [.ptr 0 0,Aa i] (Wi n up ranks roots costs) (Aa (Cq n up i)) (Wi n up ranks roots costs):=Ab Γ hm 100 F158 Tryz.ntmps158 rfl fun F hF=>by
 have hpl:=Lk hr hi
 have hf:=Dh hr
 have e1:n.ports[(i:Int).toNat]'(by omega) = n.ports[i]:=rfl
 have hfar:Cq n up i = if n.ports[i].link < 0 || !(up.getD n.ports[i].link.toNat false) then -1 else (nth n.links n.ports[i].link).a + (nth n.links n.ports[i].link).b - i:=by
  rw [Cq,Az hi]
 generalize hp:n.ports[i] = p at *
 have hle:=fun h=>Jd hr (i:=p.link.toNat) h
 conv=>whnf
 refine ⟨E,by omega,by omega,?_⟩
 rw [e1]
 conv=>whnf
 (repeat' (first | (refine ⟨fun h=>?_,fun h=>?_⟩ <;> (repeat (first | simp only [decide_eq_true_eq] at h | simp only [decide_eq_false_iff_not] at h | simp only [Bool.not_eq_true'] at h | simp only [Bool.not_eq_false'] at h)) <;> ((first|refine rg ?_|refine rd (by kernel_rfl) ?_);(conv=>whnf))) | (refine ⟨(by kernel_rfl),?_⟩; ((conv=>whnf);repeat((refine aT ?_);(refine rg ?_);(conv=>whnf)))) | (refine ⟨by (first | omega | ((have hq:=hle (by omega); unfold I64; omega))),by (first | omega | ((have hq:=hle (by omega); unfold I64; omega))),?_⟩; ((conv=>whnf))) | refine done rfl (.cons .tmp .nil) [] (Wi n up ranks roots costs) (fun _ h=>h) ?_ rfl ⟨trivial,⟨.inl rfl,rfl,.inl rfl,rfl,.inl rfl,rfl,trivial⟩,rfl,rfl⟩))
 all_goals (refine congrArg Aa ?_; rw [hfar])
 ·simp_all
 ·have h1:up.getD p.link.toNat false = false:=by rw [Az (by omega)]; assumption
  rw [h1]; simp
 ·have h1:up.getD p.link.toNat false = true:=by rw [Az (by omega)]; assumption
  rw [h1,An (by omega)]
  simp_all
def Ck (n:Net) (up:List Bool) (x:Item) (q:List Item) (i:Nat):List Item :=
 if (n.ports.getD i default).dev = x.dev ∧ 0 ≤ Cq n up i then L8 q ⟨x.root,x.cost + (nth n.ports (Cq n up i)).cost,(nth n.ports (Cq n up i)).dev⟩ else q
def Jv (n:Net) (up:List Bool) (s:List Item × List Int × List Int):List Item × List Int × List Int :=
 let x:=(Cd s.1).getLast?.getD default
 let q:=(Cd s.1).dropLast
 if 0 ≤ nth s.2.1 x.dev then (q,s.2) else ((List.range n.ports.length).foldl (Ck n up x) q,s.2.1.set x.dev.toNat x.root,s.2.2.set x.dev.toNat x.cost)
def D3 (n:Net) (up:List Bool):Nat → List Item × List Int × List Int → List Item × List Int × List Int
 | 0,s=>s
 | f + 1,s=>if s.1 = [] then s else D3 n up f (Jv n up s)
end Go.Sy.YtmelpejjondedaaGreat
namespace Go.Sy.YtmelpejjondedaaGreat
theorem Mn (q:List Item) (i j:Nat) (hi:i < q.length) (hj:j < q.length):(C2 q i j).Perm q:=by
 rw [C2,Az hi,Az hj]
 exact List.set_set_perm hi hj
theorem Zb:∀ (f:Nat) (q:List Item) (j:Nat),j < q.length → (upF f q j).Perm q
 | 0,_,_,_=>.refl _
 | f + 1,q,j,hj=>by
  rw [upF]
  split
  ·exact .refl _
  ·split
   ·exact (Zb f _ _ (by rw [Av]; omega)).trans (Mn q _ _ (by omega) hj)
   ·exact .refl _
theorem Vc:∀ (f:Nat) (q:List Item) (i n:Nat),i < q.length → n ≤ q.length → (Cz f q i n).1.Perm q
 | 0,_,_,_,_,_=>.refl _
 | f + 1,q,i,n,hi,hn=>by
  rw [Cz]
  split
  ·rename_i h
   have hc:=Jm q i n h
   split
   ·exact (Vc f _ _ n (by rw [Av]; omega) (by rw [Av]; exact hn)).trans (Mn q _ _ hi (by omega))
   ·exact .refl _
  ·exact .refl _
theorem Jx (q:List Item) (x:Item):(L8 q x).Perm (x :: q) :=
 (Zb _ _ _ (by simp)).trans (List.perm_append_comm (l₁:=q) (l₂:=[x]))
theorem Hw (q:List Item) (x:Item):(L8 q x).length = q.length + 1:=by rw [L8,Ts]; simp
theorem Ll (q:List Item) (hq:q ≠ []):(Cd q).Perm q:=by
 have h0:0 < q.length:=List.length_pos_iff.2 hq
 exact (Vc _ _ _ _ (by rw [Av]; exact h0) (by rw [Av]; omega)).trans (Mn q _ _ h0 (by omega))
def Ij (q:List Item) (n:Nat):Prop:=∀ c,0 < c → c < n → c < q.length → Bo (q.getD c default) (q.getD ((c - 1) / 2) default) = false
theorem J3 {x y z:Item} (h1:Bo y x = false) (h2:Bo z y = false):Bo z x = false:=by
 unfold Bo at *
 grind
theorem Adc {q:List Item} {n:Nat} (h:Ij q n) (hn:n ≤ q.length):∀ c,c < n → Bo (q.getD c default) (q.getD 0 default) = false:=by
 intro c
 induction c using Nat.strongRecOn with
 | ind c ih =>
  intro hc
  rcases Nat.eq_zero_or_pos c with h0 | h0
  ·subst h0; unfold Bo; grind
  ·have h1:=h c h0 hc (by omega)
   have h2:=ih ((c - 1) / 2) (by omega) (by omega)
   exact J3 h2 h1
theorem Dc (q:List Item) (i j c:Nat) (hi:i < q.length) (hj:j < q.length):(C2 q i j).getD c default = if c = j then q.getD i default else if c = i then q.getD j default else q.getD c default:=by
 rw [C2]
 simp only [List.getD_eq_getElem?_getD,List.getElem?_set,List.length_set]
 by_cases h1:c = j
 ·subst h1; simp [hj]
 ·rw [if_neg (Ne.symm h1),if_neg h1]
  by_cases h2:c = i
  ·subst h2; simp [hi]
  ·rw [if_neg (Ne.symm h2),if_neg h2]
theorem J4 {x y:Item} (h:Bo x y = true):Bo y x = false:=by
 unfold Bo at *
 grind
structure UpInv (q:List Item) (j n:Nat):Prop where
 heap:∀ c,0 < c → c < n → c ≠ j → Bo (q.getD c default) (q.getD ((c - 1) / 2) default) = false
 over:∀ c,0 < c → c < n → (c - 1) / 2 = j → 0 < j → Bo (q.getD c default) (q.getD ((j - 1) / 2) default) = false
theorem Zc (n:Nat):∀ (f:Nat) (q:List Item) (j:Nat),j ≤ f → j < n → n ≤ q.length → UpInv q j n → Ij (upF f q j) n
 | 0,q,j,hf,hj,hn,hI=>by
  have:j = 0:=by omega
  subst this
  exact fun c h0 hc _=>hI.heap c h0 hc (by omega)
 | f + 1,q,j,hf,hj,hn,hI=>by
  rw [upF]
  split
  ·rename_i h0
   subst h0
   exact fun c h0 hc _=>hI.heap c h0 hc (by omega)
  ·rename_i h0
   split
   ·rename_i hlt
    have hp:(j - 1) / 2 < j:=by omega
    refine Zc n f _ _ (by omega) (by omega) (by rw [Av]; exact hn) ⟨fun c hc0 hcn hcp=>?_,fun c hc0 hcn hpar hp0=>?_⟩
    ·rw [Dc _ _ _ _ (by omega) (by omega),Dc _ _ _ _ (by omega) (by omega)]
     by_cases hcj:c = j
     ·subst hcj
      rw [if_pos rfl,if_neg (by omega),if_pos rfl]
      exact J4 hlt
     ·rw [if_neg hcj,if_neg hcp]
      by_cases hpj:(c - 1) / 2 = j
      ·rw [if_pos hpj]
       exact hI.over c hc0 hcn hpj (by omega)
      ·rw [if_neg hpj]
       by_cases hpp:(c - 1) / 2 = (j - 1) / 2
       ·rw [if_pos hpp]
        have:=hI.heap c hc0 hcn hcj
        rw [hpp] at this
        exact J3 (J4 hlt) this
       ·rw [if_neg hpp]
        exact hI.heap c hc0 hcn hcj
    ·rw [Dc _ _ _ _ (by omega) (by omega),Dc _ _ _ _ (by omega) (by omega)]
     have hpI:=hI.heap ((j - 1) / 2) hp0 (by omega) (by omega)
     rw [if_neg (show ((j - 1) / 2 - 1) / 2 ≠ j by omega),if_neg (show ((j - 1) / 2 - 1) / 2 ≠ (j - 1) / 2 by omega)]
     by_cases hcj:c = j
     ·rw [if_pos hcj]; exact hpI
     ·rw [if_neg hcj,if_neg (by omega)]
      have:=hI.heap c hc0 hcn hcj
      rw [hpar] at this
      exact J3 hpI this
   ·rename_i hlt
    intro c hc0 hcn _
    by_cases hcj:c = j
    ·subst hcj; simpa using hlt
    ·exact hI.heap c hc0 hcn hcj
theorem Jh {q r:List Item} {c:Nat} (h:c < q.length):(q ++ r).getD c default = q.getD c default:=by
 simp [List.getD_eq_getElem?_getD,List.getElem?_append_left h]
theorem Uh (q:List Item) (x:Item) (h:Ij q q.length):Ij (L8 q x) (L8 q x).length:=by
 rw [Hw]
 refine Zc (q.length + 1) _ _ _ (Nat.le_refl _) (by omega) (by simp) ⟨fun c hc0 hcn hcj=>?_,fun c hc0 hcn hpar hp0=>by omega⟩
 rw [Jh (by omega),Jh (by omega)]
 exact h c hc0 (by omega) (by omega)
structure DownInv (q:List Item) (i n:Nat):Prop where
 heap:∀ c,0 < c → c < n → (c - 1) / 2 ≠ i → Bo (q.getD c default) (q.getD ((c - 1) / 2) default) = false
 over:∀ c,0 < c → c < n → (c - 1) / 2 = i → 0 < i → Bo (q.getD c default) (q.getD ((i - 1) / 2) default) = false
theorem Agz (q:List Item) (i n c:Nat) (_h:2 * i + 1 < n) (hc0:0 < c) (hc:c < n) (hp:(c - 1) / 2 = i):Bo (q.getD c default) (q.getD (Cy q i n) default) = false:=by
 have hcc:c = 2 * i + 1 ∨ c = 2 * i + 2:=by omega
 unfold Cy
 split
 ·rename_i hh
  rcases hcc with rfl | rfl
  ·exact J4 hh.2
  ·unfold Bo; grind
 ·rename_i hh
  rcases hcc with rfl | rfl
  ·unfold Bo; grind
  ·cases hlt:Bo (q.getD (2 * i + 2) default) (q.getD (2 * i + 1) default) with
   | false=>rfl
   | true=>exact absurd ⟨hc,hlt⟩ hh
theorem Vd (n:Nat):∀ (f:Nat) (q:List Item) (i:Nat),n ≤ f + i → i < q.length → n ≤ q.length → DownInv q i n → Ij (Cz f q i n).1 n
 | 0,q,i,hf,hi,hn,hI=>fun c hc0 hc _=>hI.heap c hc0 hc (by omega)
 | f + 1,q,i,hf,hi,hn,hI=>by
  rw [Cz]
  split
  ·rename_i h
   have hcl:=Jm q i n h
   have hpar:(Cy q i n - 1) / 2 = i:=by unfold Cy; split <;> omega
   have hle:=fun c=>Agz q i n c h
   generalize Cy q i n = k at *
   split
   ·rename_i hlt
    refine Vd n f _ _ (by omega) (by rw [Av]; omega) (by rw [Av]; exact hn) ⟨fun c hc0 hcn hck=>?_,fun c hc0 hcn hcp hk0=>?_⟩
    ·rw [Dc _ _ _ _ hi (by omega),Dc _ _ _ _ hi (by omega),if_neg hck]
     by_cases hc1:c = k
     ·subst hc1
      rw [if_pos rfl,if_pos hpar]
      exact J4 hlt
     ·rw [if_neg hc1]
      by_cases hc2:c = i
      ·subst hc2
       rw [if_pos rfl,if_neg (by omega)]
       exact hI.over k (by omega) hcl.1 hpar hc0
      ·rw [if_neg hc2]
       by_cases hc3:(c - 1) / 2 = i
       ·rw [if_pos hc3]; exact hle c hc0 hcn hc3
       ·rw [if_neg hc3]; exact hI.heap c hc0 hcn hc3
    ·rw [Dc _ _ _ _ hi (by omega),Dc _ _ _ _ hi (by omega)]
     rw [if_neg (by omega),if_neg (by omega),hpar,if_neg (by omega),if_pos rfl]
     have:=hI.heap c hc0 hcn (by omega)
     rwa [hcp] at this
   ·rename_i hlt
    intro c hc0 hcn _
    by_cases hc3:(c - 1) / 2 = i
    ·rw [hc3]
     exact J3 (by simpa using hlt) (hle c hc0 hcn hc3)
    ·exact hI.heap c hc0 hcn hc3
  ·exact fun c hc0 hc _=>hI.heap c hc0 hc (by omega)
theorem Vb (n:Nat):∀ (f:Nat) (q:List Item) (i c:Nat),i < n → n ≤ q.length → n ≤ c → (Cz f q i n).1.getD c default = q.getD c default
 | 0,_,_,_,_,_,_=>rfl
 | f + 1,q,i,c,hi,hn,hc=>by
  rw [Cz]
  split
  ·rename_i h
   have hcl:=Jm q i n h
   split
   ·rw [Vb n f _ _ c (by omega) (by rw [Av]; exact hn) hc,Dc _ _ _ _ (by omega) (by omega),if_neg (by omega),if_neg (by omega)]
   ·rfl
  ·rfl
theorem Z2 (q:List Item) (hq:q ≠ []):(Cd q).getLast (C1 hq) = q.getD 0 default:=by
 have h0:0 < q.length:=List.length_pos_iff.2 hq
 rw [List.getLast_eq_getElem,← Az (show (Cd q).length - 1 < (Cd q).length by rw [C6]; omega),C6]
 by_cases h1:q.length = 1
 ·have:Cd q = q:=by
   obtain ⟨x,rfl⟩:=List.length_eq_one_iff.1 h1
   rfl
  rw [this,h1]
 ·rw [Cd,Vb _ _ _ _ _ (by omega) (by rw [Av]; omega) (Nat.le_refl _),Dc _ _ _ _ h0 (by omega),if_pos rfl]
theorem Afs (q:List Item) (hq:q ≠ []):(Cd q).dropLast ++ [q.getD 0 default] = Cd q:=by
 rw [← Z2 q hq]; exact List.dropLast_concat_getLast (C1 hq)
theorem Aid (q:List Item) (hq:q ≠ []):(q.getD 0 default :: (Cd q).dropLast).Perm q :=
 ((List.perm_append_comm (l₁:=[q.getD 0 default]) (l₂:=(Cd q).dropLast)).trans (by rw [Afs q hq])).trans (Ll q hq)
theorem Aie (q:List Item) (hq:q ≠ []) (h:Ij q q.length):Ij (Cd q).dropLast (Cd q).dropLast.length:=by
 have h0:0 < q.length:=List.length_pos_iff.2 hq
 have hd:(Cd q).dropLast.length = q.length - 1:=by rw [List.length_dropLast,C6]
 have hh:Ij (Cd q) (q.length - 1):=by
  rw [Cd]
  refine Vd (q.length - 1) _ _ _ (by omega) (by rw [Av]; exact h0) (by rw [Av]; omega) ⟨fun c hc0 hcn hp=>?_,fun c hc0 hcn hp h=>by omega⟩
  rw [Dc _ _ _ _ h0 (by omega),Dc _ _ _ _ h0 (by omega),if_neg (by omega),if_neg (by omega),if_neg (by omega),if_neg hp]
  exact h c hc0 (by omega) (by omega)
 intro c hc0 hcn _
 rw [hd] at hcn
 have hl:=C6 q
 have e:∀ k,k < q.length - 1 → (Cd q).dropLast.getD k default = (Cd q).getD k default:=fun k hk=>by
  rw [Az (show k < (Cd q).dropLast.length by omega),Az (show k < (Cd q).length by omega),List.getElem_dropLast]
 rw [e c hcn,e _ (by omega)]
 exact hh c hc0 hcn (by omega)
theorem Aft (q:List Item) (h:Ij q q.length):∀ x ∈ q,Bo x (q.getD 0 default) = false:=fun x hx=>by
 obtain ⟨c,hc,rfl⟩:=List.getElem_of_mem hx
 have:=Adc h (Nat.le_refl _) c hc
 rwa [Az hc] at this
def C9 (ranks:List Int) (j:Nat):List Item:=(List.range j).foldl (fun q (i:Nat)=>L8 q ⟨ranks.getD i 0,0,i⟩) []
theorem He (ranks:List Int) (j:Nat):C9 ranks (j + 1) = L8 (C9 ranks j) ⟨ranks.getD j 0,0,j⟩:=by
 rw [C9,List.range_succ,List.foldl_append]; rfl
theorem Iv (ranks:List Int):∀ j,(C9 ranks j).length = j
 | 0=>rfl
 | j + 1=>by rw [He,Hw,Iv ranks j]
def Or (roots:List Int):Nat:=roots.countP (fun r=>decide (r < 0))
def reachM (s:List Item × List Int × List Int):Nat:=41 * Or s.2.1 + s.1.length
structure ReachInv (n:Net) (s:List Item × List Int × List Int):Prop where
 rootsL:s.2.1.length = n.devices.length
 costsL:s.2.2.length = n.devices.length
 items:∀ x ∈ s.1,0 ≤ x.dev ∧ x.dev < n.devices.length ∧ 0 ≤ x.root ∧ 0 ≤ x.cost ∧ x.cost + 65535 * Or s.2.1 ≤ 65535 * n.devices.length
 few:s.1.length + 40 * Or s.2.1 ≤ 1000
theorem Aiz (roots:List Int):Or roots ≤ roots.length:=List.countP_le_length
theorem Af7 {roots:List Int} {i:Nat} {v:Int} (h:i < roots.length) (h0:roots[i] < 0) (hv:0 ≤ v):Or (roots.set i v) + 1 = Or roots:=by
 have h1:0 < roots.countP (fun r=>decide (r < 0)):=List.countP_pos_iff.2 ⟨roots[i],List.getElem_mem h,by simpa using h0⟩
 have hv':¬ v < 0:=by omega
 rw [Or,Or,List.countP_set h]
 simp only [h0,hv',decide_true,decide_false,if_true,Bool.false_eq_true,if_false]
 omega
theorem Xx (n:Net) (up:List Bool) (x:Item) (hr:Af n = true) (hcost:Cr n = true) {m:Nat} (hx:0 ≤ x.root ∧ 0 ≤ x.cost ∧ x.cost + 65535 * (m + 1) ≤ 65535 * n.devices.length) (q:List Item)
  (hq:∀ y ∈ q,0 ≤ y.dev ∧ y.dev < n.devices.length ∧ 0 ≤ y.root ∧ 0 ≤ y.cost ∧ y.cost + 65535 * m ≤ 65535 * n.devices.length) (i:Nat) (hi:i < n.ports.length) :
  (∀ y ∈ Ck n up x q i,0 ≤ y.dev ∧ y.dev < n.devices.length ∧ 0 ≤ y.root ∧ 0 ≤ y.cost ∧ y.cost + 65535 * m ≤ 65535 * n.devices.length) ∧ (Ck n up x q i).length ≤ q.length + 1:=by
 rw [Ck]
 split
 ·rename_i h
  have hlt:=U7 hr hi h.2
  have hk:(Cq n up i).toNat < n.ports.length:=by omega
  have hd:=Kr hr hk
  have hpc:1 ≤ n.ports[(Cq n up i).toNat].cost ∧ n.ports[(Cq n up i).toNat].cost ≤ 65535:=by
   simp only [Cr,Bool.not_eq_true',List.any_eq_false] at hcost
   have:=hcost _ (List.getElem_mem hk)
   simp only [Is,Bool.or_eq_true,decide_eq_true_eq,not_or] at this
   omega
  have e:nth n.ports (Cq n up i) = n.ports[(Cq n up i).toNat]:=An (l:=n.ports) (i:=Cq n up i) (by omega)
  rw [e]
  refine ⟨fun y hy=>?_,by rw [Hw]; omega⟩
  rcases List.mem_cons.1 ((Jx q _).mem_iff.1 hy) with rfl | hy
  ·simp only
   omega
  ·exact hq y hy
 ·exact ⟨hq,by omega⟩
theorem Ud (n:Net) (up:List Bool) (x:Item) (hr:Af n = true) (hcost:Cr n = true) {m:Nat} (hx:0 ≤ x.root ∧ 0 ≤ x.cost ∧ x.cost + 65535 * (m + 1) ≤ 65535 * n.devices.length) (q:List Item)
  (hq:∀ y ∈ q,0 ≤ y.dev ∧ y.dev < n.devices.length ∧ 0 ≤ y.root ∧ 0 ≤ y.cost ∧ y.cost + 65535 * m ≤ 65535 * n.devices.length):∀ i,i ≤ n.ports.length →
  (∀ y ∈ (List.range i).foldl (Ck n up x) q,0 ≤ y.dev ∧ y.dev < n.devices.length ∧ 0 ≤ y.root ∧ 0 ≤ y.cost ∧ y.cost + 65535 * m ≤ 65535 * n.devices.length) ∧ ((List.range i).foldl (Ck n up x) q).length ≤ q.length + i
 | 0,_=>⟨hq,by simp⟩
 | i + 1,hi=>by
  obtain ⟨h1,h2⟩:=Ud n up x hr hcost hx q hq i (by omega)
  rw [List.range_succ,List.foldl_append]
  obtain ⟨h3,h4⟩:=Xx n up x hr hcost hx _ h1 i (by omega)
  exact ⟨h3,by simp only [List.foldl_cons,List.foldl_nil]; omega⟩
theorem Us {q:List Item} (hq:q ≠ []):(Cd q).getLast?.getD default = (Cd q).getLast (C1 hq):=by
 rw [List.getLast?_eq_some_getLast (C1 hq)]; rfl
theorem H6 (n:Net) (up:List Bool) (hr:Af n = true) (hcost:Cr n = true) (s:List Item × List Int × List Int) (hI:ReachInv n s) (hne:s.1 ≠ []):ReachInv n (Jv n up s) ∧ reachM (Jv n up s) < reachM s:=by
 have hf:=Dh hr
 have hx:=hI.items _ ((Ll s.1 hne).mem_iff.1 (List.getLast_mem (C1 hne)))
 have hd:∀ y ∈ (Cd s.1).dropLast,y ∈ s.1:=fun y hy=>(Ll s.1 hne).mem_iff.1 ((List.dropLast_sublist _).subset hy)
 have h0:0 < s.1.length:=List.length_pos_iff.2 hne
 have hdl:(Cd s.1).dropLast.length + 1 = s.1.length:=by rw [List.length_dropLast,C6]; omega
 have hfew:=hI.few
 rw [Jv,Us hne]
 generalize (Cd s.1).getLast (C1 hne) = x at *
 split
 ·exact ⟨⟨hI.rootsL,hI.costsL,fun y hy=>hI.items y (hd y hy),by simp only; omega⟩,by unfold reachM; simp only; omega⟩
 ·rename_i hneg
  have hk:x.dev.toNat < s.2.1.length:=by rw [hI.rootsL]; omega
  rw [An (l:=s.2.1) (i:=x.dev) (by rw [hI.rootsL]; omega)] at hneg
  have hm:=Af7 hk (by omega) hx.2.2.1
  obtain ⟨h1,h2⟩:=Ud n up x hr hcost (m:=Or (s.2.1.set x.dev.toNat x.root)) ⟨hx.2.2.1,hx.2.2.2.1,by have:=hx.2.2.2.2; omega⟩ (Cd s.1).dropLast (fun y hy=>by have:=hI.items y (hd y hy); omega) n.ports.length (Nat.le_refl _)
  exact ⟨⟨by simp only [List.length_set]; exact hI.rootsL,by simp only [List.length_set]; exact hI.costsL,h1,by simp only; omega⟩,by unfold reachM; simp only; omega⟩
theorem Si (n:Net) (up:List Bool) (hr:Af n = true) (hcost:Cr n = true):∀ (f g:Nat) (s:List Item × List Int × List Int),ReachInv n s → reachM s ≤ f → reachM s ≤ g → D3 n up f s = D3 n up g s
 | 0,0,_,_,_,_=>rfl
 | 0,g + 1,s,_,h,_=>by
  have:s.1 = []:=List.eq_nil_of_length_eq_zero (by unfold reachM at h; omega)
  rw [D3,D3,if_pos this]
 | f + 1,0,s,_,_,h=>by
  have:s.1 = []:=List.eq_nil_of_length_eq_zero (by unfold reachM at h; omega)
  rw [D3,D3,if_pos this]
 | f + 1,g + 1,s,hI,h1,h2=>by
  rw [D3,D3]
  split
  ·rfl
  ·rename_i hne
   obtain ⟨h3,h4⟩:=H6 n up hr hcost s hI hne
   exact Si n up hr hcost f g _ h3 (by omega) (by omega)
def Hj (n:Net) (up:List Bool) (s:List Item × List Int × List Int):List Item × List Int × List Int:=D3 n up (reachM s) s
theorem Acb (n:Net) (up:List Bool) (s:List Item × List Int × List Int) (h:s.1 = []):Hj n up s = s:=by
 rw [Hj]
 cases reachM s with
 | zero=>rfl
 | succ m=>rw [D3,if_pos h]
theorem Zy (n:Net) (up:List Bool) (hr:Af n = true) (hcost:Cr n = true) (s:List Item × List Int × List Int) (hI:ReachInv n s) (hne:s.1 ≠ []):Hj n up s = Hj n up (Jv n up s):=by
 obtain ⟨h3,h4⟩:=H6 n up hr hcost s hI hne
 rw [Hj,Hj]
 obtain ⟨m,hm⟩:∃ m,reachM s = m + 1:=⟨reachM s - 1,by omega⟩
 rw [hm,D3,if_neg hne]
 exact Si n up hr hcost _ _ _ h3 (by omega) (Nat.le_refl _)
theorem Sc (ranks:List Int) (m:Nat) (hrr:∀ r ∈ ranks,0 ≤ r):∀ j,j ≤ ranks.length → ∀ y ∈ C9 ranks j,0 ≤ y.dev ∧ y.dev < m + ranks.length ∧ 0 ≤ y.root ∧ y.cost = 0
 | 0,_,y,hy=>by simp [C9] at hy
 | j + 1,hj,y,hy=>by
  rw [He] at hy
  rcases List.mem_cons.1 ((Jx _ _).mem_iff.1 hy) with rfl | hy
  ·have h1:=hrr (ranks[j]'(by omega)) (List.getElem_mem _)
   have h2:(0:Int) ≤ (j:Int) ∧ (j:Int) < m + ranks.length:=by omega
   exact ⟨h2.1,h2.2,by rw [Az (show j < ranks.length by omega)]; exact h1,E⟩
  ·exact Sc ranks m hrr j (by omega) y hy
theorem Wg (n:Net) (ranks roots costs:List Int) (hr:Af n = true) (hrk:ranks.length = n.devices.length) (hro:roots.length = n.devices.length) (hc:costs.length = n.devices.length) (hrr:∀ r ∈ ranks,0 ≤ r):ReachInv n (C9 ranks ranks.length,roots,costs):=by
 have hf:=Dh hr
 have hm:=Aiz roots
 refine ⟨hro,hc,fun y hy=>?_,by simp only [Iv]; omega⟩
 have:=Sc ranks 0 hrr _ (Nat.le_refl _) y hy
 simp only
 omega
def Le2 (r c r' c':Int):Prop:=r < r' ∨ (r = r' ∧ c ≤ c')
theorem Agf {x y:Item} (h:Bo y x = false):Le2 x.root x.cost y.root y.cost:=by
 simp only [Bo,Bool.or_eq_false_iff,decide_eq_false_iff_not,Bool.and_eq_false_iff,beq_eq_false_iff_ne] at h
 unfold Le2
 omega
theorem Age {a b c d e f:Int} (h1:Le2 a b c d) (h2:Le2 c d e f):Le2 a b e f:=by
 unfold Le2 at *
 omega
theorem Aao {a b c d m:Int} (h1:Le2 a b c d) (hm:0 ≤ m):Le2 a b c (d + m):=by
 unfold Le2 at *
 omega
def Hop (n:Net) (up:List Bool) (i j:Nat):Prop:=i < n.ports.length ∧ Cq n up i = j
theorem Kz {n:Net} {up:List Bool} (hr:Af n = true) {i j:Nat} (h:Hop n up i j):j < n.ports.length:=by
 have:=U7 (up:=up) hr h.1 (by rw [h.2]; omega)
 rw [h.2] at this
 omega
theorem W1 {n:Net} {up:List Bool} (hr:Af n = true) {i j:Nat} (h:Hop n up i j) :
  ∃ k:Nat,k < n.links.length ∧ (nth n.ports i).link = k ∧ (nth n.ports j).link = k ∧ up.getD k false = true ∧ (((nth n.links k).a = i ∧ (nth n.links k).b = j) ∨ ((nth n.links k).a = j ∧ (nth n.links k).b = i)) ∧ Do n i ≠ Do n j:=by
 have hj:=Kz hr h
 obtain ⟨hi,hf⟩:=h
 have hp:=Jt hr hi
 have hpl:=Lk hr hi
 simp only [Im,Bool.and_eq_true,Bool.or_eq_true,beq_iff_eq] at hp
 have hp:=hp.2
 have e:nth n.ports i = n.ports[i]:=An (l:=n.ports) (i:=(i:Int)) (by simpa using hi)
 unfold Cq at hf
 rw [Az hi] at hf
 simp only at hf
 split at hf
 ·omega
 ·rename_i hc
  simp only [Bool.or_eq_true,decide_eq_true_eq,not_or,Bool.not_eq_true',Bool.not_eq_false] at hc
  rcases hp with hp | hp
  ·omega
  ·have hl:n.ports[i].link.toNat < n.links.length:=by omega
   have hlk:=T9 hr hl
   have he:=Jd hr hl
   have ek:((n.ports[i].link.toNat:Nat):Int) = n.ports[i].link:=by omega
   refine ⟨n.ports[i].link.toNat,hl,by rw [e]; omega,?_⟩
   simp only [Sp,Bool.and_eq_true,beq_iff_eq,bne_iff_ne] at hlk
   obtain ⟨⟨⟨_,hne⟩,h1⟩,h2⟩:=hlk
   rw [ek]
   rw [An (l:=n.links) (i:=n.ports[i].link) (by omega)] at hf hp ⊢
   generalize n.links[n.ports[i].link.toNat] = l at *
   rcases hp.2 with ha | hb
   ·have hb:l.b = j:=by omega
    rw [ha,hb] at hne
    rw [hb] at h2
    exact ⟨by omega,by simpa using hc.2,.inl ⟨ha,hb⟩,hne⟩
   ·have ha:l.a = j:=by omega
    rw [ha,hb] at hne
    rw [ha] at h1
    exact ⟨by omega,by simpa using hc.2,.inr ⟨ha,hb⟩,fun h=>hne h.symm⟩
theorem Aat {n:Net} {up:List Bool} (hr:Af n = true) {i j:Nat} (h:Hop n up i j):Hop n up j i:=by
 have hj:=Kz hr h
 obtain ⟨k,hk,_,h2,h3,h4,_⟩:=W1 hr h
 refine ⟨hj,?_⟩
 unfold Cq
 have e:n.ports.getD j default = nth n.ports j:=rfl
 rw [e]
 simp only [h2,Int.toNat_natCast,h3]
 rw [if_neg (by simp)]
 omega
theorem Lm {n:Net} (hr:Af n = true) {i:Nat} (hi:i < n.ports.length):0 ≤ Do n i ∧ Do n i < n.devices.length:=by
 rw [Do,An (l:=n.ports) (i:=(i:Int)) (by simpa using hi)]
 exact Kr hr hi
def Der (n:Net) (up:List Bool) (K R C:Int → Int) (r c d:Int):Prop :=
 (r = K d ∧ c = 0) ∨ ∃ i j:Nat,Hop n up i j ∧ Do n i = d ∧ 0 ≤ R (Do n j) ∧ r = R (Do n j) ∧ c = C (Do n j) + Ok n i
structure Dij (n:Net) (up:List Bool) (K:Int → Int) (q:List Item) (R C:Int → Int):Prop where
 heap:Ij q q.length
 items:∀ x ∈ q,Der n up K R C x.root x.cost x.dev
 done:∀ d:Int,0 ≤ d → d < n.devices.length → 0 ≤ R d → Der n up K R C (R d) (C d) d
 own:∀ d:Int,0 ≤ d → d < n.devices.length → R d < 0 → ⟨K d,0,d⟩ ∈ q
 push:∀ i j:Nat,Hop n up i j → R (Do n i) < 0 → 0 ≤ R (Do n j) → ⟨R (Do n j),C (Do n j) + Ok n i,Do n i⟩ ∈ q
 low:∀ d:Int,0 ≤ d → d < n.devices.length → 0 ≤ R d → ∀ x ∈ q,Le2 (R d) (C d) x.root x.cost
 self:∀ d:Int,0 ≤ d → d < n.devices.length → 0 ≤ R d → Le2 (R d) (C d) (K d) 0
 tri:∀ i j:Nat,Hop n up i j → 0 ≤ R (Do n i) → 0 ≤ R (Do n j) → Le2 (R (Do n i)) (C (Do n i)) (R (Do n j)) (C (Do n j) + Ok n i)
theorem Ub (n:Net) (up:List Bool) (x:Item) (q:List Item) (y:Item):∀ m,y ∈ (List.range m).foldl (Ck n up x) q ↔ y ∈ q ∨ ∃ i,i < m ∧ Do n i = x.dev ∧ 0 ≤ Cq n up i ∧ y = ⟨x.root,x.cost + (nth n.ports (Cq n up i)).cost,(nth n.ports (Cq n up i)).dev⟩
 | 0=>by simp
 | m + 1=>by
  rw [List.range_succ,List.foldl_append]
  simp only [List.foldl_cons,List.foldl_nil]
  rw [Ck]
  have ih:=Ub n up x q y m
  have e:(n.ports.getD m default).dev = Do n m:=rfl
  rw [e]
  split
  ·rename_i h
   rw [(Jx _ _).mem_iff,List.mem_cons,ih]
   constructor
   ·rintro (h1 | h1 | ⟨i,h1,h2⟩)
    ·exact .inr ⟨m,by omega,h.1,h.2,h1⟩
    ·exact .inl h1
    ·exact .inr ⟨i,by omega,h2⟩
   ·rintro (h1 | ⟨i,h1,h2,h3,h4⟩)
    ·exact .inr (.inl h1)
    ·by_cases hm:i = m
     ·subst hm; exact .inl h4
     ·exact .inr (.inr ⟨i,by omega,h2,h3,h4⟩)
  ·rename_i h
   rw [ih]
   constructor
   ·rintro (h1 | ⟨i,h1,h2⟩)
    ·exact .inl h1
    ·exact .inr ⟨i,by omega,h2⟩
   ·rintro (h1 | ⟨i,h1,h2,h3,h4⟩)
    ·exact .inl h1
    ·by_cases hm:i = m
     ·subst hm; exact absurd ⟨h2,h3⟩ h
     ·exact .inr ⟨i,by omega,h2,h3,h4⟩
theorem Sh (n:Net) (up:List Bool) (x:Item) (q:List Item) (h:Ij q q.length):∀ m,Ij ((List.range m).foldl (Ck n up x) q) ((List.range m).foldl (Ck n up x) q).length
 | 0=>h
 | m + 1=>by
  rw [List.range_succ,List.foldl_append]
  simp only [List.foldl_cons,List.foldl_nil]
  have ih:=Sh n up x q h m
  rw [Ck]
  split
  ·exact Uh _ _ ih
  ·exact ih
theorem Ve {n:Net} {up:List Bool} {K R C R' C':Int → Int} {r c d:Int} (h:Der n up K R C r c d) (hs:∀ e,0 ≤ R e → R' e = R e ∧ C' e = C e):Der n up K R' C' r c d:=by
 rcases h with h | ⟨i,j,h1,h2,h3,h4,h5⟩
 ·exact .inl h
 ·obtain ⟨e1,e2⟩:=hs _ h3
  exact .inr ⟨i,j,h1,h2,by rw [e1]; exact h3,by rw [e1]; exact h4,by rw [e2]; exact h5⟩
theorem Aj0 {n:Net} {up:List Bool} {K R C:Int → Int} {q q':List Item} {x:Item} (h:Dij n up K q R C) (hp:(x :: q').Perm q) (hh:Ij q' q'.length) (hx:0 ≤ R x.dev):Dij n up K q' R C:=by
 have hm:∀ y,y ∈ q ↔ y = x ∨ y ∈ q':=fun y=>by rw [← hp.mem_iff,List.mem_cons]
 refine ⟨hh,fun y hy=>h.items y ((hm y).2 (.inr hy)),h.done,fun d h0 h1 h2=>?_,fun i j hij h1 h2=>?_,fun d h0 h1 h2 y hy=>h.low d h0 h1 h2 y ((hm y).2 (.inr hy)),h.self,h.tri⟩
 ·rcases (hm _).1 (h.own d h0 h1 h2) with e | e
  ·rw [← e] at hx; simp only at hx; omega
  ·exact e
 ·rcases (hm _).1 (h.push i j hij h1 h2) with e | e
  ·rw [← e] at hx; simp only at hx; omega
  ·exact e
theorem Ajz {n:Net} {up:List Bool} {K R C R' C':Int → Int} {q q':List Item} {x:Item} (hr:Af n = true) (hcost:Cr n = true) (h:Dij n up K q R C) (hp:(x :: q').Perm q) (hh:Ij q' q'.length)
  (hmin:∀ y ∈ q,Bo y x = false) (hx:R x.dev < 0) (hx0:0 ≤ x.root) (_hxd:0 ≤ x.dev ∧ x.dev < n.devices.length)
  (hR:∀ e,R' e = if e = x.dev then x.root else R e) (hC:∀ e,C' e = if e = x.dev then x.cost else C e) :
  Dij n up K ((List.range n.ports.length).foldl (Ck n up x) q') R' C':=by
 have hm:∀ y,y ∈ q ↔ y = x ∨ y ∈ q':=fun y=>by rw [← hp.mem_iff,List.mem_cons]
 have hn:=fun y=>Ub n up x q' y n.ports.length
 have hs:∀ e,0 ≤ R e → R' e = R e ∧ C' e = C e:=fun e he=>by
  have:e ≠ x.dev:=fun h=>by rw [h] at he; omega
  rw [hR,hC,if_neg this,if_neg this]
  exact ⟨E,E⟩
 have hRd:R' x.dev = x.root:=by rw [hR,if_pos rfl]
 have hCd:C' x.dev = x.cost:=by rw [hC,if_pos rfl]
 have hxq:x ∈ q:=(hm x).2 (.inl rfl)
 have hle:∀ y ∈ q,Le2 x.root x.cost y.root y.cost:=fun y hy=>Agf (hmin y hy)
 have hnew:∀ y,y ∈ (List.range n.ports.length).foldl (Ck n up x) q' ↔ y ∈ q' ∨ ∃ i j:Nat,Hop n up i j ∧ Do n i = x.dev ∧ y = ⟨x.root,x.cost + Ok n j,Do n j⟩:=fun y=>by
  rw [hn y]
  constructor
  ·rintro (h1 | ⟨i,h1,h2,h3,h4⟩)
   ·exact .inl h1
   ·obtain ⟨j,hj⟩:∃ j:Nat,Cq n up i = j:=⟨(Cq n up i).toNat,by omega⟩
    rw [hj] at h4
    exact .inr ⟨i,j,⟨h1,hj⟩,h2,h4⟩
  ·rintro (h1 | ⟨i,j,h1,h2,h3⟩)
   ·exact .inl h1
   ·refine .inr ⟨i,h1.1,h2,by rw [h1.2]; omega,?_⟩
    rw [h1.2]
    exact h3
 refine ⟨Sh n up x q' hh _,fun y hy=>?_,fun d h0 h1 h2=>?_,fun d h0 h1 h2=>?_,fun i j hij h1 h2=>?_,fun d h0 h1 h2 y hy=>?_,fun d h0 h1 h2=>?_,fun i j hij h1 h2=>?_⟩
 ·rcases (hnew y).1 hy with hy | ⟨i,j,h1,h2,rfl⟩
  ·exact Ve (h.items y ((hm y).2 (.inr hy))) hs
  ·exact .inr ⟨j,i,Aat hr h1,E,by rw [h2,hRd]; exact hx0,by rw [h2,hRd],by rw [h2,hCd]⟩
 ·by_cases hd:d = x.dev
  ·subst hd
   rw [hRd,hCd]
   exact Ve (h.items x hxq) hs
  ·rw [hR,if_neg hd] at h2
   obtain ⟨e1,e2⟩:=hs d h2
   rw [e1,e2]
   exact Ve (h.done d h0 h1 h2) hs
 ·have hd:d ≠ x.dev:=fun e=>by rw [e,hRd] at h2; omega
  rw [hR,if_neg hd] at h2
  refine (hnew _).2 (.inl ?_)
  rcases (hm _).1 (h.own d h0 h1 h2) with e | e
  ·exact absurd (congrArg Item.dev e) hd
  ·exact e
 ·have hd:Do n i ≠ x.dev:=fun e=>by rw [e,hRd] at h1; omega
  rw [hR,if_neg hd] at h1
  by_cases hj:Do n j = x.dev
  ·rw [hj,hRd,hCd]
   exact (hnew _).2 (.inr ⟨j,i,Aat hr hij,hj,E⟩)
  ·rw [hR,if_neg hj] at h2
   obtain ⟨e1,e2⟩:=hs _ h2
   rw [e1,e2]
   refine (hnew _).2 (.inl ?_)
   rcases (hm _).1 (h.push i j hij h1 h2) with e | e
   ·exact absurd (congrArg Item.dev e) hd
   ·exact e
 ·have hdx:Le2 (R' d) (C' d) x.root x.cost:=by
   by_cases hd:d = x.dev
   ·subst hd; rw [hRd,hCd]; exact .inr ⟨rfl,Int.le_refl _⟩
   ·rw [hR,if_neg hd] at h2
    obtain ⟨e1,e2⟩:=hs d h2
    rw [e1,e2]
    exact h.low d h0 h1 h2 x hxq
  rcases (hnew y).1 hy with hy | ⟨i,j,h3,_,rfl⟩
  ·exact Age hdx (hle y ((hm y).2 (.inr hy)))
  ·exact Aao hdx (by have:=Z6 hcost (Kz hr h3); omega)
 ·by_cases hd:d = x.dev
  ·subst hd
   rw [hRd,hCd]
   exact hle _ (h.own _ h0 h1 hx)
  ·rw [hR,if_neg hd] at h2
   obtain ⟨e1,e2⟩:=hs d h2
   rw [e1,e2]
   exact h.self d h0 h1 h2
 ·have hj:=Kz hr hij
  have hpc:=Z6 hcost hij.1
  have hne:=(W1 hr hij).choose_spec.2.2.2.2.2
  by_cases hd:Do n i = x.dev
  ·rw [hd,hRd,hCd]
   have hjd:Do n j ≠ x.dev:=fun e=>hne (by rw [hd,e])
   rw [hR,if_neg hjd] at h2
   obtain ⟨e1,e2⟩:=hs _ h2
   rw [e1,e2]
   exact hle _ (h.push i j hij (by rw [hd]; exact hx) h2)
  ·rw [hR,if_neg hd] at h1
   obtain ⟨e1,e2⟩:=hs _ h1
   rw [e1,e2]
   by_cases hjd:Do n j = x.dev
   ·rw [hjd,hRd,hCd]
    have hdl:=Lm hr hij.1
    exact Aao (h.low _ hdl.1 hdl.2 h1 x hxq) (by omega)
   ·rw [hR,if_neg hjd] at h2
    obtain ⟨e3,e4⟩:=hs _ h2
    rw [e3,e4]
    exact h.tri i j hij h1 h2
def atI (l:List Int) (e:Int):Int:=if e < 0 then -1 else nth l e
theorem Ih {l:List Int} {e:Int} (h:0 ≤ e):atI l e = nth l e:=by rw [atI,if_neg (by omega)]
theorem Aex {l:List Int} {d v:Int} (h0:0 ≤ d) (h1:d < l.length) (e:Int):atI (l.set d.toNat v) e = if e = d then v else atI l e:=by
 by_cases he:e < 0
 ·rw [atI,if_pos he,if_neg (by omega),atI,if_pos he]
 ·rw [atI,if_neg he,atI,if_neg he,nth,nth,List.getElem?_set]
  by_cases hd:e = d
  ·subst hd
   rw [if_pos rfl,if_pos rfl,if_pos (by omega)]
   rfl
  ·rw [if_neg (by omega),if_neg hd]
structure DijS (n:Net) (up:List Bool) (ranks:List Int) (s:List Item × List Int × List Int):Prop where
 inv:ReachInv n s
 dij:Dij n up (atI ranks) s.1 (atI s.2.1) (atI s.2.2)
 bound:∀ c ∈ s.2.2,0 ≤ c ∧ c ≤ 1000000
theorem Acc (n:Net) (up:List Bool) (ranks:List Int) (hr:Af n = true) (hcost:Cr n = true) (s:List Item × List Int × List Int) (hI:DijS n up ranks s) (hne:s.1 ≠ []):DijS n up ranks (Jv n up s):=by
 have hf:=Dh hr
 have h1:=(H6 n up hr hcost s hI.inv hne).1
 have hrest:=Aid s.1 hne
 have hheap:=Aie s.1 hne hI.dij.heap
 have hleast:=Aft s.1 hI.dij.heap
 have hx:=hI.inv.items _ (hrest.mem_iff.1 (List.mem_cons_self ..))
 have hrl:=hI.inv.rootsL
 have hcl:=hI.inv.costsL
 have hd:=hI.dij
 have hb:=hI.bound
 rw [Jv,Us hne,Z2 s.1 hne] at *
 generalize s.1.getD 0 default = x at *
 try simp only at *
 have ea:nth s.2.1 x.dev = atI s.2.1 x.dev:=(Ih hx.1).symm
 rw [ea]; rw [ea] at h1
 split
 ·rename_i hc
  rw [if_pos hc] at h1
  exact ⟨h1,Aj0 hd hrest hheap hc,hb⟩
 ·rename_i hc
  rw [if_neg hc] at h1
  refine ⟨h1,Ajz hr hcost hd hrest hheap hleast (by omega) hx.2.2.1 ⟨hx.1,hx.2.1⟩ (Aex hx.1 (by omega)) (Aex hx.1 (by omega)),fun c hc=>?_⟩
  rcases List.mem_or_eq_of_mem_set hc with h | h
  ·exact hb c h
  ·omega
theorem Ue (n:Net) (up:List Bool) (ranks:List Int) (hr:Af n = true) (hcost:Cr n = true):∀ (f:Nat) (s:List Item × List Int × List Int),DijS n up ranks s → reachM s ≤ f → DijS n up ranks (D3 n up f s) ∧ (D3 n up f s).1 = []
 | 0,s,h,hf=>⟨h,List.eq_nil_of_length_eq_zero (by unfold reachM at hf; rw [D3]; omega)⟩
 | f + 1,s,h,hf=>by
  rw [D3]
  split
  ·rename_i he; exact ⟨h,he⟩
  ·rename_i hne
   exact Ue n up ranks hr hcost f _ (Acc n up ranks hr hcost s h hne) (by have:=(H6 n up hr hcost s h.inv hne).2; omega)
structure Solved (n:Net) (up:List Bool) (ranks roots costs:List Int):Prop where
 rootsL:roots.length = n.devices.length
 costsL:costs.length = n.devices.length
 bound:∀ c ∈ costs,0 ≤ c ∧ c ≤ 1000000
 root:∀ d:Int,0 ≤ d → d < n.devices.length → 0 ≤ nth roots d
 self:∀ d:Int,0 ≤ d → d < n.devices.length → Le2 (nth roots d) (nth costs d) (nth ranks d) 0
 tri:∀ i j:Nat,Hop n up i j → Le2 (nth roots (Do n i)) (nth costs (Do n i)) (nth roots (Do n j)) (nth costs (Do n j) + Ok n i)
 der:∀ d:Int,0 ≤ d → d < n.devices.length → (nth roots d = nth ranks d ∧ nth costs d = 0) ∨ ∃ i j:Nat,Hop n up i j ∧ Do n i = d ∧ nth roots d = nth roots (Do n j) ∧ nth costs d = nth costs (Do n j) + Ok n i
theorem Aff (n:Net) (up:List Bool) (ranks:List Int) (hr:Af n = true) (s:List Item × List Int × List Int) (h:DijS n up ranks s) (he:s.1 = []):Solved n up ranks s.2.1 s.2.2:=by
 have hd:=h.dij
 rw [he] at hd
 have h0:∀ d:Int,0 ≤ d → d < n.devices.length → 0 ≤ atI s.2.1 d:=fun d h1 h2=>by
  by_cases hc:0 ≤ atI s.2.1 d
  ·exact hc
  ·have:=hd.own d h1 h2 (by omega)
   simp at this
 refine ⟨h.inv.rootsL,h.inv.costsL,h.bound,fun d h1 h2=>?_,fun d h1 h2=>?_,fun i j hij=>?_,fun d h1 h2=>?_⟩
 ·have:=h0 d h1 h2
  rwa [Ih h1] at this
 ·have:=hd.self d h1 h2 (h0 d h1 h2)
  simpa only [Ih h1] using this
 ·have hi:=Lm hr hij.1
  have hj:=Lm hr (Kz hr hij)
  have:=hd.tri i j hij (h0 _ hi.1 hi.2) (h0 _ hj.1 hj.2)
  simpa only [Ih hi.1,Ih hj.1] using this
 ·rcases hd.done d h1 h2 (h0 d h1 h2) with h3 | ⟨i,j,h3,h4,_,h5,h6⟩
  ·simp only [Ih h1] at h3
   exact .inl h3
  ·have hj:=Lm hr (Kz hr h3)
   simp only [Ih h1,Ih hj.1] at h5 h6
   exact .inr ⟨i,j,h3,h4,h5,h6⟩
theorem Qo (ranks:List Int) (y:Item):∀ j,y ∈ C9 ranks j ↔ ∃ i,i < j ∧ y = ⟨ranks.getD i 0,0,i⟩
 | 0=>by simp [C9]
 | j + 1=>by
  rw [He,(Jx _ _).mem_iff,List.mem_cons,Qo ranks y j]
  constructor
  ·rintro (h | ⟨i,h1,h2⟩)
   ·exact ⟨j,by omega,h⟩
   ·exact ⟨i,by omega,h2⟩
  ·rintro ⟨i,h1,h2⟩
   by_cases h:i = j
   ·subst h; exact .inl h2
   ·exact .inr ⟨i,by omega,h2⟩
theorem Tw (ranks:List Int):∀ j,Ij (C9 ranks j) (C9 ranks j).length
 | 0=>fun c _ h2 _=>by simp [C9] at h2
 | j + 1=>by
  rw [He]
  exact Uh _ _ (Tw ranks j)
theorem Vu {v:Int} {m:Nat} {d:Int} (h1:d < m) (h0:0 ≤ d):nth (List.replicate m v) d = v:=by
 rw [An (by simp; omega)]; simp
theorem Afd (n:Net) (up:List Bool) (ranks:List Int) (hr:Af n = true) (hrk:ranks.length = n.devices.length) (hrr:∀ r ∈ ranks,0 ≤ r) :
  DijS n up ranks (C9 ranks ranks.length,List.replicate n.devices.length (-1),List.replicate n.devices.length 0):=by
 have hneg:∀ d:Int,0 ≤ d → d < n.devices.length → atI (List.replicate n.devices.length (-1)) d = -1:=fun d h0 h1=>by rw [Ih h0,Vu h1 h0]
 refine ⟨Wg n ranks _ _ hr hrk (by simp) (by simp) hrr,⟨Tw ranks _,fun x hx=>?_,fun d h0 h1 h2=>?_,fun d h0 h1 h2=>?_,fun i j hij h1 h2=>?_,fun d h0 h1 h2=>?_,fun d h0 h1 h2=>?_,fun i j hij h1 h2=>?_⟩,fun c hc=>?_⟩
 ·obtain ⟨i,h1,rfl⟩:=(Qo ranks x _).1 hx
  refine .inl ⟨?_,E⟩
  simp only
  rw [Ih (by omega),An (by simpa using h1),Az h1]
  rfl
 ·rw [hneg d h0 h1] at h2; omega
 ·refine (Qo ranks _ _).2 ⟨d.toNat,by omega,?_⟩
  rw [Ih h0,An (by omega),Az (by omega),Int.toNat_of_nonneg h0]
 ·have hj:=Lm hr (Kz hr hij)
  rw [hneg _ hj.1 hj.2] at h2; omega
 ·rw [hneg d h0 h1] at h2; omega
 ·rw [hneg d h0 h1] at h2; omega
 ·have hj:=Lm hr (Kz hr hij)
  rw [hneg _ hj.1 hj.2] at h2; omega
 ·have:=List.eq_of_mem_replicate hc
  omega
def Kq (n:Net) (up:List Bool) (ranks:List Int):List Item × List Int × List Int:=Hj n up (C9 ranks ranks.length,List.replicate n.devices.length (-1),List.replicate n.devices.length 0)
theorem Vp (n:Net) (up:List Bool) (ranks:List Int) (hr:Af n = true) (hcost:Cr n = true) (hrk:ranks.length = n.devices.length) (hrr:∀ r ∈ ranks,0 ≤ r):Solved n up ranks (Kq n up ranks).2.1 (Kq n up ranks).2.2:=by
 obtain ⟨h1,h2⟩:=Ue n up ranks hr hcost _ _ (Afd n up ranks hr hrk hrr) (Nat.le_refl _)
 exact Aff n up ranks hr _ h1 h2
end Go.Sy.YtmelpejjondedaaGreat
namespace Go.Sy.YtmelpejjondedaaGreat
section
variable {n:Net} {up:List Bool} {ranks roots costs:List Int}
def rolesL (n:Net) (up:List Bool) (ranks roots costs:List Int):List Int:=Iw n up ranks roots costs n.devices.length
def Ajp (roles:List Int) (l:Link):Bool:=inB [nth roles l.a,nth roles l.b] 1 && inB [nth roles l.a,nth roles l.b] 2
def fwdL (n:Net) (roles:List Int):List Bool:=n.links.map (Ajp roles)
end
end Go.Sy.YtmelpejjondedaaGreat
namespace Go.Sy.YtmelpejjondedaaGreat
open Go.Proofs
theorem G_lit {C:Cx} {k:List KI} {s:SS} (d:Nat) {sz:Nat} {α:Type} (e:α → SV) (l:List α) {svs:List SV} (h:s.h d = .lit sz svs) (hl:l.map e = svs) (hg:G C k ⟨s.σ,upd s.h d (.row sz e l)⟩):G C k s:=fun κ a w hs=>by
 refine hg κ a w ⟨hs.defers,hs.size,hs.inv,hs.ctx,hs.slot,fun j=>?_⟩
 show ObOK κ w j (upd s.h d (.row sz e l) j)
 by_cases hj:j = d
 ·subst hj
  rw [A6]
  have hob:=hs.obj j
  rw [h] at hob
  have hlen:l.length = svs.length:=by rw [← hl,List.length_map]
  obtain ⟨b,cap,cs,T,fr,e1,e2,e3,e4,e5,e6⟩:=hob
  exact .inr ⟨b,cap,cs,T,fr,by rw [hlen]; exact e1,e2,e3,e4,by omega,fun i x hx=>by rw [hlen]; exact e6 i x (I6 hl i x hx)⟩
 ·rw [Br _ _ hj]; exact hs.obj j
attribute [local irreducible] Go.Sy.G Go.Sy.DR
set_option maxRecDepth 100000
set_option maxHeartbeats 4000000
theorem Uc (n:Net) (up:List Bool) (x:Item) (q:List Item):∀ i,((List.range i).foldl (Ck n up x) q).length ≤ q.length + i
 | 0=>by simp
 | i + 1=>by
  have:=Uc n up x q i
  rw [List.range_succ,List.foldl_append]
  simp only [List.foldl_cons,List.foldl_nil]
  rw [Ck]
  split
  ·rw [Hw]; omega
  ·omega
theorem reachS (n:Net) (up:List Bool) (ranks roots costs:List Int) (hr:Af n = true) (hu:up.length = n.links.length) (hcost:Cr n = true) (hrk:ranks.length = n.devices.length) (hro:roots.length = n.devices.length) (hc:costs.length = n.devices.length) (hrr:∀ r ∈ ranks,0 ≤ r) (D:List Item × List Int × List Int) (hD:Hj n up (C9 ranks ranks.length,roots,costs) = D) :
  Sy.Spec Tryz.prog 157 [.ptr 0 0] (Wi n up ranks roots costs) (.tup []) (Wi n up ranks D.2.1 D.2.2):=Ab Γ hm 100 F157 Tryz.ntmps157 rfl fun F hF=>by
 have hf:=Dh hr
 conv=>whnf
 refine G_lit 10 A8 [] E E ?_
 refine A0 ranks.length (fun j=>[(0,.ptr 0 0),(2,.ptr 11 0),(15,.sl 1 Aa ranks),(16,Aa ranks.length),(17,Aa j)]) (fun j=>[(0,.box (L5 n up ranks (.osl 1) (.osl 2))),(1,.row 1 Aa roots),(2,.row 1 Aa costs),(11,.box [.osl 12]),(12,.row 3 A8 (C9 ranks j))]) [(12,10)]
  ⟨⟨rfl,rfl,rfl,rfl,rfl,rfl,rfl,rfl,rfl,rfl,trivial⟩,⟨.inl rfl,rfl,.inl rfl,rfl,.inl rfl,rfl,.inl rfl,rfl,.inl rfl,rfl,trivial⟩,rfl,rfl⟩ ?_
 intro j hj
 refine rg ?_;conv=>whnf
 refine ⟨fun h=>?_,fun h=>?_⟩
 ·have hlt:j < ranks.length:=by simpa using h
  have e1:ranks[(j:Int).toNat]'(by omega) = ranks[j]:=rfl
  have hpush:=W2 (C9 ranks j) ⟨ranks.getD j 0,0,j⟩ (by rw [Iv]; omega)
  have hsucc:=He ranks j
  rw [Az (show j < ranks.length by omega)] at hpush hsucc
  refine rg ?_;conv=>whnf
  refine ⟨by omega,by omega,?_⟩
  conv=>whnf
  refine ⟨by omega,?_⟩
  rw [e1]
  conv=>whnf
  refine Ai (Ah [(0,11),(1,12),(2,28)] E F233 hpush E ⟨E,E,Y⟩ E ⟨.inl E,.inl E,.inr E,Y⟩) E E ?_
  refine rg ?_;conv=>whnf
  refine ⟨by unfold I64; omega,?_⟩
  conv=>whnf
  refine Ar [(12,28)] hlt ⟨⟨E,E,E,E,E,E,E,E,E,E,Y⟩,⟨.inl E,E,.inl E,E,.inl E,E,.inl E,E,.inl (congrArg (Ob.row 3 A8) hsucc),E,Y⟩,E,E⟩
 ·have hjl:j = ranks.length:=by
   have:¬ j < ranks.length:=by simpa using h
   omega
  subst hjl
  refine rg ?_;conv=>whnf
  refine Ld (α:={s:List Item × List Int × List Int // ReachInv n s ∧ Hj n up s = D}) (fun p=>[(0,.ptr 0 0),(2,.ptr 11 0)]) (fun p=>[(0,.box (L5 n up ranks (.osl 1) (.osl 2))),(1,.row 1 Aa p.1.2.1),(2,.row 1 Aa p.1.2.2),(11,.box [.osl 12]),(12,.row 3 A8 p.1.1)]) (fun p=>reachM p.1) ⟨(C9 ranks ranks.length,roots,costs),Wg n ranks roots costs hr hrk hro hc hrr,hD⟩ []
   ⟨⟨rfl,rfl,rfl,rfl,trivial⟩,⟨.inl rfl,rfl,.inl rfl,rfl,.inl rfl,rfl,.inl rfl,rfl,.inl rfl,rfl,trivial⟩,rfl,rfl⟩ ?_
  rintro ⟨⟨q,ro,co⟩,hI,hDq⟩
  have hlen:=Qu q
  have hdn:=Acb n up (q,ro,co)
  have hds:=Zy n up hr hcost (q,ro,co) hI
  dsimp only at hdn hds ⊢
  refine rg ?_;conv=>whnf
  refine Ai (Mw [12] E F234 hlen (.cons (.row E E) .nil) E E) E E ?_
  refine rg ?_;conv=>whnf
  refine ⟨fun h2=>?_,fun h2=>?_⟩
  ·have hne:q ≠ []:=fun e=>by subst e; simp at h2
   have hpop:=Ajf q hne (by have:=hI.few; simp only at this; omega)
   have hx:=hI.items _ ((Ll q hne).mem_iff.1 (List.getLast_mem (C1 hne)))
   have hst:Jv n up (q,ro,co) = if 0 ≤ nth ro ((Cd q).getLast (C1 hne)).dev then ((Cd q).dropLast,ro,co) else ((List.range n.ports.length).foldl (Ck n up ((Cd q).getLast (C1 hne))) (Cd q).dropLast,ro.set ((Cd q).getLast (C1 hne)).dev.toNat ((Cd q).getLast (C1 hne)).root,co.set ((Cd q).getLast (C1 hne)).dev.toNat ((Cd q).getLast (C1 hne)).cost):=by
    rw [Jv,Us hne]
   have hr1:=H6 n up hr hcost (q,ro,co) hI hne
   have hD1:=hds hne
   rw [hDq] at hD1
   rw [hst] at hr1 hD1
   generalize (Cd q).getLast (C1 hne) = x at *
   have hroL:=hI.rootsL
   have hcoL:=hI.costsL
   dsimp only at hroL hcoL
   rw [An (l:=ro) (i:=x.dev) (by omega)] at hr1 hD1
   refine rg ?_;conv=>whnf
   refine Ai (Ah [(0,11),(1,12),(2,38)] E F235 hpop E ⟨E,E,Y⟩ E ⟨.inl E,.inl E,.inr E,Y⟩) E E ?_
   refine rg ?_;conv=>whnf
   refine Ai (Sw Γ.toTy E E E E) E E ?_
   (refine rg ?_;(conv=>whnf);refine aF ?_;refine rd (by kernel_rfl) ?_;conv=>whnf)
   have hx1:=hx.1
   have hx2:=hx.2.1
   refine ⟨by omega,by omega,?_⟩
   conv=>whnf
   refine ⟨E,by omega,?_⟩
   conv=>whnf
   refine ⟨(by kernel_rfl),?_⟩
   conv=>whnf
   refine ⟨fun h3=>?_,fun h3=>?_⟩
   ·have h30:0 ≤ ro[x.dev.toNat]'(by omega):=of_decide_eq_true h3
    rw [if_pos h30] at hr1 hD1
    refine rg ?_;conv=>whnf
    exact Ml (α:={s:List Item × List Int × List Int // ReachInv n s ∧ Hj n up s = D}) (L:=fun p=>[(0,.ptr 0 0),(2,.ptr 11 0)]) (O:=fun p=>[(0,.box (L5 n up ranks (.osl 1) (.osl 2))),(1,.row 1 Aa p.1.2.1),(2,.row 1 Aa p.1.2.2),(11,.box [.osl 12]),(12,.row 3 A8 p.1.1)]) (μ:=fun p=>reachM p.1) (x:=⟨(q,ro,co),hI,hDq⟩)
     ⟨((Cd q).dropLast,ro,co),hr1.1,hD1.symm⟩ [(12,38)] hr1.2
     ⟨⟨rfl,rfl,rfl,rfl,trivial⟩,⟨.inl rfl,rfl,.inl rfl,rfl,.inl rfl,rfl,.inl rfl,rfl,.inl rfl,rfl,trivial⟩,rfl,rfl⟩
   ·have h30:¬ 0 ≤ ro[x.dev.toNat]'(by omega):=of_decide_eq_false h3
    rw [if_neg h30] at hr1 hD1
    refine rg ?_;conv=>whnf
    refine ⟨by omega,by omega,?_⟩
    conv=>whnf
    refine ⟨by omega,by omega,?_⟩
    conv=>whnf
    refine ⟨x.root,E,E,?_⟩
    conv=>whnf
    refine ⟨by omega,by omega,E,by omega,x.cost,E,E,?_⟩
    conv=>whnf
    refine ⟨(by kernel_rfl),?_⟩
    conv=>whnf
    generalize ro.set x.dev.toNat x.root = ro' at *
    generalize co.set x.dev.toNat x.cost = co' at *
    refine A0 n.ports.length (fun j=>[(0,.ptr 0 0),(2,.ptr 11 0),(5,.ptr 5 0),(77,.sl 7 A9 n.ports),(78,Aa n.ports.length),(79,Aa j)]) (fun j=>[(0,.box (L5 n up ranks (.osl 1) (.osl 2))),(1,.row 1 Aa ro'),(2,.row 1 Aa co'),(5,.box [Aa x.root,Aa x.cost,Aa x.dev]),(11,.box [.osl 12]),(12,.row 3 A8 ((List.range j).foldl (Ck n up x) (Cd q).dropLast))]) [(12,38)]
     ⟨⟨rfl,rfl,rfl,rfl,rfl,rfl,rfl,rfl,rfl,rfl,rfl,rfl,trivial⟩,⟨.inl rfl,rfl,.inl rfl,rfl,.inl rfl,rfl,.inl rfl,rfl,.inl rfl,rfl,.inl rfl,rfl,trivial⟩,rfl,rfl⟩ ?_
    intro j hj
    refine rg ?_;conv=>whnf
    refine ⟨fun h4=>?_,fun h4=>?_⟩
    ·have hlt:j < n.ports.length:=by simpa using h4
     have e1:n.ports[(j:Int).toNat]'(by omega) = n.ports[j]:=rfl
     have hfar:=farR n up ranks ro' co' j hr hu hlt
     have hql:(Cd q).dropLast.length ≤ q.length:=by rw [List.length_dropLast,C6]; omega
     have hlenQ:=Uc n up x (Cd q).dropLast j
     have hfew:=hI.few
     dsimp only at hfew
     have hsucc:(List.range (j + 1)).foldl (Ck n up x) (Cd q).dropLast = Ck n up x ((List.range j).foldl (Ck n up x) (Cd q).dropLast) j:=by
      rw [List.range_succ,List.foldl_append]; rfl
     generalize (List.range j).foldl (Ck n up x) (Cd q).dropLast = Q at *
     rw [Ck,Az hlt] at hsucc
     refine rg ?_;conv=>whnf
     refine ⟨by omega,by omega,?_⟩
     conv=>whnf
     refine ⟨by omega,?_⟩
     rw [e1]
     conv=>whnf
     refine Ai (Ah [] E F158 hfar E ⟨E,E,E,Y⟩ E ⟨.inl E,.inl E,.inl E,Y⟩) E E ?_
     refine rg ?_;conv=>whnf
     refine ⟨fun h5=>?_,fun h5=>?_⟩
     ·refine rg ?_;conv=>whnf
      refine ⟨fun h6=>?_,fun h6=>?_⟩
      ·have hk0:0 ≤ Cq n up j:=of_decide_eq_true h6
       have hk1:=U7 (up:=up) hr hlt hk0
       rw [if_pos ⟨by simpa using h5,hk0⟩,An (l:=n.ports) (i:=Cq n up j) (by omega)] at hsucc
       have hpc:1 ≤ (n.ports[(Cq n up j).toNat]'(by omega)).cost ∧ (n.ports[(Cq n up j).toNat]'(by omega)).cost ≤ 65535:=by
        simp only [Cr,Bool.not_eq_true',List.any_eq_false] at hcost
        have:=hcost _ (List.getElem_mem (show (Cq n up j).toNat < n.ports.length by omega))
        simp only [Is,Bool.or_eq_true,decide_eq_true_eq,not_or] at this
        omega
       have hxc:=hx.2.2.2
       have hpush:=W2 Q ⟨x.root,x.cost + (n.ports[(Cq n up j).toNat]'(by omega)).cost,(n.ports[(Cq n up j).toNat]'(by omega)).dev⟩ (by omega)
       refine rg ?_;conv=>whnf
       refine ⟨E,hk0,by omega,?_⟩
       conv=>whnf
       refine ⟨by unfold I64; omega,?_⟩
       conv=>whnf
       refine ⟨E,hk0,by omega,?_⟩
       conv=>whnf
       refine Bu (Ah [(0,11),(1,12),(2,123)] E F233 hpush E ⟨E,E,Y⟩ E ⟨.inl E,.inl E,.inr E,Y⟩) (by kernel_rfl) E ?_
       refine rd (by kernel_rfl) ?_;conv=>whnf
       refine ⟨(by kernel_rfl),?_⟩
       conv=>whnf
       refine ⟨by unfold I64; omega,?_⟩
       conv=>whnf
       refine Ar [(12,123)] hlt ⟨⟨E,E,E,E,E,E,E,E,E,E,E,E,Y⟩,⟨.inl E,E,.inl E,E,.inl E,E,.inl E,E,.inl E,E,.inl (congrArg (Ob.row 3 A8) hsucc),E,Y⟩,E,E⟩
      ·rw [if_neg (fun hh=>(of_decide_eq_false h6) hh.2)] at hsucc
       refine rg ?_;conv=>whnf
       refine ⟨by unfold I64; omega,?_⟩
       conv=>whnf
       refine Ar [] hlt ⟨⟨E,E,E,E,E,E,E,E,E,E,E,E,Y⟩,⟨.inl E,E,.inl E,E,.inl E,E,.inl E,E,.inl E,E,.inl (congrArg (Ob.row 3 A8) hsucc),E,Y⟩,E,E⟩
     ·rw [if_neg (fun hh=>absurd hh.1 (by simpa using h5))] at hsucc
      (refine rg ?_;(conv=>whnf);refine aF ?_;refine rg ?_;conv=>whnf)
      refine ⟨by unfold I64; omega,?_⟩
      conv=>whnf
      refine Ar [] hlt ⟨⟨E,E,E,E,E,E,E,E,E,E,E,E,Y⟩,⟨.inl E,E,.inl E,E,.inl E,E,.inl E,E,.inl E,E,.inl (congrArg (Ob.row 3 A8) hsucc),E,Y⟩,E,E⟩
    ·have hjl:j = n.ports.length:=by
      have:¬ j < n.ports.length:=by simpa using h4
      omega
     subst hjl
     refine rg ?_;conv=>whnf
     exact Ml (α:={s:List Item × List Int × List Int // ReachInv n s ∧ Hj n up s = D}) (L:=fun p=>[(0,.ptr 0 0),(2,.ptr 11 0)]) (O:=fun p=>[(0,.box (L5 n up ranks (.osl 1) (.osl 2))),(1,.row 1 Aa p.1.2.1),(2,.row 1 Aa p.1.2.2),(11,.box [.osl 12]),(12,.row 3 A8 p.1.1)]) (μ:=fun p=>reachM p.1) (x:=⟨(q,ro,co),hI,hDq⟩)
      ⟨((List.range n.ports.length).foldl (Ck n up x) (Cd q).dropLast,ro',co'),hr1.1,hD1.symm⟩ [] hr1.2
      ⟨⟨rfl,rfl,rfl,rfl,trivial⟩,⟨.inl rfl,rfl,.inl rfl,rfl,.inl rfl,rfl,.inl rfl,rfl,.inl rfl,rfl,trivial⟩,rfl,rfl⟩
  ·have he:q = []:=List.eq_nil_of_length_eq_zero (by
    have:¬ 0 < q.length:=by simpa using h2
    omega)
   have e:D = (q,ro,co):=by rw [← hDq,hdn he]
   rw [e]
   refine rg ?_;conv=>whnf
   exact Bi E .nil [] (Wi n up ranks ro co) (fun _ h=>h) E E ⟨Y,⟨.inl E,E,.inl E,E,.inl E,E,Y⟩,E,E⟩
end Go.Sy.YtmelpejjondedaaGreat
namespace Go.Sy.YtmelpejjondedaaGreat
open Go.Proofs
attribute [local irreducible] Go.Sy.G Go.Sy.DR
set_option maxRecDepth 100000
set_option maxHeartbeats 4000000
def okB (n:Net) (up:List Bool):Bool:=decide (up.length = n.links.length) && (Af n && Cr n)
theorem ok_iff {n:Net} {up:List Bool}:okB n up = true ↔ up.length = n.links.length ∧ Af n = true ∧ Cr n = true:=by simp [okB]
def T6 (n:Net) (up:List Bool):List Int:=(Kq n up (C3 n)).2.1
def Vg (n:Net) (up:List Bool):List Int:=(Kq n up (C3 n)).2.2
def X6 (n:Net) (up:List Bool):SV:=Km n up (C3 n) (T6 n up) (Vg n up)
theorem Ak5 (n:Net) (up:List Bool) (hn:n.Fin) (h:okB n up = false):Sy.Spec Tryz.prog 84 [Aq n,.sl 1 Ad up] [] (.tup [.val (.pointer none),Aa 2]) []:=Ab Γ hm 100 F84 Tryz.ntmps84 rfl fun F hF=>by
 have h':¬ (up.length = n.links.length ∧ Af n = true ∧ Cr n = true):=fun hh=>by rw [ok_iff.2 hh] at h; cases h
 conv=>whnf
 (repeat' (first | (refine ⟨fun h=>?_,fun h=>?_⟩ <;> (repeat (first | simp only [bne_iff_ne] at h | simp only [bne_eq_false_iff_eq] at h | simp only [Bool.not_eq_true'] at h | simp only [Bool.not_eq_false'] at h)) <;> ((refine rg ?_);(conv=>whnf);repeat((refine aT ?_);(refine rg ?_);(conv=>whnf)))) | (refine Ag (Bm n hn) F67 rfl rfl rfl rfl rfl ?_; ((refine rg ?_);(conv=>whnf))) | (refine Ag (Aj1 n hn.ports) F155 rfl rfl rfl rfl rfl ?_; ((refine rg ?_);(conv=>whnf))) | refine Ac rfl (.cons .tmp (.cons .tmp .nil)) rfl rfl))
 all_goals exact absurd ⟨by omega,by assumption,by assumption⟩ h'
def Kh (m j:Nat):List Int:=List.replicate j (-1) ++ List.replicate (m - j) 0
theorem Adi (m:Nat):Kh m 0 = List.replicate m 0:=by simp [Kh]
theorem Agr (m:Nat):Kh m m = List.replicate m (-1):=by simp [Kh]
theorem Yp (m j:Nat) (h:j ≤ m):(Kh m j).length = m:=by simp [Kh]; omega
theorem Adj (m j:Nat) (h:j < m):Kh m (j + 1) = (Kh m j).set j (-1):=by
 have e:m - j = (m - (j + 1)) + 1:=by omega
 rw [Kh,Kh,e,List.set_append_right _ _ (by simp),List.length_replicate,Nat.sub_self,List.replicate_succ' (n:=j),List.replicate_succ (n:=m - (j + 1))]
 simp
theorem openOK (n:Net) (up:List Bool) (hn:n.Fin) (hu:up.length = n.links.length) (hr:Af n = true) (hcost:Cr n = true):Sy.Spec Tryz.prog 84 [Aq n,.sl 1 Ad up] [] (.tup [X6 n up,Aa 0]) []:=Ab Γ hm 100 F84 Tryz.ntmps84 rfl fun F hF=>by
 have hf:=Dh hr
 have hrt:=Bm n hn
 have hct:=Aj1 n hn.ports
 have hrs:=ranksS n hn
 rw [hr] at hrt
 rw [hcost] at hct
 rw [hr,if_pos rfl] at hrs
 have hrk:=Ix n
 have hrr:∀ r ∈ C3 n,0 ≤ r:=fun r h=>(Sj n r h).1
 have hsv:X6 n up = Km n up (C3 n) (Kq n up (C3 n)).2.1 (Kq n up (C3 n)).2.2:=rfl
 rw [hsv]
 generalize C3 n = ranks at *
 have hreach:=fun D hD=>reachS n up ranks (List.replicate n.devices.length (-1)) (List.replicate n.devices.length 0) hr hu hcost hrk (by simp) (by simp) hrr D hD
 have hRT:Hj n up (C9 ranks ranks.length,List.replicate n.devices.length (-1),List.replicate n.devices.length 0) = Kq n up ranks:=rfl
 generalize Kq n up ranks = D at *
 have hreach:=hreach D hRT
 clear hRT hsv
 conv=>whnf
 refine ⟨fun h=>absurd h (by simp [hu]),fun h=>?_⟩
 refine rg ?_;conv=>whnf
 refine Ag hrt F67 E E E E E ?_
 (refine rg ?_;(conv=>whnf);refine aF ?_;refine rg ?_;conv=>whnf)
 refine Ag hct F155 E E E E E ?_
 (refine rg ?_;(conv=>whnf);refine aF ?_;refine rg ?_;conv=>whnf)
 refine Ay hrs F156 E E E (by kernel_rfl) E ?_
 refine rd (by kernel_rfl) ?_;conv=>whnf
 refine Bu (Bv Γ.toTy (d:=31) (n:=n.devices.length) Aa 0 E E E E E E E E (by omega) (by omega) E E E) (by kernel_rfl) E ?_
 refine rd (by kernel_rfl) ?_;conv=>whnf
 refine Bu (Bv Γ.toTy (d:=35) (n:=n.devices.length) Aa 0 E E E E E E E E (by omega) (by omega) E E E) (by kernel_rfl) E ?_
 refine rd (by kernel_rfl) ?_;conv=>whnf
 refine ⟨(by kernel_rfl),?_⟩
 conv=>whnf
 refine A0 n.devices.length (fun j=>[(6,.ptr 37 0),(42,Aa (List.replicate n.devices.length (0:Int)).length),(43,Aa j)]) (fun j=>[(37,.box (L5 n up ranks (.osl 31) (.osl 35))),(31,.row 1 Aa (Kh n.devices.length j)),(35,.row 1 Aa (List.replicate n.devices.length 0))]) []
  ⟨⟨rfl,rfl,rfl,rfl,rfl,rfl,trivial⟩,⟨.inl rfl,rfl,.inl (by rw [Adi]; rfl),rfl,.inl rfl,rfl,trivial⟩,rfl,rfl⟩ ?_
 intro j hj
 have hlen:=Yp n.devices.length j hj
 refine rg ?_;conv=>whnf
 refine ⟨fun h=>?_,fun h=>?_⟩
 ·have hlt:j < n.devices.length:=by simpa using h
  have hsucc:=Adj n.devices.length j hlt
  generalize Kh n.devices.length j = u at *
  refine rg ?_;conv=>whnf
  refine ⟨by omega,by omega,?_⟩
  conv=>whnf
  refine ⟨E,by omega,-1,E,E,?_⟩
  conv=>whnf
  refine ⟨by unfold I64; omega,?_⟩
  conv=>whnf
  exact Ar [] hlt ⟨⟨E,E,E,E,E,E,Y⟩,⟨.inl E,E,.inl (congrArg (Ob.row 1 Aa) hsucc),E,.inl E,E,Y⟩,E,E⟩
 have hjl:j = n.devices.length:=by
  have:¬ j < n.devices.length:=by simpa using h
  omega
 subst hjl
 have hall:=Agr n.devices.length
 rw [← hall] at hreach
 refine rg ?_;conv=>whnf
 refine Ai (Ah [(0,37),(1,31),(2,35)] E F157 hreach E ⟨E,E,E,Y⟩ E ⟨.inl E,.inl E,.inl E,Y⟩) E E ?_
 refine At 31 E ?_
 refine At 35 E ?_
 refine B1 37 12 (.agg (L5 n up ranks (.sl 1 Aa D.2.1) (.sl 1 Aa D.2.2))) E E E ?_
 refine rg ?_;conv=>whnf
 exact Ac E (.cons .tmp (.cons .tmp .nil)) E E
end Go.Sy.YtmelpejjondedaaGreat
