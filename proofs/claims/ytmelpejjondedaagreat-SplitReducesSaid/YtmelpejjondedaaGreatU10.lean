/-
  K45 Sy39 Y1 Y2 T18 T20 T22 T23 T24 T26 T27 T28 T29 T30 T31 Y3 Y4 Y5 X2 Sy23: parts of a proof, joined by program.
-/
import Derived.Test.YtmelpejjondedaaGreatU9
import Derived.Test.YtmelpejjondedaaGreatU7
import Derived.Test.YtmelpejjondedaaGreatU2
import Derived.Test.YtmelpejjondedaaGreatU6
import Derived.Test.YtmelpejjondedaaGreatU3
import Derived.Test.YtmelpejjondedaaGreatU4
import Derived.Test.YtmelpejjondedaaGreatU5
namespace Go.Sy.YtmelpejjondedaaGreat
open Go.Proofs
attribute [local irreducible] Go.Sy.G Go.Sy.DR
set_option maxRecDepth 100000
set_option maxHeartbeats 4000000
theorem Vp {n:Net} (hb:Ag n=true) {i:Nat} (hi:i<n.ports.length):n.ports[i].link=-1∨0≤n.ports[i].link:=by
 have:=Ap4 hb hi
 simp only[Eu,Al,Bool.and_eq_true,Bool.or_eq_true,decide_eq_true_eq,beq_iff_eq]at this
 rcases this.2 with h1 | h1
 ·exact .inl h1
 ·exact .inr h1.1.1
theorem Ald {n:Net} {fw:List Bool} {dom fr:Int} (h:roomB n fw dom fr=true):fr=-1∨fr=-2∨0≤fr:=by
 simp only[roomB,Bool.and_eq_true,Bool.or_eq_true,decide_eq_true_eq]at h
 rcases h.2 with (h | h) | h
 ·exact .inl h
 ·exact .inr (.inl h)
 ·exact .inr (.inr (B3 fr (inB_mem.1 h)).1)
theorem Ahm (n:Net) (hn:n.Fin) (hm0:n.Num) (fw:List Bool) (t:List EntryM) (dom:Int) (q:QueuedM) (now:Int) (ht:TabOK t) (hq:QueuedOK q) :
  Sy.Spec Tryz.prog 81 [Ap n,.sl 1 Ad fw,.sl 3 Am t,Aa dom,Ay q,Aa now] [] (.tup [.sl 3 Am (bridgeT n fw t dom q now).1,.sl 9 Bi (bridgeT n fw t dom q now).2.1,Aa (bridgeT n fw t dom q now).2.2]) []:=Ab Γ hm 100 F81 Tryz.ntmps81 rfl fun F hF=>by
 have hres:=bridgeT.eq_1 n fw t dom q now
 generalize bridgeT n fw t dom q now=res at *
 have qf:=We n hn fw dom q.from_
 have qr:=Kv t ht.short ht.mac
 have htl:=ht.short
 unfold Ar at htl
 conv=>whnf
 refine Bg 6 8 (Ap n) E E E ?_
 refine Bg 10 7 (Ay q) E E E ?_
 refine rg ?_;conv=>whnf
 cases hroom:roomB n fw dom q.from_
 ·rw[if_pos (.inl hroom)]at hres
  subst hres
  rw[floodT,if_pos hroom]at qf
  refine Ah qf F143 E E E E E ?_
  (refine rg ?_;(conv=>whnf);refine aT ?_;refine rg ?_;(conv=>whnf);refine aT ?_;refine rg ?_;conv=>whnf)
  refine An 13 9 Bi E ?_
  refine An 12 3 Am E ?_
  exact Ac E (.cons .tmp (.cons .tmp (.cons .tmp .nil))) E E
 rw[floodT,if_neg (by rw[hroom];decide)]at qf
 refine Ah qf F143 E E E E E ?_
 (refine rg ?_;(conv=>whnf);refine aF ?_;refine rg ?_;conv=>whnf)
 refine Ah qr F20 E E E E E ?_
 cases htb:tableB t
 ·rw[if_pos (.inr htb)]at hres
  subst hres
  (refine rg ?_;(conv=>whnf);refine aT ?_;refine rg ?_;conv=>whnf)
  refine An 13 9 Bi E ?_
  refine An 12 3 Am E ?_
  exact Ac E (.cons .tmp (.cons .tmp (.cons .tmp .nil))) E E
 rw[if_neg (by simp[hroom,htb])]at hres
 have hfrom:=Ald hroom
 have hlq:=learnQ.eq_1 t q now
 have hu:=Lw ht hq now
 generalize learnQ t q now=u at *
 have hbn:Ag n=true:=by
  simp only[roomB,Bool.and_eq_true]at hroom
  exact hroom.1.2
 have hpd:Al dom n.domains.length=true:=by
  simp only[roomB,Bool.and_eq_true]at hroom
  exact hroom.1.1.1
 have hsr:=hq.frame.src
 have hpe:=hq.peer
 have hfr:=hq.from_
 have qro:=Ack n hn hm0 hbn dom hpd q.frame.dst
 generalize routerT n dom q.frame.dst=ro at *
 obtain ⟨irb,ok⟩:=ro
 dsimp only at hres qro
 have hs:=hq.frame.src
 have hd2:=hq.frame.dst
 have hfw:=Aki hu q.frame.dst
 have qd:=Acj n hn fw u dom q.from_ q.frame.dst hu.short hfw qn
 have hports:=U7 hbn fw u dom q.from_ q.frame.dst
 have hfew:=Tm hn fw u dom q.from_ q.frame.dst
 have qh:=Alp n hn hm0 irb q.frame hq.frame
 (refine rg ?_;(conv=>whnf);refine aF ?_;refine rg ?_;conv=>whnf)
 refine Ai (Ae Γ.toTy 54 E E E E E (.lit (e:=Am) (l:=[]) E E) .sl za (by simp;omega) (by simp;omega)) E E ?_
 refine As 54 E ?_
 rcases hfrom with hf | hf | hf
 ·rw[if_neg qn,if_pos hf]at hlq
  have qle:=Wf t q.frame.src (-1-q.peer) now ht.short ht.mac qn
  rw[← hlq]at qle
  refine rg ?_;conv=>whnf
  (refine⟨fun h=>False.elim (by simp at h;omega),fun _=>?_⟩;refine rg ?_;conv=>whnf)
  (refine⟨fun _=>?_,fun h=>False.elim (by simp at h;omega)⟩;refine rg ?_;conv=>whnf)
  refine⟨by unfold I64;omega,?_⟩
  conv=>whnf
  refine Ah qle F144 E E E E E ?_
  refine rg ?_;conv=>whnf
  refine Ah qro F145 E E E E E ?_
  cases ok
  rotate_left
  ·rw[if_pos rfl]at hres
   generalize hopT n irb q.frame=hp at *
   obtain ⟨to,g,e⟩:=hp
   dsimp only at hres qh
   (refine rg ?_;(conv=>whnf);refine aT ?_;refine rg ?_;conv=>whnf)
   refine Ah qh F146 E E E E E ?_
   refine rg ?_;conv=>whnf
   refine⟨fun h=>?_,fun h=>?_⟩
   ·rw[if_pos (by simpa using h)]at hres
    subst hres
    refine rg ?_;conv=>whnf
    refine An 13 9 Bi E ?_
    exact Ac E (.cons .tmp (.cons .tmp (.cons .tmp .nil))) E E
   ·rw[if_neg (by simpa using h)]at hres
    subst hres
    refine rg ?_;conv=>whnf
    refine⟨qy,?_⟩
    conv=>whnf
    refine Mw 105 [Bi ⟨4,0,to,[],g,0⟩] E (.cons (.agg (.cons (.refl _) (.cons (.refl _) (.cons (.refl _) (.cons .nil (.cons (.refl _) (.cons (.refl _) (.cons (.refl _) (.cons (.refl _) (.cons (.refl _) .nil)))))))))) .nil) E ?_
    refine Dm 105 Bi [⟨4,0,to,[],g,0⟩] E E ?_
    refine As 105 E ?_
    exact Ac E (.cons .tmp (.cons .tmp (.cons .tmp .nil))) E E
  rw[if_neg qz]at hres
  generalize decideT n fw u dom q.from_ q.frame.dst=dc at *
  obtain ⟨ports,peers,e0⟩:=dc
  dsimp only at hres qd hports hfew
  obtain ⟨hf1,hf2⟩:=hfew
  (refine rg ?_;(conv=>whnf);refine aF ?_;refine rg ?_;conv=>whnf)
  refine Ah qd F147 E E E E E ?_
  refine rg ?_;conv=>whnf
  refine Bm 27 1000 9 Bi E E ?_
  refine At ports.length (fun j=>[(3,Aa dom),(6,.ref 8 (Ap n) 0),(10,.ref 7 (Ay q) 0),(18,.sl 3 Am u),(24,.sl 1 Aa ports),(25,.sl 1 Aa peers),(27,.osl 1000),(28,Aa j)])
   (fun j=>[(1000,.row 9 Bi ((ports.take j).map (E2 n dom q.frame)))]) [] ⟨⟨rfl,rfl,rfl,rfl,rfl,rfl,rfl,rfl,rfl,rfl,rfl,rfl,rfl,rfl,rfl,rfl,trivial⟩,⟨.inl rfl,rfl,trivial⟩,rfl,rfl⟩ ?_
  intro j hj
  refine rg ?_;conv=>whnf
  refine⟨fun h=>?_,fun h=>?_⟩
  ·have hlt:j<ports.length:=by have:=of_decide_eq_true h;omega
   have hj0:((j:Nat):Int).toNat<ports.length:=by simpa using hlt
   obtain ⟨p,hp⟩:∃ p,ports[j]=p:=⟨_,rfl⟩
   have e1:ports[((j:Nat):Int).toNat]'hj0=p:=hp
   have hs:(ports.take (j+1)).map (E2 n dom q.frame)=(ports.take j).map (E2 n dom q.frame)++[E2 n dom q.frame p]:=by
    rw[List.take_succ_eq_append_getElem hlt,List.map_append,hp];rfl
   have hal:((ports.take j).map (E2 n dom q.frame)).length=j:=by rw[List.length_map,List.length_take];omega
   have hpi:=hports p (by rw[← hp];exact List.getElem_mem hlt)
   have hpk:p.toNat<n.ports.length:=by omega
   have ql:=Yc n hn p dom q.frame hq.frame
   have hop:E2 n dom q.frame p=D4 (Jv (if (nth n.ports p).link<0 then 1 else 2) p 0) ((leaveT n p dom q.frame).1,(leaveT n p dom q.frame).2):=rfl
   rw[hop,Ao hpk]at hs
   clear hop
   obtain ⟨acc,hacc⟩:∃ acc,(ports.take j).map (E2 n dom q.frame)=acc:=⟨_,rfl⟩
   rw[hacc]at hs hal ⊢
   have hli:=Vp hbn hpk
   obtain ⟨x,hx⟩:∃ x,n.ports[p.toNat]'hpk=x:=⟨_,rfl⟩
   rw[hx]at hs hli
   clear h
   refine rg ?_;conv=>whnf
   refine⟨E,by omega,hj0,?_⟩
   rw[e1]
   conv=>whnf
   refine Au ql F148 E E E qy E ?_
   refine rd qy ?_;conv=>whnf
   refine⟨qy,?_⟩
   conv=>whnf
   refine⟨E,by omega,hj0,?_⟩
   rw[e1]
   conv=>whnf
   refine⟨E,by omega,hj0,?_⟩
   rw[e1]
   conv=>whnf
   refine⟨E,hpi.1,hpk,?_⟩
   rw[hx]
   conv=>whnf
   refine⟨qy,?_⟩
   conv=>whnf
   refine⟨fun h=>?_,fun h=>?_⟩
   ·rw[if_neg (by have:¬ x.link=-1:=(by simpa using h);omega)]at hs
    refine rg ?_;conv=>whnf
    refine Ai (Ef [] [] E F149 (Ea 2 p 0 (leaveT n p dom q.frame).1 (leaveT n p dom q.frame).2) (.cons (.agg (.cons (.refl _) (.cons (.refl _) (.cons (.refl _) (.cons .nil (.cons (.refl _) (.cons (.refl _) (.cons (.refl _) (.cons .nil (.cons (.refl _) .nil)))))))))) (.cons (.refl _) (.cons (.refl _) .nil))) Y E Y E) E E ?_
    refine rg ?_;conv=>whnf
    refine Ai (Ae Γ.toTy 160 E E E E E (.row E) (.lit (e:=Bi) (l:=[D4 (Jv 2 p 0) ((leaveT n p dom q.frame).1,(leaveT n p dom q.frame).2)]) E E) za (by simp;omega) (by simp;omega)) E E ?_
    refine rg ?_;conv=>whnf
    refine⟨by unfold I64;omega,?_⟩
    conv=>whnf
    exact Aq [(1000,160)] hlt ⟨⟨E,E,E,E,E,E,E,E,E,E,E,E,E,E,E,E,Y⟩,⟨.inl (congrArg (Ob.row 9 Bi) hs),E,Y⟩,E,E⟩
   ·rw[if_pos (by have:x.link=-1:=(by simpa using h);omega)]at hs
    refine rg ?_;conv=>whnf
    refine Ai (Ef [] [] E F149 (Ea 1 p 0 (leaveT n p dom q.frame).1 (leaveT n p dom q.frame).2) (.cons (.agg (.cons (.refl _) (.cons (.refl _) (.cons (.refl _) (.cons .nil (.cons (.refl _) (.cons (.refl _) (.cons (.refl _) (.cons .nil (.cons (.refl _) .nil)))))))))) (.cons (.refl _) (.cons (.refl _) .nil))) Y E Y E) E E ?_
    refine rg ?_;conv=>whnf
    refine Ai (Ae Γ.toTy 160 E E E E E (.row E) (.lit (e:=Bi) (l:=[D4 (Jv 1 p 0) ((leaveT n p dom q.frame).1,(leaveT n p dom q.frame).2)]) E E) za (by simp;omega) (by simp;omega)) E E ?_
    refine rg ?_;conv=>whnf
    refine⟨by unfold I64;omega,?_⟩
    conv=>whnf
    exact Aq [(1000,160)] hlt ⟨⟨E,E,E,E,E,E,E,E,E,E,E,E,E,E,E,E,Y⟩,⟨.inl (congrArg (Ob.row 9 Bi) hs),E,Y⟩,E,E⟩
  have hjj:j=ports.length:=by have:=of_decide_eq_false h;omega
  subst hjj
  clear h
  rw[List.take_length]
  obtain ⟨acc0,hacc0⟩:∃ acc0,ports.map (E2 n dom q.frame)=acc0:=⟨_,rfl⟩
  have hal0:acc0.length=ports.length:=by rw[← hacc0,List.length_map]
  rw[hacc0]at hres ⊢
  refine rg ?_;conv=>whnf
  refine At peers.length (fun j=>[(3,Aa dom),(6,.ref 8 (Ap n) 0),(10,.ref 7 (Ay q) 0),(18,.sl 3 Am u),(25,.sl 1 Aa peers),(27,.osl 1000),(32,Aa j)])
   (fun j=>[(1000,.row 9 Bi (acc0++(peers.take j).map (H3 n dom q.frame)))]) [] ⟨⟨rfl,rfl,rfl,rfl,rfl,rfl,rfl,rfl,rfl,rfl,rfl,rfl,rfl,rfl,trivial⟩,⟨.inl (congrArg (Ob.row 9 Bi) za),rfl,trivial⟩,rfl,rfl⟩ ?_
  intro j hj
  refine rg ?_;conv=>whnf
  refine⟨fun h=>?_,fun h=>?_⟩
  ·have hlt:j<peers.length:=by have:=of_decide_eq_true h;omega
   have hj0:((j:Nat):Int).toNat<peers.length:=by simpa using hlt
   obtain ⟨p,hp⟩:∃ p,peers[j]=p:=⟨_,rfl⟩
   have e1:peers[((j:Nat):Int).toNat]'hj0=p:=hp
   have hs:acc0++(peers.take (j+1)).map (H3 n dom q.frame)=(acc0++(peers.take j).map (H3 n dom q.frame))++[H3 n dom q.frame p]:=by
    rw[List.take_succ_eq_append_getElem hlt,List.map_append,hp,List.append_assoc];rfl
   have hal:(acc0++(peers.take j).map (H3 n dom q.frame)).length≤ports.length+j:=by rw[List.length_append,List.length_map,List.length_take];omega
   have ql:=S4 n hn hm0 dom p q.frame hq.frame
   have hop:H3 n dom q.frame p=D4 (Jv 3 0 p) ((meshT n dom p q.frame).1,(meshT n dom p q.frame).2):=rfl
   rw[hop]at hs
   clear hop
   obtain ⟨acc,hacc⟩:∃ acc,acc0++(peers.take j).map (H3 n dom q.frame)=acc:=⟨_,rfl⟩
   rw[hacc]at hs hal ⊢
   clear h
   refine rg ?_;conv=>whnf
   refine⟨E,by omega,hj0,?_⟩
   rw[e1]
   conv=>whnf
   refine Au ql F150 E E E qy E ?_
   refine rd qy ?_;conv=>whnf
   refine⟨qy,?_⟩
   conv=>whnf
   refine⟨E,by omega,hj0,?_⟩
   rw[e1]
   conv=>whnf
   refine Ai (Ef [] [] E F149 (Ea 3 0 p (meshT n dom p q.frame).1 (meshT n dom p q.frame).2) (.cons (.agg (.cons (.refl _) (.cons (.refl _) (.cons (.refl _) (.cons .nil (.cons (.refl _) (.cons (.refl _) (.cons (.refl _) (.cons .nil (.cons (.refl _) .nil)))))))))) (.cons (.refl _) (.cons (.refl _) .nil))) Y E Y E) E E ?_
   refine rg ?_;conv=>whnf
   refine Ai (Ae Γ.toTy 189 E E E E E (.row E) (.lit (e:=Bi) (l:=[D4 (Jv 3 0 p) ((meshT n dom p q.frame).1,(meshT n dom p q.frame).2)]) E E) za (by simp;omega) (by simp;omega)) E E ?_
   refine rg ?_;conv=>whnf
   refine⟨by unfold I64;omega,?_⟩
   conv=>whnf
   exact Aq [(1000,189)] hlt ⟨⟨E,E,E,E,E,E,E,E,E,E,E,E,E,E,Y⟩,⟨.inl (congrArg (Ob.row 9 Bi) hs),E,Y⟩,E,E⟩
  have hjj:j=peers.length:=by have:=of_decide_eq_false h;omega
  subst hjj
  clear h
  rw[List.take_length]
  subst hres
  refine rg ?_;conv=>whnf
  refine As 1000 E ?_
  exact Ac E (.cons .tmp (.cons .tmp (.cons .tmp .nil))) E E
 ·rw[if_pos hf]at hlq
  subst hlq
  refine rg ?_;conv=>whnf
  (refine⟨fun h=>False.elim (by simp at h;omega),fun _=>?_⟩;refine rg ?_;conv=>whnf)
  (refine⟨fun h=>False.elim (by simp at h;omega),fun _=>?_⟩;refine rg ?_;conv=>whnf)
  refine Ah qro F145 E E E E E ?_
  cases ok
  rotate_left
  ·rw[if_pos rfl]at hres
   generalize hopT n irb q.frame=hp at *
   obtain ⟨to,g,e⟩:=hp
   dsimp only at hres qh
   (refine rg ?_;(conv=>whnf);refine aT ?_;refine rg ?_;conv=>whnf)
   refine Ah qh F146 E E E E E ?_
   refine rg ?_;conv=>whnf
   refine⟨fun h=>?_,fun h=>?_⟩
   ·rw[if_pos (by simpa using h)]at hres
    subst hres
    refine rg ?_;conv=>whnf
    refine An 13 9 Bi E ?_
    exact Ac E (.cons .tmp (.cons .tmp (.cons .tmp .nil))) E E
   ·rw[if_neg (by simpa using h)]at hres
    subst hres
    refine rg ?_;conv=>whnf
    refine⟨qy,?_⟩
    conv=>whnf
    refine Mw 105 [Bi ⟨4,0,to,[],g,0⟩] E (.cons (.agg (.cons (.refl _) (.cons (.refl _) (.cons (.refl _) (.cons .nil (.cons (.refl _) (.cons (.refl _) (.cons (.refl _) (.cons (.refl _) (.cons (.refl _) .nil)))))))))) .nil) E ?_
    refine Dm 105 Bi [⟨4,0,to,[],g,0⟩] E E ?_
    refine As 105 E ?_
    exact Ac E (.cons .tmp (.cons .tmp (.cons .tmp .nil))) E E
  rw[if_neg qz]at hres
  generalize decideT n fw u dom q.from_ q.frame.dst=dc at *
  obtain ⟨ports,peers,e0⟩:=dc
  dsimp only at hres qd hports hfew
  obtain ⟨hf1,hf2⟩:=hfew
  (refine rg ?_;(conv=>whnf);refine aF ?_;refine rg ?_;conv=>whnf)
  refine Ah qd F147 E E E E E ?_
  refine rg ?_;conv=>whnf
  refine Bm 27 1000 9 Bi E E ?_
  refine At ports.length (fun j=>[(3,Aa dom),(6,.ref 8 (Ap n) 0),(10,.ref 7 (Ay q) 0),(18,.sl 3 Am u),(24,.sl 1 Aa ports),(25,.sl 1 Aa peers),(27,.osl 1000),(28,Aa j)])
   (fun j=>[(1000,.row 9 Bi ((ports.take j).map (E2 n dom q.frame)))]) [] ⟨⟨rfl,rfl,rfl,rfl,rfl,rfl,rfl,rfl,rfl,rfl,rfl,rfl,rfl,rfl,rfl,rfl,trivial⟩,⟨.inl rfl,rfl,trivial⟩,rfl,rfl⟩ ?_
  intro j hj
  refine rg ?_;conv=>whnf
  refine⟨fun h=>?_,fun h=>?_⟩
  ·have hlt:j<ports.length:=by have:=of_decide_eq_true h;omega
   have hj0:((j:Nat):Int).toNat<ports.length:=by simpa using hlt
   obtain ⟨p,hp⟩:∃ p,ports[j]=p:=⟨_,rfl⟩
   have e1:ports[((j:Nat):Int).toNat]'hj0=p:=hp
   have hs:(ports.take (j+1)).map (E2 n dom q.frame)=(ports.take j).map (E2 n dom q.frame)++[E2 n dom q.frame p]:=by
    rw[List.take_succ_eq_append_getElem hlt,List.map_append,hp];rfl
   have hal:((ports.take j).map (E2 n dom q.frame)).length=j:=by rw[List.length_map,List.length_take];omega
   have hpi:=hports p (by rw[← hp];exact List.getElem_mem hlt)
   have hpk:p.toNat<n.ports.length:=by omega
   have ql:=Yc n hn p dom q.frame hq.frame
   have hop:E2 n dom q.frame p=D4 (Jv (if (nth n.ports p).link<0 then 1 else 2) p 0) ((leaveT n p dom q.frame).1,(leaveT n p dom q.frame).2):=rfl
   rw[hop,Ao hpk]at hs
   clear hop
   obtain ⟨acc,hacc⟩:∃ acc,(ports.take j).map (E2 n dom q.frame)=acc:=⟨_,rfl⟩
   rw[hacc]at hs hal ⊢
   have hli:=Vp hbn hpk
   obtain ⟨x,hx⟩:∃ x,n.ports[p.toNat]'hpk=x:=⟨_,rfl⟩
   rw[hx]at hs hli
   clear h
   refine rg ?_;conv=>whnf
   refine⟨E,by omega,hj0,?_⟩
   rw[e1]
   conv=>whnf
   refine Au ql F148 E E E qy E ?_
   refine rd qy ?_;conv=>whnf
   refine⟨qy,?_⟩
   conv=>whnf
   refine⟨E,by omega,hj0,?_⟩
   rw[e1]
   conv=>whnf
   refine⟨E,by omega,hj0,?_⟩
   rw[e1]
   conv=>whnf
   refine⟨E,hpi.1,hpk,?_⟩
   rw[hx]
   conv=>whnf
   refine⟨qy,?_⟩
   conv=>whnf
   refine⟨fun h=>?_,fun h=>?_⟩
   ·rw[if_neg (by have:¬ x.link=-1:=(by simpa using h);omega)]at hs
    refine rg ?_;conv=>whnf
    refine Ai (Ef [] [] E F149 (Ea 2 p 0 (leaveT n p dom q.frame).1 (leaveT n p dom q.frame).2) (.cons (.agg (.cons (.refl _) (.cons (.refl _) (.cons (.refl _) (.cons .nil (.cons (.refl _) (.cons (.refl _) (.cons (.refl _) (.cons .nil (.cons (.refl _) .nil)))))))))) (.cons (.refl _) (.cons (.refl _) .nil))) Y E Y E) E E ?_
    refine rg ?_;conv=>whnf
    refine Ai (Ae Γ.toTy 160 E E E E E (.row E) (.lit (e:=Bi) (l:=[D4 (Jv 2 p 0) ((leaveT n p dom q.frame).1,(leaveT n p dom q.frame).2)]) E E) za (by simp;omega) (by simp;omega)) E E ?_
    refine rg ?_;conv=>whnf
    refine⟨by unfold I64;omega,?_⟩
    conv=>whnf
    exact Aq [(1000,160)] hlt ⟨⟨E,E,E,E,E,E,E,E,E,E,E,E,E,E,E,E,Y⟩,⟨.inl (congrArg (Ob.row 9 Bi) hs),E,Y⟩,E,E⟩
   ·rw[if_pos (by have:x.link=-1:=(by simpa using h);omega)]at hs
    refine rg ?_;conv=>whnf
    refine Ai (Ef [] [] E F149 (Ea 1 p 0 (leaveT n p dom q.frame).1 (leaveT n p dom q.frame).2) (.cons (.agg (.cons (.refl _) (.cons (.refl _) (.cons (.refl _) (.cons .nil (.cons (.refl _) (.cons (.refl _) (.cons (.refl _) (.cons .nil (.cons (.refl _) .nil)))))))))) (.cons (.refl _) (.cons (.refl _) .nil))) Y E Y E) E E ?_
    refine rg ?_;conv=>whnf
    refine Ai (Ae Γ.toTy 160 E E E E E (.row E) (.lit (e:=Bi) (l:=[D4 (Jv 1 p 0) ((leaveT n p dom q.frame).1,(leaveT n p dom q.frame).2)]) E E) za (by simp;omega) (by simp;omega)) E E ?_
    refine rg ?_;conv=>whnf
    refine⟨by unfold I64;omega,?_⟩
    conv=>whnf
    exact Aq [(1000,160)] hlt ⟨⟨E,E,E,E,E,E,E,E,E,E,E,E,E,E,E,E,Y⟩,⟨.inl (congrArg (Ob.row 9 Bi) hs),E,Y⟩,E,E⟩
  have hjj:j=ports.length:=by have:=of_decide_eq_false h;omega
  subst hjj
  clear h
  rw[List.take_length]
  obtain ⟨acc0,hacc0⟩:∃ acc0,ports.map (E2 n dom q.frame)=acc0:=⟨_,rfl⟩
  have hal0:acc0.length=ports.length:=by rw[← hacc0,List.length_map]
  rw[hacc0]at hres ⊢
  refine rg ?_;conv=>whnf
  refine At peers.length (fun j=>[(3,Aa dom),(6,.ref 8 (Ap n) 0),(10,.ref 7 (Ay q) 0),(18,.sl 3 Am u),(25,.sl 1 Aa peers),(27,.osl 1000),(32,Aa j)])
   (fun j=>[(1000,.row 9 Bi (acc0++(peers.take j).map (H3 n dom q.frame)))]) [] ⟨⟨rfl,rfl,rfl,rfl,rfl,rfl,rfl,rfl,rfl,rfl,rfl,rfl,rfl,rfl,trivial⟩,⟨.inl (congrArg (Ob.row 9 Bi) za),rfl,trivial⟩,rfl,rfl⟩ ?_
  intro j hj
  refine rg ?_;conv=>whnf
  refine⟨fun h=>?_,fun h=>?_⟩
  ·have hlt:j<peers.length:=by have:=of_decide_eq_true h;omega
   have hj0:((j:Nat):Int).toNat<peers.length:=by simpa using hlt
   obtain ⟨p,hp⟩:∃ p,peers[j]=p:=⟨_,rfl⟩
   have e1:peers[((j:Nat):Int).toNat]'hj0=p:=hp
   have hs:acc0++(peers.take (j+1)).map (H3 n dom q.frame)=(acc0++(peers.take j).map (H3 n dom q.frame))++[H3 n dom q.frame p]:=by
    rw[List.take_succ_eq_append_getElem hlt,List.map_append,hp,List.append_assoc];rfl
   have hal:(acc0++(peers.take j).map (H3 n dom q.frame)).length≤ports.length+j:=by rw[List.length_append,List.length_map,List.length_take];omega
   have ql:=S4 n hn hm0 dom p q.frame hq.frame
   have hop:H3 n dom q.frame p=D4 (Jv 3 0 p) ((meshT n dom p q.frame).1,(meshT n dom p q.frame).2):=rfl
   rw[hop]at hs
   clear hop
   obtain ⟨acc,hacc⟩:∃ acc,acc0++(peers.take j).map (H3 n dom q.frame)=acc:=⟨_,rfl⟩
   rw[hacc]at hs hal ⊢
   clear h
   refine rg ?_;conv=>whnf
   refine⟨E,by omega,hj0,?_⟩
   rw[e1]
   conv=>whnf
   refine Au ql F150 E E E qy E ?_
   refine rd qy ?_;conv=>whnf
   refine⟨qy,?_⟩
   conv=>whnf
   refine⟨E,by omega,hj0,?_⟩
   rw[e1]
   conv=>whnf
   refine Ai (Ef [] [] E F149 (Ea 3 0 p (meshT n dom p q.frame).1 (meshT n dom p q.frame).2) (.cons (.agg (.cons (.refl _) (.cons (.refl _) (.cons (.refl _) (.cons .nil (.cons (.refl _) (.cons (.refl _) (.cons (.refl _) (.cons .nil (.cons (.refl _) .nil)))))))))) (.cons (.refl _) (.cons (.refl _) .nil))) Y E Y E) E E ?_
   refine rg ?_;conv=>whnf
   refine Ai (Ae Γ.toTy 189 E E E E E (.row E) (.lit (e:=Bi) (l:=[D4 (Jv 3 0 p) ((meshT n dom p q.frame).1,(meshT n dom p q.frame).2)]) E E) za (by simp;omega) (by simp;omega)) E E ?_
   refine rg ?_;conv=>whnf
   refine⟨by unfold I64;omega,?_⟩
   conv=>whnf
   exact Aq [(1000,189)] hlt ⟨⟨E,E,E,E,E,E,E,E,E,E,E,E,E,E,Y⟩,⟨.inl (congrArg (Ob.row 9 Bi) hs),E,Y⟩,E,E⟩
  have hjj:j=peers.length:=by have:=of_decide_eq_false h;omega
  subst hjj
  clear h
  rw[List.take_length]
  subst hres
  refine rg ?_;conv=>whnf
  refine As 1000 E ?_
  exact Ac E (.cons .tmp (.cons .tmp (.cons .tmp .nil))) E E
 ·rw[if_neg qn,if_neg qn]at hlq
  have qle:=Wf t q.frame.src q.from_ now ht.short ht.mac qn
  rw[← hlq]at qle
  refine rg ?_;conv=>whnf
  (refine⟨fun _=>?_,fun h=>False.elim (by simp at h;omega)⟩;refine rg ?_;conv=>whnf)
  refine Ah qle F144 E E E E E ?_
  refine rg ?_;conv=>whnf
  (refine⟨fun h=>False.elim (by simp at h;omega),fun _=>?_⟩;refine rg ?_;conv=>whnf)
  refine Ah qro F145 E E E E E ?_
  cases ok
  rotate_left
  ·rw[if_pos rfl]at hres
   generalize hopT n irb q.frame=hp at *
   obtain ⟨to,g,e⟩:=hp
   dsimp only at hres qh
   (refine rg ?_;(conv=>whnf);refine aT ?_;refine rg ?_;conv=>whnf)
   refine Ah qh F146 E E E E E ?_
   refine rg ?_;conv=>whnf
   refine⟨fun h=>?_,fun h=>?_⟩
   ·rw[if_pos (by simpa using h)]at hres
    subst hres
    refine rg ?_;conv=>whnf
    refine An 13 9 Bi E ?_
    exact Ac E (.cons .tmp (.cons .tmp (.cons .tmp .nil))) E E
   ·rw[if_neg (by simpa using h)]at hres
    subst hres
    refine rg ?_;conv=>whnf
    refine⟨qy,?_⟩
    conv=>whnf
    refine Mw 105 [Bi ⟨4,0,to,[],g,0⟩] E (.cons (.agg (.cons (.refl _) (.cons (.refl _) (.cons (.refl _) (.cons .nil (.cons (.refl _) (.cons (.refl _) (.cons (.refl _) (.cons (.refl _) (.cons (.refl _) .nil)))))))))) .nil) E ?_
    refine Dm 105 Bi [⟨4,0,to,[],g,0⟩] E E ?_
    refine As 105 E ?_
    exact Ac E (.cons .tmp (.cons .tmp (.cons .tmp .nil))) E E
  rw[if_neg qz]at hres
  generalize decideT n fw u dom q.from_ q.frame.dst=dc at *
  obtain ⟨ports,peers,e0⟩:=dc
  dsimp only at hres qd hports hfew
  obtain ⟨hf1,hf2⟩:=hfew
  (refine rg ?_;(conv=>whnf);refine aF ?_;refine rg ?_;conv=>whnf)
  refine Ah qd F147 E E E E E ?_
  refine rg ?_;conv=>whnf
  refine Bm 27 1000 9 Bi E E ?_
  refine At ports.length (fun j=>[(3,Aa dom),(6,.ref 8 (Ap n) 0),(10,.ref 7 (Ay q) 0),(18,.sl 3 Am u),(24,.sl 1 Aa ports),(25,.sl 1 Aa peers),(27,.osl 1000),(28,Aa j)])
   (fun j=>[(1000,.row 9 Bi ((ports.take j).map (E2 n dom q.frame)))]) [] ⟨⟨rfl,rfl,rfl,rfl,rfl,rfl,rfl,rfl,rfl,rfl,rfl,rfl,rfl,rfl,rfl,rfl,trivial⟩,⟨.inl rfl,rfl,trivial⟩,rfl,rfl⟩ ?_
  intro j hj
  refine rg ?_;conv=>whnf
  refine⟨fun h=>?_,fun h=>?_⟩
  ·have hlt:j<ports.length:=by have:=of_decide_eq_true h;omega
   have hj0:((j:Nat):Int).toNat<ports.length:=by simpa using hlt
   obtain ⟨p,hp⟩:∃ p,ports[j]=p:=⟨_,rfl⟩
   have e1:ports[((j:Nat):Int).toNat]'hj0=p:=hp
   have hs:(ports.take (j+1)).map (E2 n dom q.frame)=(ports.take j).map (E2 n dom q.frame)++[E2 n dom q.frame p]:=by
    rw[List.take_succ_eq_append_getElem hlt,List.map_append,hp];rfl
   have hal:((ports.take j).map (E2 n dom q.frame)).length=j:=by rw[List.length_map,List.length_take];omega
   have hpi:=hports p (by rw[← hp];exact List.getElem_mem hlt)
   have hpk:p.toNat<n.ports.length:=by omega
   have ql:=Yc n hn p dom q.frame hq.frame
   have hop:E2 n dom q.frame p=D4 (Jv (if (nth n.ports p).link<0 then 1 else 2) p 0) ((leaveT n p dom q.frame).1,(leaveT n p dom q.frame).2):=rfl
   rw[hop,Ao hpk]at hs
   clear hop
   obtain ⟨acc,hacc⟩:∃ acc,(ports.take j).map (E2 n dom q.frame)=acc:=⟨_,rfl⟩
   rw[hacc]at hs hal ⊢
   have hli:=Vp hbn hpk
   obtain ⟨x,hx⟩:∃ x,n.ports[p.toNat]'hpk=x:=⟨_,rfl⟩
   rw[hx]at hs hli
   clear h
   refine rg ?_;conv=>whnf
   refine⟨E,by omega,hj0,?_⟩
   rw[e1]
   conv=>whnf
   refine Au ql F148 E E E qy E ?_
   refine rd qy ?_;conv=>whnf
   refine⟨qy,?_⟩
   conv=>whnf
   refine⟨E,by omega,hj0,?_⟩
   rw[e1]
   conv=>whnf
   refine⟨E,by omega,hj0,?_⟩
   rw[e1]
   conv=>whnf
   refine⟨E,hpi.1,hpk,?_⟩
   rw[hx]
   conv=>whnf
   refine⟨qy,?_⟩
   conv=>whnf
   refine⟨fun h=>?_,fun h=>?_⟩
   ·rw[if_neg (by have:¬ x.link=-1:=(by simpa using h);omega)]at hs
    refine rg ?_;conv=>whnf
    refine Ai (Ef [] [] E F149 (Ea 2 p 0 (leaveT n p dom q.frame).1 (leaveT n p dom q.frame).2) (.cons (.agg (.cons (.refl _) (.cons (.refl _) (.cons (.refl _) (.cons .nil (.cons (.refl _) (.cons (.refl _) (.cons (.refl _) (.cons .nil (.cons (.refl _) .nil)))))))))) (.cons (.refl _) (.cons (.refl _) .nil))) Y E Y E) E E ?_
    refine rg ?_;conv=>whnf
    refine Ai (Ae Γ.toTy 160 E E E E E (.row E) (.lit (e:=Bi) (l:=[D4 (Jv 2 p 0) ((leaveT n p dom q.frame).1,(leaveT n p dom q.frame).2)]) E E) za (by simp;omega) (by simp;omega)) E E ?_
    refine rg ?_;conv=>whnf
    refine⟨by unfold I64;omega,?_⟩
    conv=>whnf
    exact Aq [(1000,160)] hlt ⟨⟨E,E,E,E,E,E,E,E,E,E,E,E,E,E,E,E,Y⟩,⟨.inl (congrArg (Ob.row 9 Bi) hs),E,Y⟩,E,E⟩
   ·rw[if_pos (by have:x.link=-1:=(by simpa using h);omega)]at hs
    refine rg ?_;conv=>whnf
    refine Ai (Ef [] [] E F149 (Ea 1 p 0 (leaveT n p dom q.frame).1 (leaveT n p dom q.frame).2) (.cons (.agg (.cons (.refl _) (.cons (.refl _) (.cons (.refl _) (.cons .nil (.cons (.refl _) (.cons (.refl _) (.cons (.refl _) (.cons .nil (.cons (.refl _) .nil)))))))))) (.cons (.refl _) (.cons (.refl _) .nil))) Y E Y E) E E ?_
    refine rg ?_;conv=>whnf
    refine Ai (Ae Γ.toTy 160 E E E E E (.row E) (.lit (e:=Bi) (l:=[D4 (Jv 1 p 0) ((leaveT n p dom q.frame).1,(leaveT n p dom q.frame).2)]) E E) za (by simp;omega) (by simp;omega)) E E ?_
    refine rg ?_;conv=>whnf
    refine⟨by unfold I64;omega,?_⟩
    conv=>whnf
    exact Aq [(1000,160)] hlt ⟨⟨E,E,E,E,E,E,E,E,E,E,E,E,E,E,E,E,Y⟩,⟨.inl (congrArg (Ob.row 9 Bi) hs),E,Y⟩,E,E⟩
  have hjj:j=ports.length:=by have:=of_decide_eq_false h;omega
  subst hjj
  clear h
  rw[List.take_length]
  obtain ⟨acc0,hacc0⟩:∃ acc0,ports.map (E2 n dom q.frame)=acc0:=⟨_,rfl⟩
  have hal0:acc0.length=ports.length:=by rw[← hacc0,List.length_map]
  rw[hacc0]at hres ⊢
  refine rg ?_;conv=>whnf
  refine At peers.length (fun j=>[(3,Aa dom),(6,.ref 8 (Ap n) 0),(10,.ref 7 (Ay q) 0),(18,.sl 3 Am u),(25,.sl 1 Aa peers),(27,.osl 1000),(32,Aa j)])
   (fun j=>[(1000,.row 9 Bi (acc0++(peers.take j).map (H3 n dom q.frame)))]) [] ⟨⟨rfl,rfl,rfl,rfl,rfl,rfl,rfl,rfl,rfl,rfl,rfl,rfl,rfl,rfl,trivial⟩,⟨.inl (congrArg (Ob.row 9 Bi) za),rfl,trivial⟩,rfl,rfl⟩ ?_
  intro j hj
  refine rg ?_;conv=>whnf
  refine⟨fun h=>?_,fun h=>?_⟩
  ·have hlt:j<peers.length:=by have:=of_decide_eq_true h;omega
   have hj0:((j:Nat):Int).toNat<peers.length:=by simpa using hlt
   obtain ⟨p,hp⟩:∃ p,peers[j]=p:=⟨_,rfl⟩
   have e1:peers[((j:Nat):Int).toNat]'hj0=p:=hp
   have hs:acc0++(peers.take (j+1)).map (H3 n dom q.frame)=(acc0++(peers.take j).map (H3 n dom q.frame))++[H3 n dom q.frame p]:=by
    rw[List.take_succ_eq_append_getElem hlt,List.map_append,hp,List.append_assoc];rfl
   have hal:(acc0++(peers.take j).map (H3 n dom q.frame)).length≤ports.length+j:=by rw[List.length_append,List.length_map,List.length_take];omega
   have ql:=S4 n hn hm0 dom p q.frame hq.frame
   have hop:H3 n dom q.frame p=D4 (Jv 3 0 p) ((meshT n dom p q.frame).1,(meshT n dom p q.frame).2):=rfl
   rw[hop]at hs
   clear hop
   obtain ⟨acc,hacc⟩:∃ acc,acc0++(peers.take j).map (H3 n dom q.frame)=acc:=⟨_,rfl⟩
   rw[hacc]at hs hal ⊢
   clear h
   refine rg ?_;conv=>whnf
   refine⟨E,by omega,hj0,?_⟩
   rw[e1]
   conv=>whnf
   refine Au ql F150 E E E qy E ?_
   refine rd qy ?_;conv=>whnf
   refine⟨qy,?_⟩
   conv=>whnf
   refine⟨E,by omega,hj0,?_⟩
   rw[e1]
   conv=>whnf
   refine Ai (Ef [] [] E F149 (Ea 3 0 p (meshT n dom p q.frame).1 (meshT n dom p q.frame).2) (.cons (.agg (.cons (.refl _) (.cons (.refl _) (.cons (.refl _) (.cons .nil (.cons (.refl _) (.cons (.refl _) (.cons (.refl _) (.cons .nil (.cons (.refl _) .nil)))))))))) (.cons (.refl _) (.cons (.refl _) .nil))) Y E Y E) E E ?_
   refine rg ?_;conv=>whnf
   refine Ai (Ae Γ.toTy 189 E E E E E (.row E) (.lit (e:=Bi) (l:=[D4 (Jv 3 0 p) ((meshT n dom p q.frame).1,(meshT n dom p q.frame).2)]) E E) za (by simp;omega) (by simp;omega)) E E ?_
   refine rg ?_;conv=>whnf
   refine⟨by unfold I64;omega,?_⟩
   conv=>whnf
   exact Aq [(1000,189)] hlt ⟨⟨E,E,E,E,E,E,E,E,E,E,E,E,E,E,Y⟩,⟨.inl (congrArg (Ob.row 9 Bi) hs),E,Y⟩,E,E⟩
  have hjj:j=peers.length:=by have:=of_decide_eq_false h;omega
  subst hjj
  clear h
  rw[List.take_length]
  subst hres
  refine rg ?_;conv=>whnf
  refine As 1000 E ?_
  exact Ac E (.cons .tmp (.cons .tmp (.cons .tmp .nil))) E E
end Go.Sy.YtmelpejjondedaaGreat
namespace Go.Sy
theorem Ln:∀ (l:List SV) (off:Nat) (z:SV),setAt l off [z]=l.set off z
 | [],0,_=>rfl
 | [],_+1,_=>rfl
 | _::l,0,z=>by
  show z::setAt l 0 []=z::l
  cases l<;>rfl
 | x::l,n+1,z=>by
  show x::setAt l n [z]=x::l.set n z
  rw[Ln l n z]
theorem Xh {b:Bool} {A B:Prop} (h:A):b=true→(match b with | true=>A | false=>B):=by
 intro hb
 subst hb
 exact h
theorem Aj5 {o:Option SV} {y:SV} {f:SV→Prop} {B:Prop} (h:f y):o=some y→(match o with | some y=>f y | none=>B):=by
 intro hb
 subst hb
 exact h
theorem Akh {l l':List SV} {K:List SV→Prop} (h:l=l') (hk:fl l' K):fl l K:=by
 rw[h];exact hk
end Go.Sy
namespace Go.Sy.YtmelpejjondedaaGreat
open Go.Proofs
attribute [local irreducible] Go.Sy.G Go.Sy.DR
set_option maxRecDepth 100000
set_option maxHeartbeats 4000000
def Im (n:Net) (up:List Bool) (now inj:Int) (d:Nat→Int):List SV :=
 [.sl 5 Bt n.devices,.sl 7 Bj n.ports,.sl 3 Cu n.links,.sl 6 A1 n.domains,.sl 4 Br n.statics,.sl 4 Ca n.floods,.sl 5 C6 n.vrfs,.sl 5 Du n.irbs,.sl 1 Ad up,.osl 902,.osl 903,.val (.int .i64 now),.val (.int .i64 inj),
 .val (.int .i64 (d 0)),.val (.int .i64 (d 1)),.val (.int .i64 (d 2)),.val (.int .i64 (d 3)),.val (.int .i64 (d 4)),.val (.int .i64 (d 5)),.val (.int .i64 (d 6)),.val (.int .i64 (d 7)),.val (.int .i64 (d 8)),.val (.int .i64 (d 9)),.val (.int .i64 (d 10)),.val (.int .i64 (d 11)),.val (.int .i64 (d 12)),.val (.int .i64 (d 13)),.val (.int .i64 (d 14)),.val (.int .i64 (d 15)),.val (.int .i64 (d 16)),.val (.int .i64 (d 17)),.val (.int .i64 (d 18)),.val (.int .i64 (d 19)),.val (.int .i64 (d 20)),.val (.int .i64 (d 21)),.val (.int .i64 (d 22)),.val (.int .i64 (d 23)),.val (.int .i64 (d 24)),.val (.int .i64 (d 25)),.val (.int .i64 (d 26)),.val (.int .i64 (d 27)),.val (.int .i64 (d 28)),.val (.int .i64 (d 29)),.val (.int .i64 (d 30)),.val (.int .i64 (d 31)),.val (.int .i64 (d 32)),.val (.int .i64 (d 33)),.val (.int .i64 (d 34)),.val (.int .i64 (d 35)),.val (.int .i64 (d 36)),.val (.int .i64 (d 37)),.val (.int .i64 (d 38)),.val (.int .i64 (d 39)),.val (.int .i64 (d 40)),.val (.int .i64 (d 41)),.val (.int .i64 (d 42)),.val (.int .i64 (d 43)),.val (.int .i64 (d 44)),.val (.int .i64 (d 45)),.val (.int .i64 (d 46)),.val (.int .i64 (d 47)),.val (.int .i64 (d 48)),.val (.int .i64 (d 49)),.val (.int .i64 (d 50)),.val (.int .i64 (d 51)),.val (.int .i64 (d 52)),.val (.int .i64 (d 53)),.val (.int .i64 (d 54)),.val (.int .i64 (d 55)),.val (.int .i64 (d 56)),.val (.int .i64 (d 57)),.val (.int .i64 (d 58)),.val (.int .i64 (d 59)),.val (.int .i64 (d 60)),.val (.int .i64 (d 61)),.val (.int .i64 (d 62)),.val (.int .i64 (d 63))]
def Ep (n:Net) (m:MacM):Obs:=[(0,.box (Im n m.up m.now m.injected m.drops)),(902,.row 1 C7 m.tables),(903,.row 1 I8 m.queues)]
theorem Tk (n:Net) (up:List Bool) (now inj:Int) (d:Nat→Int):Im n up now inj d =
  .sl 5 Bt n.devices::.sl 7 Bj n.ports::.sl 3 Cu n.links::.sl 6 A1 n.domains::.sl 4 Br n.statics::.sl 4 Ca n.floods::.sl 5 C6 n.vrfs::.sl 5 Du n.irbs::.sl 1 Ad up::.osl 902::.osl 903::.val (.int .i64 now)::.val (.int .i64 inj) ::
   (List.range' 0 64).map (fun i=>.val (.int .i64 (d i))):=rfl
theorem Jg (n:Net) (up:List Bool) (now inj:Int) (d:Nat→Int) (e:Nat) (he:e<64):Eg (Im n up now inj d) (0+13+e * 1)=some (.val (.int .i64 (d e))):=by
 rw[Tk,show 0+13+e * 1=e+13 by omega]
 show Eg ((List.range' 0 64).map (fun i=>SV.val (.int .i64 (d i)))) e=_
 rw[getI_map _ e 0 64 he,Nat.zero_add]
theorem Ap7 (n:Net) (up:List Bool) (now inj:Int) (d:Nat→Int) (e:Nat) (v:Int):(Im n up now inj d).set (0+13+e * 1) (.val (.int .i64 v))=Im n up now inj (fun i=>if i=e then v else d i):=by
 rw[Tk,Tk,show 0+13+e * 1=e+13 by omega]
 have h:=Ace (fun i=>SV.val (.int .i64 (d i))) (.val (.int .i64 v)) e 0 64
 have h2:(fun i=>if i=0+e then SV.val (.int .i64 v) else SV.val (.int .i64 (d i)))=(fun i=>SV.val (.int .i64 (if i=e then v else d i))):=by
  funext i
  rw[Nat.zero_add]
  split<;>rfl
 rw[h2]at h
 rw[← h]
 rfl
theorem L2 (n:Net) (m:MacM) (e:Int):Im n m.up m.now m.injected (Bf m e).drops=(Im n m.up m.now m.injected m.drops).set (0+13+e.toNat * 1) (.val (.int .i64 (m.drops e.toNat+1))):=by
 rw[Ap7]
 congr 1
 funext i
 show (if i=e.toNat then m.drops i+1 else m.drops i)=_
 split
 ·rename_i h;rw[h]
 ·rfl
theorem An4 {α:Type} (l:List α) (i:Nat) (h:i<l.length):l.set i l[i]=l:=by
 simp
theorem U5 (n:Net) (m:MacM) (dom:Int) (q:QueuedM) (e:Int) (he:0≤e∧e<64) (hd:e=0→0≤dom∧dom.toNat<m.queues.length) (hb:Hn m) (hl:Ei (queueL m dom)) (hq:QueuedOK q) :
  Sy.Spec Tryz.prog 37 [.ptr 0 0,Aa dom,Ay q,Aa e] (Ep n m) (.tup []) (Ep n (comeM m dom q e)):=Ab Γ hm 100 F37 Tryz.ntmps37 rfl fun F hF=>by
 have hqb:=Ia hl
 have hp:=Ahl (queueL m dom) q hqb.1
 have hres:=comeM.eq_1 m dom q e
 generalize comeM m dom q e=res at *
 have hbe:=hb e.toNat
 have hb3:=hb 3
 have hg:Hr ⟨.int .i64,1,[.int .i64 0]⟩ (Im n m.up m.now m.injected m.drops) (0+13+e.toNat * 1)=_:=Jg n m.up m.now m.injected m.drops e.toNat qn
 have hgl:=K4 (Jg n m.up m.now m.injected m.drops e.toNat qn)
 have hst:=L2 n m e
 have hst2:setAt (Im n m.up m.now m.injected m.drops) (0+13+e.toNat * 1) [.val (.int .i64 (m.drops e.toNat+1))]=Im n m.up m.now m.injected (Bf m e).drops:=by rw[hst,Ln]
 have hble:Nat.ble (0+13+e.toNat * 1+1) (Im n m.up m.now m.injected m.drops).length=true:=Nat.ble_eq_true_of_le hgl
 conv=>whnf
 refine⟨fun h=>?_,fun h=>?_⟩
 ·rw[if_pos (by simpa using h)]at hres
  subst hres
  refine rg ?_;conv=>whnf
  refine⟨he.1,by omega,?_⟩
  conv=>whnf
  rw[hg]
  conv=>whnf
  refine⟨by unfold I64;omega,?_⟩
  conv=>whnf
  refine⟨he.1,by omega,?_⟩
  conv=>whnf
  refine Xh (Akh hst2 ?_) hble
  conv=>whnf
  refine⟨qy,?_⟩
  conv=>whnf
  exact done E .nil [] (Ep n (Bf m e)) (fun _ h=>h) E E ⟨Y,⟨.inl E,E,.inl E,E,.inl E,E,Y⟩,E,E⟩
 have h0:e=0:=by simpa using h
 have hd:=hd h0
 rw[if_neg (by rw[h0];decide)]at hres
 clear h hqb hl he
 have hq0:=queueL.eq_1 m dom
 have hq1:(pushT (queueL m dom) q).2=false→(pushT (queueL m dom) q).1=queueL m dom:=fun h=>by
  unfold pushT at h ⊢
  split at h
  ·rw[if_pos (by assumption)]
  ·cases h
 rw[Jx hd.2]at hq0
 generalize queueL m dom=l at *
 generalize pushT l q=r at *
 obtain ⟨l2,ok⟩:=r
 subst hq0
 refine rg ?_;conv=>whnf
 refine⟨hd.1,hd.2,?_⟩
 conv=>whnf
 refine⟨E,hd.2,?_⟩
 conv=>whnf
 refine Au hp F80 E E E qy E ?_
 refine rd qy ?_;conv=>whnf
 refine⟨qy,?_⟩
 conv=>whnf
 cases ok
 ·rw[if_neg za]at hres
  subst hres
  have hl2:l2=m.queues[dom.toNat]:=hq1 rfl
  (refine⟨fun _=>?_,fun h=>False.elim (by simp at h)⟩;refine rg ?_;conv=>whnf)
  refine⟨by decide,by decide,?_⟩
  conv=>whnf
  refine⟨by unfold I64;omega,?_⟩
  conv=>whnf
  refine⟨by decide,by decide,?_⟩
  conv=>whnf
  refine⟨qy,?_⟩
  conv=>whnf
  refine⟨hd.1,hd.2,?_⟩
  conv=>whnf
  refine⟨E,hd.2,l2,E,E,?_⟩
  conv=>whnf
  have hss:m.queues.set dom.toNat l2=m.queues:=by rw[hl2];exact An4 _ _ hd.2
  exact Bw E .nil [] (Ep n (Bf m 3)) (fun _ h=>h) E E ⟨Y,⟨.inl (congrArg Ob.box (L2 n m 3)),E,.inl E,E,.inl (congrArg (Ob.row 1 I8) hss.symm),E,Y⟩,E,E⟩
 ·rw[if_pos rfl]at hres
  subst hres
  (refine⟨fun h=>False.elim (by simp at h),fun _=>?_⟩;refine rg ?_;conv=>whnf)
  refine⟨hd.1,hd.2,?_⟩
  conv=>whnf
  refine⟨E,hd.2,l2,E,E,?_⟩
  conv=>whnf
  exact Bw E .nil [] (Ep n (Acg m dom l2)) (fun _ h=>h) E E ⟨Y,⟨.inl E,E,.inl E,E,.inl E,E,Y⟩,E,E⟩
theorem Agh (n:Net) (m:MacM) (x:StepM) (hl:Ei (queueL m x.domain)) :
  Sy.Spec Tryz.prog 39 [.ptr 0 0,Bu x] (Ep n m) (.tup [Ay (takeM m x.domain x.at_).2.1,Ad (takeM m x.domain x.at_).2.2]) (Ep n (takeM m x.domain x.at_).1):=Ab Γ hm 100 F39 Tryz.ntmps39 rfl fun F hF=>by
 have hqb:=Ia hl
 have hp:=Yb (queueL m x.domain) x.at_ hqb.1
 have h1:=A6 x.domain m.queues.length
 have hpl:=placeB_iff (d:=x.domain) (k:=m.queues.length)
 have hres:=takeM.eq_1 m x.domain x.at_
 generalize takeM m x.domain x.at_=res at *
 generalize Al x.domain m.queues.length=b at *
 have hq0:=queueL.eq_1 m x.domain
 clear hl hqb
 generalize queueL m x.domain=l at *
 generalize takeT l x.at_=r at *
 obtain ⟨q,l2,ok⟩:=r
 conv=>whnf
 refine Au h1 F35 E E E qy E ?_
 cases b
 ·rw[if_pos rfl]at hres
  subst hres
  refine rd qy ?_;conv=>whnf
  refine⟨qy,?_⟩
  ((conv=>whnf);refine aT ?_;refine rg ?_;conv=>whnf)
  (skip)
  refine Av 4 [Aa 0,Aa 0,Aa 0,Az 0,Az 0,Aa 0,.sl 1 Aj []] E (.cons (.refl _) (.cons (.refl _) (.cons (.refl _) (.cons (.refl _) (.cons (.refl _) (.cons (.refl _) (.cons .nil .nil))))))) ?_
  exact done E (.cons (.cell E E E E) (.cons .tmp .nil)) [] (Ep n m) (fun _ h=>h) E E ⟨Y,⟨.inl E,E,.inl E,E,.inl E,E,Y⟩,E,E⟩
 have hd:=hpl.1 rfl
 rw[Jx hd.2]at hq0
 subst hq0
 rw[if_neg za]at hres
 subst hres
 refine rd qy ?_;conv=>whnf
 refine⟨qy,?_⟩
 ((conv=>whnf);refine aF ?_;refine rg ?_;conv=>whnf)
 (skip)
 refine⟨hd.1,hd.2,?_⟩
 conv=>whnf
 refine⟨E,hd.2,?_⟩
 conv=>whnf
 refine Au hp F70 E E E qy E ?_
 refine rd qy ?_;conv=>whnf
 refine⟨qy,?_⟩
 conv=>whnf
 refine⟨hd.1,hd.2,?_⟩
 conv=>whnf
 refine⟨E,hd.2,l2,E,E,?_⟩
 conv=>whnf
 refine⟨qy,?_⟩
 conv=>whnf
 exact done E (.cons (.cell E E E E) (.cons .tmp .nil)) [] (Ep n (Acg m x.domain l2)) (fun _ h=>h) E E ⟨Y,⟨.inl E,E,.inl E,E,.inl E,E,Y⟩,E,E⟩
theorem Adj (n:Net) (hn:n.Fin) (hm1:n.Num) (m:MacM) (J D:Int) (hm0:MacOK n m J D) (hD:D≤1000000000000) (o:OutM) (ho:OutOK n o) (origin:Int) :
  Sy.Spec Tryz.prog 82 [.ptr 0 0,Bi o,Aa origin] (Ep n m) (.sl 3 A9 (goesM n m o origin).2) (Ep n (goesM n m o origin).1):=Ab Γ hm 100 F82 Tryz.ntmps82 rfl fun F hF=>by
 have hres:=goesM.eq_1 n m o origin
 generalize goesM n m o origin=res at *
 have hdr:Hn m:=fun i=>⟨(hm0.drp i).1,by have:=(hm0.drp i).2;omega⟩
 have hbl:o.bytes.length<100000:=by have:=ho.bytes;omega
 have hin:∀ {x:Int},DomIn n x→0≤x∧x.toNat<m.queues.length:=fun h=>by rw[hm0.ques];exact h
 conv=>whnf
 refine⟨fun h=>?_,fun h=>?_⟩
 ·have h1:o.kind=1:=by simpa using h
  rw[if_pos h1]at hres
  subst hres
  refine rg ?_;conv=>whnf
  refine Dm 25 A9 [⟨o.port,origin,o.bytes⟩] E E ?_
  refine As 25 E ?_
  exact done E (.cons .tmp .nil) [] (Ep n m) (fun _ h=>h) E E ⟨Y,⟨.inl E,E,.inl E,E,.inl E,E,Y⟩,E,E⟩
 have h1:¬ o.kind=1:=by simpa using h
 rw[if_neg h1]at hres
 clear h
 refine rg ?_;conv=>whnf
 refine⟨fun h=>?_,fun h=>?_⟩
 ·have h2:o.kind=2:=by simpa using h
  rw[if_pos h2]at hres
  have q1:=Aho n hn o.port o.bytes hbl
  have he:=Abd n o.port o.bytes
  have hd:=fun h=>hin (Abe (n:=n) (port:=o.port) (b:=o.bytes) h)
  have hf:=Yx n o.port o.bytes
  have ht:=Yw hn o.port o.bytes
  generalize linkT n o.port o.bytes=r at *
  have q2:=U5 n m r.2.1 ⟨r.1,0,origin,r.2.2.1⟩ r.2.2.2 he hd hdr (Cz hm0 _) (Dn hf _ qn qz)
  subst hres
  refine rg ?_;conv=>whnf
  refine Au q1 F151 E E E qy E ?_
  refine rd qy ?_;conv=>whnf
  refine⟨qy,?_⟩
  conv=>whnf
  refine Ai (Ak [] E F37 q2 E ⟨E,E,E,Y⟩ E ⟨.inl E,.inl E,.inl E,Y⟩) E E ?_
  refine rg ?_;conv=>whnf
  refine An 6 3 A9 E ?_
  exact done E (.cons .tmp .nil) [] (Ep n (comeM _ _ _ _)) (fun _ h=>h) E E ⟨Y,⟨.inl E,E,.inl E,E,.inl E,E,Y⟩,E,E⟩
 have h2:¬ o.kind=2:=by simpa using h
 rw[if_neg h2]at hres
 clear h
 refine rg ?_;conv=>whnf
 refine⟨fun h=>?_,fun h=>?_⟩
 ·have h2:o.kind=3:=by simpa using h
  rw[if_pos h2]at hres
  have q1:=Ahq n hn o.bytes hbl
  have he:=Ab0 n o.bytes
  have hd:=fun h=>hin (V5 (n:=n) (b:=o.bytes) h).2
  have hf:=Zs n o.bytes
  have ht:=Tp hn o.bytes
  generalize comeT n o.bytes=r at *
  have q2:=U5 n m r.2.1 ⟨-1,r.1,origin,r.2.2.1⟩ r.2.2.2 he hd hdr (Cz hm0 _) (Dn hf _ qz ht)
  subst hres
  refine rg ?_;conv=>whnf
  refine Au q1 F152 E E E qy E ?_
  refine rd qy ?_;conv=>whnf
  refine⟨qy,?_⟩
  conv=>whnf
  refine Ai (Ak [] E F37 q2 E ⟨E,E,E,Y⟩ E ⟨.inl E,.inl E,.inl E,Y⟩) E E ?_
  refine rg ?_;conv=>whnf
  refine An 6 3 A9 E ?_
  exact done E (.cons .tmp .nil) [] (Ep n (comeM _ _ _ _)) (fun _ h=>h) E E ⟨Y,⟨.inl E,E,.inl E,E,.inl E,E,Y⟩,E,E⟩
 have h3:¬ o.kind=3:=by simpa using h
 rw[if_neg h3]at hres
 clear h
 refine rg ?_;conv=>whnf
 refine⟨fun h=>?_,fun h=>?_⟩
 ·have h4:o.kind=4:=by simpa using h
  rw[if_pos h4]at hres
  have hf:=ho.frame h4
  have q2:=U5 n m o.domain ⟨-2,0,origin,o.frame⟩ 0 qz (fun _=>hin hf.2) hdr (Cz hm0 _) (Dn hf.1 _ qz qz)
  subst hres
  refine rg ?_;conv=>whnf
  refine Ai (Ak [] E F37 q2 E ⟨E,E,E,Y⟩ E ⟨.inl E,.inl E,.inl E,Y⟩) E E ?_
  refine rg ?_;conv=>whnf
  refine An 6 3 A9 E ?_
  exact done E (.cons .tmp .nil) [] (Ep n (comeM _ _ _ _)) (fun _ h=>h) E E ⟨Y,⟨.inl E,E,.inl E,E,.inl E,E,Y⟩,E,E⟩
 have h4:¬ o.kind=4:=by simpa using h
 rw[if_neg h4]at hres
 have h5:o.kind=5:=by have:=ho.kind;omega
 have he:=ho.err h5
 obtain ⟨e,hee⟩:∃ e,o.error=e:=⟨_,rfl⟩
 rw[hee]at he hres
 have hbe:=hdr e.toNat
 have hg:Hr ⟨.int .i64,1,[.int .i64 0]⟩ (Im n m.up m.now m.injected m.drops) (0+13+e.toNat * 1)=_:=Jg n m.up m.now m.injected m.drops e.toNat (by have:=he.2;omega)
 have hgl:=K4 (Jg n m.up m.now m.injected m.drops e.toNat (by have:=he.2;omega))
 have hst2:setAt (Im n m.up m.now m.injected m.drops) (0+13+e.toNat * 1) [.val (.int .i64 (m.drops e.toNat+1))]=Im n m.up m.now m.injected (Bf m e).drops:=by rw[L2 n m e,Ln]
 have hble:Nat.ble (0+13+e.toNat * 1+1) (Im n m.up m.now m.injected m.drops).length=true:=Nat.ble_eq_true_of_le hgl
 subst hres
 clear h
 refine rg ?_;conv=>whnf
 refine⟨fun _=>?_,fun h=>absurd h5 (by simpa using h)⟩
 rw[hee]
 refine rg ?_;conv=>whnf
 refine⟨he.1,by have:=he.2;omega,?_⟩
 conv=>whnf
 rw[hg]
 conv=>whnf
 refine⟨by unfold I64;omega,?_⟩
 conv=>whnf
 refine⟨he.1,by have:=he.2;omega,?_⟩
 conv=>whnf
 refine Xh (Akh hst2 ?_) hble
 conv=>whnf
 refine⟨qy,?_⟩
 conv=>whnf
 refine An 6 3 A9 E ?_
 exact done E (.cons .tmp .nil) [] (Ep n (Bf m e)) (fun _ h=>h) E E ⟨Y,⟨.inl E,E,.inl E,E,.inl E,E,Y⟩,E,E⟩
end Go.Sy.YtmelpejjondedaaGreat
namespace Go.Sy.YtmelpejjondedaaGreat
section
variable {n:Net} {up:List Bool} {ranks roots costs:List Int}
end
end Go.Sy.YtmelpejjondedaaGreat
namespace Go.Sy.YtmelpejjondedaaGreat
open Go.Proofs
attribute [local irreducible] Go.Sy.G Go.Sy.DR
set_option maxRecDepth 100000
set_option maxHeartbeats 4000000
theorem Ale {n:Net} {up:List Bool} (h:okB n up=true) {p:Nat} (hp:p<n.ports.length) (hl:Cb n up p<0):nth (Ji n up) p=0:=by
 obtain ⟨hu,hr,hcost⟩:=ok_iff.1 h
 rw[Ji,Aaz hr hp,if_neg (fun hb=>?_),Ahc hl]
 obtain ⟨j,h1,_⟩:=Zw hb
 have:=h1.2
 omega
theorem far_up {n:Net} {up:List Bool} (hr:Ag n=true) {i:Nat} (hi:i<n.ports.length) (h0:0≤n.ports[i].link) (hu:up.getD n.ports[i].link.toNat false=true) :
  ∃ j:Nat,j<n.ports.length∧Cb n up i=j∧(nth n.links n.ports[i].link).a+(nth n.links n.ports[i].link).b-i=j:=by
 have hp:=J5 hr hi
 have hpl:=Dy hr hi
 simp only[Eu,Bool.and_eq_true,Bool.or_eq_true,beq_iff_eq]at hp
 have hp:=hp.2
 have hlk:n.ports[i].link.toNat<n.links.length:=by omega
 have he:=Ir hr hlk
 have hfar:Cb n up i=(nth n.links n.ports[i].link).a+(nth n.links n.ports[i].link).b-i:=by
  rw[Cb,Bb hi]
  simp only[hu,Bool.not_true,Bool.or_false,decide_eq_true_eq]
  rw[if_neg qn]
 rw[Ao (l:=n.links) (i:=n.ports[i].link) hlk]at hfar hp ⊢
 generalize n.links[n.ports[i].link.toNat]=l at *
 exact⟨(Cb n up i).toNat,by omega,by omega,by omega⟩
end Go.Sy.YtmelpejjondedaaGreat
namespace Go.Sy.YtmelpejjondedaaGreat
instance:Inhabited Vec:=⟨⟨0,0,0,0,0⟩⟩
def Agz (ranks:List Int) (d:Nat):Vec:=⟨ranks.getD d 0,0,ranks.getD d 0,-1,-1⟩
def Jo (n:Net) (ranks:List Int):List Vec:=(List.range n.devices.length).map (Agz ranks)
def Lx (n:Net) (ranks:List Int) (old:List Vec) (i j:Nat):Vec:=⟨(nth old (Bl n j)).root,(nth old (Bl n j)).cost+Hx n i,nth ranks (Bl n j),j,i⟩
def Y1 (n:Net) (up:List Bool) (ranks:List Int) (old best:List Vec) (i:Nat):List Vec :=
 if 0≤Cb n up i∧Ci (Lx n ranks old i (Cb n up i).toNat) (nth best (Bl n i))=true then best.set (Bl n i).toNat (Lx n ranks old i (Cb n up i).toNat) else best
def Kj (n:Net) (up:List Bool) (ranks:List Int) (old:List Vec) (m:Nat):List Vec:=(List.range m).foldl (Y1 n up ranks old) old
theorem Mm (n:Net) (up:List Bool) (ranks:List Int) (old:List Vec) (m:Nat):Kj n up ranks old (m+1)=Y1 n up ranks old (Kj n up ranks old m) m:=by
 rw[Kj,List.range_succ,List.foldl_append];rfl
def C3 (n:Net) (up:List Bool) (ranks:List Int):Nat→List Vec
 | 0=>Jo n ranks
 | r+1=>Kj n up ranks (C3 n up ranks r) n.ports.length
theorem Ac7 (n:Net) (up:List Bool) (ranks:List Int) (old best:List Vec) (i:Nat):(Y1 n up ranks old best i).length=best.length:=by
 rw[Y1];split
 ·rw[List.length_set]
 ·rfl
theorem Jw (n:Net) (up:List Bool) (ranks:List Int) (old:List Vec):∀ m,(Kj n up ranks old m).length=old.length
 | 0=>rfl
 | m+1=>by rw[Mm,Ac7,Jw n up ranks old m]
theorem Ec (n:Net) (up:List Bool) (ranks:List Int):∀ r,(C3 n up ranks r).length=n.devices.length
 | 0=>by simp[C3,Jo]
 | r+1=>by rw[C3,Jw,Ec n up ranks r]
theorem Arq {α:Type} [Inhabited α] {l:List α} {a b:Int} {v:α} (h0:0≤a) (h1:a<l.length) (hb:0≤b):nth (l.set a.toNat v) b=if b=a then v else nth l b:=by
 rw[nth,nth,List.getElem?_set]
 by_cases h:b=a
 ·subst h
  rw[if_pos rfl,if_pos rfl,if_pos qn]
  rfl
 ·rw[if_neg qn,if_neg h]
section
variable {n:Net} {up:List Bool} {ranks roots costs:List Int}
structure KnowM (n:Net) (up:List Bool) (ranks:List Int) (old best:List Vec) (m:Nat):Prop where
 shape:∀ d:Int,0≤d→d<n.devices.length→nth best d=nth old d∨∃ i j:Nat,i<m∧Hop n up i j∧Bl n i=d∧nth best d=Lx n ranks old i j
 was:∀ d:Int,0≤d→d<n.devices.length→Ci (nth old d) (nth best d)=false
 cand:∀ i j:Nat,i<m→Hop n up i j→Ci (Lx n ranks old i j) (nth best (Bl n i))=false
theorem Kh {a b c:Vec} (h1:Ci b a=false) (h2:Ci c b=false):Ci c a=false:=by
 cases h:Ci c a
 ·rfl
 ·by_cases hbc:b=c
  ·subst hbc;rw[h1]at h;exact h.symm
  ·rcases Ta hbc with h3 | h3
   ·have:=S9 h3 h;rw[h1]at this;exact this.symm
   ·rw[h2]at h3;cases h3
theorem Qu (hr:Ag n=true) (old:List Vec) (hl:old.length=n.devices.length):∀ m,m≤n.ports.length→KnowM n up ranks old (Kj n up ranks old m) m
 | 0,_=>⟨fun d _ _=>.inl rfl,fun d _ _=>Kz _,fun i j h=>absurd h qn⟩
 | m+1,hm=>by
  have ih:=Qu hr old hl m qn
  have hlen:=Jw n up ranks old m
  have hpd:=Cv hr (show m<n.ports.length by omega)
  rw[Mm,Y1]
  split
  ·rename_i hc
   obtain ⟨j,hj⟩:∃ j:Nat,Cb n up m=j:=⟨(Cb n up m).toNat,by omega⟩
   have hop:Hop n up m j:=⟨by omega,hj⟩
   rw[hj,Int.toNat_natCast]at hc ⊢
   have hset:∀ d:Int,0≤d→nth ((Kj n up ranks old m).set (Bl n m).toNat (Lx n ranks old m j)) d=if d=Bl n m then Lx n ranks old m j else nth (Kj n up ranks old m) d:=fun d h0=>Arq hpd.1 qn h0
   have hnew:Ci (nth (Kj n up ranks old m) (Bl n m)) (Lx n ranks old m j)=false:=Aik hc.2
   refine⟨fun d h0 h1=>?_,fun d h0 h1=>?_,fun i k hi hik=>?_⟩
   ·rw[hset d h0]
    by_cases hd:d=Bl n m
    ·rw[if_pos hd];exact .inr ⟨m,j,by omega,hop,hd.symm,rfl⟩
    ·rw[if_neg hd]
     rcases ih.shape d h0 h1 with h | ⟨i,k,e1,e2,e3,e4⟩
     ·exact .inl h
     ·exact .inr ⟨i,k,by omega,e2,e3,e4⟩
   ·rw[hset d h0]
    by_cases hd:d=Bl n m
    ·rw[if_pos hd,hd]
     exact Kh hnew (ih.was _ hpd.1 hpd.2)
    ·rw[if_neg hd];exact ih.was d h0 h1
   ·have hpi:=Cv hr hik.1
    rw[hset _ hpi.1]
    by_cases him:i=m
    ·subst him
     have:k=j:=by have:=hik.2;omega
     subst this
     rw[if_pos rfl];exact Kz _
    ·by_cases hd:Bl n i=Bl n m
     ·rw[if_pos hd]
      have:=ih.cand i k qn hik
      rw[hd]at this
      exact Kh hnew this
     ·rw[if_neg hd];exact ih.cand i k qn hik
  ·rename_i hc
   refine⟨fun d h0 h1=>?_,ih.was,fun i k hi hik=>?_⟩
   ·rcases ih.shape d h0 h1 with h | ⟨i,k,e1,e2,e3,e4⟩
    ·exact .inl h
    ·exact .inr ⟨i,k,by omega,e2,e3,e4⟩
   ·by_cases him:i=m
    ·subst him
     cases h:Ci (Lx n ranks old i k) (nth (Kj n up ranks old i) (Bl n i))
     ·rfl
     ·refine absurd ⟨by rw[hik.2];omega,?_⟩ hc
      rw[hik.2,Int.toNat_natCast]
      exact h
    ·exact ih.cand i k qn hik
structure KnowR (n:Net) (up:List Bool) (ranks roots costs:List Int) (r:Nat) (best:List Vec):Prop where
 low:∀ d:Int,0≤d→d<n.devices.length→Le2 (nth roots d) (nth costs d) (nth best d).root (nth best d).cost
 shape:∀ d:Int,0≤d→d<n.devices.length→nth best d=⟨nth ranks d,0,nth ranks d,-1,-1⟩∨∃ (i j:Nat) (x c:Int),Hop n up i j∧Bl n i=d∧Le2 (nth roots (Bl n j)) (nth costs (Bl n j)) x c∧nth best d=⟨x,c+Hx n i,nth ranks (Bl n j),j,i⟩
 self:∀ d:Int,0≤d→d<n.devices.length→Ci ⟨nth ranks d,0,nth ranks d,-1,-1⟩ (nth best d)=false
 bound:∀ d:Int,0≤d→d<n.devices.length→0≤(nth best d).cost∧(nth best d).cost≤65535 * r
theorem Qw (hrk:ranks.length=n.devices.length) {d:Int} (h0:0≤d) (h1:d<n.devices.length):nth (Jo n ranks) d=⟨nth ranks d,0,nth ranks d,-1,-1⟩:=by
 rw[Ao (by simp[Jo];omega)]
 simp only[Jo,List.getElem_map,List.getElem_range,Agz]
 rw[Bb qn,Ao qn]
theorem Aj7 {a b c d m:Int} (h:Le2 a b c d):Le2 a (b+m) c (d+m):=by
 unfold Le2 at *
 omega
theorem Qv (S:Solved n up ranks roots costs) (hr:Ag n=true) (hcost:Cm n=true) (hrk:ranks.length=n.devices.length):∀ r,KnowR n up ranks roots costs r (C3 n up ranks r)
 | 0=>by
  refine⟨fun d h0 h1=>?_,fun d h0 h1=>?_,fun d h0 h1=>?_,fun d h0 h1=>?_⟩
  ·rw[C3,Qw hrk h0 h1];exact S.self d h0 h1
  ·exact .inl (Qw hrk h0 h1)
  ·rw[C3,Qw hrk h0 h1];exact Kz _
  ·rw[C3,Qw hrk h0 h1];exact⟨by simp,by simp⟩
 | r+1=>by
  have ih:=Qv S hr hcost hrk r
  have hM:=Qu (up:=up) (ranks:=ranks) hr (C3 n up ranks r) (Ec n up ranks r) n.ports.length (Nat.le_refl _)
  rw[C3]
  refine⟨fun d h0 h1=>?_,fun d h0 h1=>?_,fun d h0 h1=>Kh (hM.was d h0 h1) (ih.self d h0 h1),fun d h0 h1=>?_⟩
  ·rcases hM.shape d h0 h1 with h | ⟨i,j,_,e2,e3,e4⟩
   ·rw[h];exact ih.low d h0 h1
   ·rw[e4]
    have hj:=Cv hr (Ha hr e2)
    have t1:=S.tri i j e2
    rw[e3]at t1
    exact Vv t1 (Aj7 (ih.low _ hj.1 hj.2))
  ·rcases hM.shape d h0 h1 with h | ⟨i,j,_,e2,e3,e4⟩
   ·rw[h];exact ih.shape d h0 h1
   ·have hj:=Cv hr (Ha hr e2)
    exact .inr ⟨i,j,_,_,e2,e3,ih.low _ hj.1 hj.2,e4⟩
  ·rcases hM.shape d h0 h1 with h | ⟨i,j,_,e2,e3,e4⟩
   ·rw[h]
    have:=ih.bound d h0 h1
    omega
   ·rw[e4]
    have hj:=Cv hr (Ha hr e2)
    have:=ih.bound _ hj.1 hj.2
    have:=Kd hcost e2.1
    simp only[Lx]
    omega
theorem Uj {a b:Vec} (h:Ci a b=false):Le2 b.root b.cost a.root a.cost:=by
 unfold Le2
 simp only[Ci]at h
 grind
def dep (n:Net) (costs:List Int) (d:Int):Nat:=(List.range n.devices.length).countP fun e:Nat=>decide (nth costs (e:Int)<nth costs d)
theorem dep_lt {a d:Int} (ha:0≤a∧a<n.devices.length) (h:nth costs a<nth costs d):dep n costs a<dep n costs d:=by
 have hmem:a.toNat∈List.range n.devices.length:=List.mem_range.2 qn
 obtain ⟨l1,l2,hl⟩:=List.append_of_mem hmem
 have ea:((a.toNat:Nat):Int)=a:=by omega
 simp only[dep,hl,List.countP_append,List.countP_cons,ea,h,Int.lt_irrefl,decide_true,decide_false,if_true,Bool.false_eq_true,if_false]
 have m1:=List.countP_mono_left (l:=l1) (p:=fun e:Nat=>decide (nth costs (e:Int)<nth costs a)) (q:=fun e:Nat=>decide (nth costs (e:Int)<nth costs d)) (fun x _ hx=>by simp only[decide_eq_true_eq]at hx ⊢;omega)
 have m2:=List.countP_mono_left (l:=l2) (p:=fun e:Nat=>decide (nth costs (e:Int)<nth costs a)) (q:=fun e:Nat=>decide (nth costs (e:Int)<nth costs d)) (fun x _ hx=>by simp only[decide_eq_true_eq]at hx ⊢;omega)
 omega
theorem dep_le (d:Int):dep n costs d≤n.devices.length:=by
 have:=List.countP_le_length (p:=fun e:Nat=>decide (nth costs (e:Int)<nth costs d)) (l:=List.range n.devices.length)
 simpa [dep] using this
theorem Y2 (S:Solved n up ranks roots costs) (hr:Ag n=true) (hcost:Cm n=true) (hrk:ranks.length=n.devices.length):∀ (r:Nat) (d:Int),0≤d→d<n.devices.length→dep n costs d≤r→Le2 (nth (C3 n up ranks r) d).root (nth (C3 n up ranks r) d).cost (nth roots d) (nth costs d)
 | r,d,h0,h1,hd=>by
  rcases S.der d h0 h1 with h | ⟨i,j,e1,e2,e3,e4⟩
  ·have:=Uj ((Qv S hr hcost hrk r).self d h0 h1)
   rw[h.1,h.2]
   exact this
  ·have hp:=Kd hcost e1.1
   have hj:=Cv hr (Ha hr e1)
   have hlt:=dep_lt (costs:=costs) (d:=d) hj qn
   match r with
   | 0=>omega
   | r+1 =>
    have ih:=Y2 S hr hcost hrk r (Bl n j) hj.1 hj.2 qn
    have hM:=Qu (up:=up) (ranks:=ranks) hr (C3 n up ranks r) (Ec n up ranks r) n.ports.length (Nat.le_refl _)
    have hc:=Uj (hM.cand i j e1.1 e1)
    rw[e2]at hc
    rw[e3,e4]
    exact Vv hc (Aj7 ih)
theorem Y0 (S:Solved n up ranks roots costs) (hr:Ag n=true) (hcost:Cm n=true) (hrk:ranks.length=n.devices.length) {r:Nat} (hrn:n.devices.length≤r) {d:Int} (h0:0≤d) (h1:d<n.devices.length) :
  (nth (C3 n up ranks r) d).root=nth roots d∧(nth (C3 n up ranks r) d).cost=nth costs d:=by
 have a1:=(Qv S hr hcost hrk r).low d h0 h1
 have a2:=Y2 S hr hcost hrk r d h0 h1 (Nat.le_trans (dep_le d) hrn)
 unfold Le2 at a1 a2
 omega
theorem Ape (S:Solved n up ranks roots costs) (hr:Ag n=true) (hcost:Cm n=true) (hrk:ranks.length=n.devices.length) {d:Int} (h0:0≤d) (h1:d<n.devices.length) :
  (nth (C3 n up ranks (n.devices.length+1)) d).root=nth roots d∧(nth (C3 n up ranks (n.devices.length+1)) d).cost=nth costs d∧(nth (C3 n up ranks (n.devices.length+1)) d).own=E7 n up ranks roots costs d:=by
 obtain ⟨x1,x2⟩:=Y0 S hr hcost hrk (r:=n.devices.length+1) qn h0 h1
 refine⟨x1,x2,?_⟩
 have hI:=Qv S hr hcost hrk (n.devices.length+1)
 have hcb:=Og S h0 h1
 by_cases hroot:nth roots d=nth ranks d
 ·rw[Am2 hroot]
  have hz:=Aee S h0 h1 hroot
  rcases hI.shape d h0 h1 with h | ⟨i,j,x,c,e1,e2,e3,e4⟩
  ·rw[h]
  ·exfalso
   have hp:=Kd hcost e1.1
   have hj:=Cv hr (Ha hr e1)
   have hrt:=Ks S hr e1
   have hcj:=Og S hj.1 hj.2
   rw[e4]at x1 x2
   simp only at x1 x2
   rw[e2]at hrt
   unfold Le2 at e3
   omega
 ·obtain ⟨i,j,b1,b2,b3,b4⟩:=Am1 S hr h0 h1 hroot
  obtain ⟨j',c1,c2,_,c4⟩:=Zw b3
  have:j'=j:=by have:=c1.2;have:=b1.2;omega
  subst this
  have hmem:nth (C3 n up ranks (n.devices.length+1)) d∈H2 n up ranks roots costs d n.ports.length:=by
   rcases hI.shape d h0 h1 with h | ⟨p,q,x,c,e1,e2,e3,e4⟩
   ·exfalso
    rw[h]at x1
    exact hroot x1.symm
   ·refine best_mem.2 ⟨p,q,e1,e2,?_⟩
    have hrt:=Ks S hr e1
    have hv:=X0 S hr e1
    rw[e2]at hrt hv
    rw[e4]at x1 x2
    simp only at x1 x2
    have g1:x=nth roots (Bl n q):=by omega
    have g2:c=nth costs (Bl n q):=by unfold Le2 at e3;omega
    rw[e4,g1,g2]
  have hle:=Abh _ _ hmem
  have hM:=Qu (up:=up) (ranks:=ranks) hr (C3 n up ranks n.devices.length) (Ec n up ranks n.devices.length) n.ports.length (Nat.le_refl _)
  have hcand:=hM.cand i j' b1.1 b1
  have hj:=Cv hr (Ha hr b1)
  obtain ⟨y1,y2⟩:=Y0 S hr hcost hrk (r:=n.devices.length) (Nat.le_refl _) hj.1 hj.2
  rw[Lx,y1,y2,b2]at hcand
  have hcand:Ci ⟨nth roots (Bl n j'),nth costs (Bl n j')+Hx n i,nth ranks (Bl n j'),j',i⟩ (nth (C3 n up ranks (n.devices.length+1)) d)=false:=hcand
  rw[c4]at hle
  rw[b3]
  by_cases he:nth (C3 n up ranks (n.devices.length+1)) d=⟨nth roots (Bl n j'),nth costs (Bl n j')+Hx n i,nth ranks (Bl n j'),j',i⟩
  ·rw[he]
  ·rcases Ta he with h | h
   ·rw[hle]at h;cases h
   ·rw[hcand]at h;cases h
end
end Go.Sy.YtmelpejjondedaaGreat
namespace Go.Sy.YtmelpejjondedaaGreat
open Go.Proofs
attribute [local irreducible] Go.Sy.G Go.Sy.DR
set_option maxRecDepth 100000
set_option maxHeartbeats 4000000
theorem Aa6 {n:Net} {up:List Bool} (hr:Ag n=true) {i:Nat} (hi:i<n.ports.length) (h0:n.ports[i].link≠-1) (hu:up.getD n.ports[i].link.toNat false=true):Kf n.links i=Cb n up i:=by
 have hpl:=Dy hr hi
 obtain ⟨j,hj,hf,hsum⟩:=far_up (up:=up) hr hi qn hu
 have hop:Hop n up i j:=⟨hi,hf⟩
 obtain ⟨k,hk,h1,h2,h3,h4,hne⟩:=V0 hr hop
 rw[hf]
 have hall:∀ q (hq:q<n.links.length),(n.links[q].a=i∨n.links[q].b=i)→q=k:=fun q hq h=>by
  have hlq:=S2 hr hq
  simp only[Ki,Bool.and_eq_true,beq_iff_eq,bne_iff_ne]at hlq
  rcases h with h | h
  ·rw[h]at hlq;have:=hlq.1.2;omega
  ·rw[h]at hlq;have:=hlq.2;omega
 have hij:(i:Int)≠j:=fun h=>hne (by have:i=j:=qn;rw[this])
 rw[Ao (l:=n.links) (i:=(k:Int)) (by simpa using hk)]at h4
 simp only[Int.toNat_natCast]at h4
 have hfind:n.links.find? (fun l=>l.a == (i:Int) || l.b == (i:Int))=some n.links[k]:=by
  rw[List.find?_eq_some_iff_getElem]
  refine⟨?_,k,hk,E,fun q hq=>?_⟩
  ·rcases h4 with h4 | h4<;>simp[h4.1,h4.2]
  ·have hn:¬ (n.links[q].a=i∨n.links[q].b=i):=fun h=>by have:=hall q qn h;omega
   simpa using hn
 rw[Kf,hfind]
 simp only
 rcases h4 with h4 | h4
 ·rw[if_pos h4.1,h4.2]
 ·rw[if_neg (by rw[h4.1];omega),h4.1]
def Vx (n:Net) (up:List Bool) (ranks:List Int) (x:SV):List SV:=[.sl 5 Bt n.devices,.sl 7 Bj n.ports,.sl 3 Cu n.links,.sl 6 A1 n.domains,.sl 4 Br n.statics,.sl 4 Ca n.floods,.sl 5 C6 n.vrfs,.sl 5 Du n.irbs,.sl 1 Ad up,.sl 1 Aa ranks,x]
def Afu (n:Net) (up:List Bool) (ranks:List Int) (best:List Vec):Obs:=[(0,.box (Vx n up ranks (.osl 1))),(1,.row 5 Dt best)]
def Ais (n:Net) (up:List Bool) (ranks:List Int) (best:List Vec):SV:=.ref 11 (.agg (Vx n up ranks (.sl 5 Dt best))) 0
theorem Arb (n:Net) (up:List Bool) (ranks:List Int) (best:List Vec) (i:Nat) (hr:Ag n=true) (hu:up.length=n.links.length) (hi:i<n.ports.length) :
  Sy.Spec Tryz.prog 135 [.ptr 0 0,Aa i] (Afu n up ranks best) (Aa (Cb n up i)) (Afu n up ranks best):=Ab Γ hm 100 F135 Tryz.ntmps135 rfl fun F hF=>by
 have hpl:=Dy hr hi
 have hf:=Cy hr
 have e1:n.ports[(i:Int).toNat]'qn=n.ports[i]:=rfl
 have hof:=Aa6 (up:=up) hr hi
 have hfar:Cb n up i=if n.ports[i].link<0 || !(up.getD n.ports[i].link.toNat false) then -1 else (nth n.links n.ports[i].link).a+(nth n.links n.ports[i].link).b-i:=by
  rw[Cb,Bb hi]
 have hos:=Ah5 n i (by unfold Ar;omega)
 generalize Cb n up i=f at *
 conv=>whnf
 refine⟨E,by omega,by omega,?_⟩
 conv=>whnf
 refine⟨fun h=>?_,fun h=>?_⟩
 ·have h1:n.ports[i].link=-1:=by simpa using h
  rw[h1]at hfar
  have hfr:f=-1:=hfar
  refine rd qy ?_;conv=>whnf
  refine⟨qy,?_⟩
  ((conv=>whnf);refine aT ?_;refine rg ?_;conv=>whnf)
  refine done E (.cons .tmp .nil) [] (Afu n up ranks best) (fun _ h=>h) ?_ E ⟨Y,⟨.inl E,E,.inl E,E,Y⟩,E,E⟩
  exact congrArg Aa hfr
 have h1:¬ n.ports[i].link=-1:=by simpa using h
 have hlk:n.ports[i].link.toNat<up.length:=by omega
 have hof:=hof h1
 rw[Bb hlk]at hof hfar
 refine rd qy ?_;conv=>whnf
 refine⟨E,by omega,by omega,?_⟩
 conv=>whnf
 refine⟨E,by simp only[Int.toNat_natCast];omega,by simp only[Int.toNat_natCast];omega,?_⟩
 conv=>whnf
 refine⟨qy,?_⟩
 conv=>whnf
 refine⟨fun h2=>?_,fun h2=>?_⟩
 ·have h3:up[n.ports[i].link.toNat]=false:=by simpa using h2
  rw[h3]at hfar
  have hfr:f=-1:=by simpa using hfar
  refine rg ?_;conv=>whnf
  refine done E (.cons .tmp .nil) [] (Afu n up ranks best) (fun _ h=>h) ?_ E ⟨Y,⟨.inl E,E,.inl E,E,Y⟩,E,E⟩
  exact congrArg Aa hfr
 ·have h3:up[n.ports[i].link.toNat]=true:=by simpa using h2
  rw[hof h3]at hos
  refine rg ?_;conv=>whnf
  refine Ah hos F204 E E E E E ?_
  refine rg ?_;conv=>whnf
  exact done E (.cons .tmp .nil) [] (Afu n up ranks best) (fun _ h=>h) E E ⟨Y,⟨.inl E,E,.inl E,E,Y⟩,E,E⟩
theorem Ara (n:Net) (up:List Bool) (ranks:List Int) (best:List Vec) (i:Nat) (hr:Ag n=true) (hu:up.length=n.links.length) (hi:i<n.ports.length) :
  Sy.Spec Tryz.prog 135 [Ais n up ranks best,Aa i] [] (Aa (Cb n up i)) []:=Ab Γ hm 100 F135 Tryz.ntmps135 rfl fun F hF=>by
 have hpl:=Dy hr hi
 have hf:=Cy hr
 have e1:n.ports[(i:Int).toNat]'qn=n.ports[i]:=rfl
 have hof:=Aa6 (up:=up) hr hi
 have hfar:Cb n up i=if n.ports[i].link<0 || !(up.getD n.ports[i].link.toNat false) then -1 else (nth n.links n.ports[i].link).a+(nth n.links n.ports[i].link).b-i:=by
  rw[Cb,Bb hi]
 have hos:=Ah5 n i (by unfold Ar;omega)
 generalize Cb n up i=f at *
 conv=>whnf
 refine⟨E,by omega,by omega,?_⟩
 conv=>whnf
 refine⟨fun h=>?_,fun h=>?_⟩
 ·have h1:n.ports[i].link=-1:=by simpa using h
  rw[h1]at hfar
  have hfr:f=-1:=hfar
  refine rd qy ?_;conv=>whnf
  refine⟨qy,?_⟩
  ((conv=>whnf);refine aT ?_;refine rg ?_;conv=>whnf)
  refine Ac E (.cons .tmp .nil) ?_ E
  exact congrArg Aa hfr
 have h1:¬ n.ports[i].link=-1:=by simpa using h
 have hlk:n.ports[i].link.toNat<up.length:=by omega
 have hof:=hof h1
 rw[Bb hlk]at hof hfar
 refine rd qy ?_;conv=>whnf
 refine⟨E,by omega,by omega,?_⟩
 conv=>whnf
 refine⟨E,by simp only[Int.toNat_natCast];omega,by simp only[Int.toNat_natCast];omega,?_⟩
 conv=>whnf
 refine⟨qy,?_⟩
 conv=>whnf
 refine⟨fun h2=>?_,fun h2=>?_⟩
 ·have h3:up[n.ports[i].link.toNat]=false:=by simpa using h2
  rw[h3]at hfar
  have hfr:f=-1:=by simpa using hfar
  refine rg ?_;conv=>whnf
  refine Ac E (.cons .tmp .nil) ?_ E
  exact congrArg Aa hfr
 ·have h3:up[n.ports[i].link.toNat]=true:=by simpa using h2
  rw[hof h3]at hos
  refine rg ?_;conv=>whnf
  refine Ah hos F204 E E E E E ?_
  refine rg ?_;conv=>whnf
  exact Ac E (.cons .tmp .nil) E E
theorem Ait (n:Net) (ranks:List Int) (j:Nat) (h:j<n.devices.length):(Jo n ranks).take (j+1)=(Jo n ranks).take j++[Agz ranks j]:=by
 rw[List.take_succ_eq_append_getElem (by simpa [Jo] using h)]
 simp[Jo]
theorem Wo (n:Net) (up:List Bool) (ranks:List Int) (hr:Ag n=true) (hcost:Cm n=true) (old:List Vec) (hl:old.length=n.devices.length) {b:Int} (hb:∀ x∈old,0≤x.cost∧x.cost≤b):∀ m,m≤n.ports.length→∀ x∈Kj n up ranks old m,0≤x.cost∧x.cost≤b+65535
 | 0,_,x,hx=>by have:=hb x hx;omega
 | m+1,hm,x,hx=>by
  have ih:=Wo n up ranks hr hcost old hl hb m qn
  rw[Mm,Y1]at hx
  split at hx
  ·rename_i hc
   rcases List.mem_or_eq_of_mem_set hx with h | h
   ·exact ih x h
   ·have hp:=Kd hcost (show m<n.ports.length by omega)
    obtain ⟨j,hj⟩:∃ j:Nat,Cb n up m=j:=⟨(Cb n up m).toNat,by omega⟩
    have hop:Hop n up m j:=⟨by omega,hj⟩
    have hjd:=Cv hr (Ha hr hop)
    have he:nth old (Bl n j)∈old:=by rw[Ao qn];exact List.getElem_mem _
    have:=hb _ he
    rw[hj,Int.toNat_natCast]at h
    rw[h]
    simp only[Lx]
    omega
  ·exact ih x hx
theorem Wp (n:Net) (up:List Bool) (ranks:List Int) (hr:Ag n=true) (hcost:Cm n=true):∀ r:Nat,∀ x∈C3 n up ranks r,0≤x.cost∧x.cost≤65535 * r
 | 0,x,hx=>by
  simp only[C3,Jo,List.mem_map]at hx
  obtain ⟨_,_,rfl⟩:=hx
  simp[Agz]
 | r+1,x,hx=>by
  have:=Wo n up ranks hr hcost (C3 n up ranks r) (Ec n up ranks r) (Wp n up ranks hr hcost r) n.ports.length (Nat.le_refl _) x hx
  omega
theorem Aog (n:Net) (up:List Bool) (hn:n.Fin) (hu:up.length=n.links.length) (hr:Ag n=true) (hcost:Cm n=true) :
  Sy.Spec Tryz.prog 134 [Ap n,.sl 1 Ad up] [] (Ais n up (Cr n) (C3 n up (Cr n) (n.devices.length+1))) []:=Ab Γ hm 100 F134 Tryz.ntmps134 rfl fun F hF=>by
 have hf:=Cy hr
 have hrs:=Alk n hn
 rw[← Ym n]at hrs
 have hrk:=En n
 generalize Cr n=ranks at *
 conv=>whnf
 refine Au hrs F202 E E E qy E ?_
 refine rd qy ?_;conv=>whnf
 refine⟨qy,?_⟩
 conv=>whnf
 refine Bg 2 8 (Ap n) E E E ?_
 refine Qj 18 10 1000 5 Dt E E E E ?_
 refine At n.devices.length (fun j=>[(2,.ref 8 (Ap n) 0),(5,.ptr 18 0),(6,Aa j)]) (fun j=>[(18,.box (Vx n up ranks (.osl 1000))),(1000,.row 5 Dt ((Jo n ranks).take j))]) []
  ⟨⟨rfl,rfl,rfl,rfl,rfl,rfl,trivial⟩,⟨.inl rfl,rfl,.inl rfl,rfl,trivial⟩,rfl,rfl⟩ ?_
 intro j hj
 refine rg ?_;conv=>whnf
 refine⟨fun h=>?_,fun h=>?_⟩
 ·have hlt:j<n.devices.length:=by simpa using h
  have hsucc:=Ait n ranks j hlt
  have hln:((Jo n ranks).take j).length≤8:=by simp[Jo];omega
  have hv:Agz ranks j=⟨ranks[(j:Int).toNat]'qn,0,ranks[(j:Int).toNat]'qn,-1,-1⟩:=by
   simp only[Agz,Int.toNat_natCast];rw[Bb qn]
  obtain ⟨u,hu'⟩:∃ u,(Jo n ranks).take j=u:=⟨_,rfl⟩
  rw[hu']at hsucc hln ⊢
  refine rg ?_;conv=>whnf
  refine⟨E,by omega,by omega,?_⟩
  conv=>whnf
  refine⟨E,by omega,by omega,?_⟩
  conv=>whnf
  refine Bn (Ae Γ.toTy 47 E E E E E (.row E) (.lit (e:=Dt) (l:=[Agz ranks j]) E (by rw[hv];rfl)) za (by simp;omega) (by simp;omega)) qy E ?_
  refine rd qy ?_;conv=>whnf
  refine⟨qy,?_⟩
  conv=>whnf
  refine⟨by unfold I64;omega,?_⟩
  conv=>whnf
  exact Aq [(1000,47)] hlt ⟨⟨E,E,E,E,E,E,Y⟩,⟨.inl E,E,.inl (congrArg (Ob.row 5 Dt) hsucc),E,Y⟩,E,E⟩
 have hjl:j=n.devices.length:=by
  have:¬ j<n.devices.length:=by simpa using h
  omega
 subst hjl
 have hall:(Jo n ranks).take n.devices.length=C3 n up ranks 0:=by rw[List.take_of_length_le (by simp[Jo]),C3]
 clear h hj
 refine rg ?_;conv=>whnf
 refine At (n.devices.length+1) (fun r=>[(2,.ref 8 (Ap n) 0),(5,.ptr 18 0),(7,Aa r)]) (fun r=>[(18,.box (Vx n up ranks (.osl 1000))),(1000,.row 5 Dt (C3 n up ranks r))]) []
  ⟨⟨rfl,rfl,rfl,rfl,rfl,rfl,trivial⟩,⟨.inl rfl,rfl,.inl (by rw[← hall];rfl),rfl,trivial⟩,rfl,rfl⟩ ?_
 clear hall
 intro r hrn
 refine rg ?_;conv=>whnf
 refine⟨fun h=>?_,fun h=>?_⟩
 ·have hlt:r<n.devices.length+1:=by
   have:(r:Int)≤n.devices.length:=of_decide_eq_true h
   omega
  have hol:=Ec n up ranks r
  have hob:=Wp n up ranks hr hcost r
  have hnext:C3 n up ranks (r+1)=Kj n up ranks (C3 n up ranks r) n.ports.length:=rfl
  obtain ⟨old,hold⟩:∃ old,C3 n up ranks r=old:=⟨_,rfl⟩
  rw[hold]at hol hob hnext ⊢
  have hz:Kj n up ranks old 0=old:=rfl
  refine rg ?_;conv=>whnf
  refine Ai (Ae Γ.toTy 62 E E E E E (.lit (e:=Dt) (l:=[]) E E) (.row (l:=old) E) za (by simp;omega) (by simp;omega)) E E ?_
  refine rg ?_;conv=>whnf
  refine As 62 E ?_
  refine At n.ports.length (fun i=>[(2,.ref 8 (Ap n) 0),(5,.ptr 18 0),(7,Aa r),(8,.sl 5 Dt old),(9,Aa i)]) (fun i=>[(18,.box (Vx n up ranks (.osl 1000))),(1000,.row 5 Dt (Kj n up ranks old i))]) []
   ⟨⟨rfl,rfl,rfl,rfl,rfl,rfl,rfl,rfl,rfl,rfl,trivial⟩,⟨.inl rfl,rfl,.inl rfl,rfl,trivial⟩,rfl,rfl⟩ ?_
  intro i hi
  refine rg ?_;conv=>whnf
  refine⟨fun h=>?_,fun h=>?_⟩
  ·have hil:i<n.ports.length:=by simpa using h
   have hul:=Jw n up ranks old i
   have hsucc:=Mm n up ranks old i
   rw[Y1]at hsucc
   have hfl:=Tf (up:=up) hr hil
   have ei:Bl n i=(n.ports[(i:Int).toNat]'qn).dev:=by rw[Bl,Ao qn]
   have ec:Hx n i=(n.ports[(i:Int).toNat]'qn).cost:=by rw[Hx,Ao qn]
   have hpi:=Cv hr hil
   have hci:=Kd hcost hil
   generalize Kj n up ranks old i=u at *
   have hcall:=Arb n up ranks u i hr hu hil
   obtain ⟨f,hf'⟩:∃ f,Cb n up i=f:=⟨_,rfl⟩
   rw[hf']at hfl hcall hsucc
   refine rg ?_;conv=>whnf
   refine Ai (Ak [(0,18),(1,1000)] E F135 hcall E ⟨E,E,Y⟩ E ⟨.inl E,.inl E,Y⟩) E E ?_
   refine rg ?_;conv=>whnf
   refine⟨fun h=>?_,fun h=>?_⟩
   ·have hneg:f<0:=of_decide_eq_true h
    rw[if_neg (fun hh=>absurd hh.1 qn)]at hsucc
    refine rg ?_;conv=>whnf
    refine⟨by unfold I64;omega,?_⟩
    conv=>whnf
    exact Aq [] hil ⟨⟨E,E,E,E,E,E,E,E,E,E,Y⟩,⟨.inl E,E,.inl (congrArg (Ob.row 5 Dt) hsucc),E,Y⟩,E,E⟩
   have hneg:¬ f<0:=of_decide_eq_false h
   obtain ⟨j,rfl⟩:∃ j:Nat,f=j:=⟨f.toNat,by omega⟩
   have hjl:=hfl qn
   have ej:Bl n j=(n.ports[(j:Int).toNat]'qn).dev:=by rw[Bl,Ao qn]
   have hpj:=Cv hr (show j<n.ports.length by omega)
   obtain ⟨q,hq⟩:∃ q,n.ports[(j:Int).toNat]'qn=q:=⟨_,rfl⟩
   rw[hq]at ej
   rw[ej]at hpj
   have hv:Lx n ranks old i j=⟨(old[q.dev.toNat]'qn).root,(old[q.dev.toNat]'qn).cost+(n.ports[(i:Int).toNat]'qn).cost,ranks[q.dev.toNat]'qn,j,i⟩:=by
    rw[Lx,ej,ec,Ao (l:=old) (i:=q.dev) qn,Ao (l:=ranks) (i:=q.dev) qn]
   have hbo:=hob _ (List.getElem_mem (show q.dev.toNat<old.length by omega))
   rw[ec]at hci
   rw[ei]at hpi
   rw[Int.toNat_natCast,hv,ei,Ao (l:=u) (i:=(n.ports[(i:Int).toNat]'qn).dev) qn]at hsucc
   have hless:=Aoe ⟨(old[q.dev.toNat]'qn).root,(old[q.dev.toNat]'qn).cost+(n.ports[(i:Int).toNat]'qn).cost,ranks[q.dev.toNat]'qn,j,i⟩ (u[(n.ports[(i:Int).toNat]'qn).dev.toNat]'qn)
   refine rg ?_;conv=>whnf
   refine⟨E,by omega,by omega,?_⟩
   rw[hq]
   conv=>whnf
   refine⟨E,by omega,by omega,?_⟩
   conv=>whnf
   refine⟨E,by omega,by omega,?_⟩
   conv=>whnf
   refine⟨E,by omega,by omega,?_⟩
   conv=>whnf
   refine⟨by unfold I64;omega,?_⟩
   conv=>whnf
   refine⟨E,by omega,by omega,?_⟩
   conv=>whnf
   refine⟨qy,?_⟩
   conv=>whnf
   refine⟨E,by omega,by omega,?_⟩
   conv=>whnf
   refine⟨by omega,by omega,?_⟩
   conv=>whnf
   refine⟨E,by omega,?_⟩
   conv=>whnf
   refine Au hless F203 E E E qy E ?_
   refine rd qy ?_;conv=>whnf
   refine⟨qy,?_⟩
   conv=>whnf
   refine⟨fun h=>?_,fun h=>?_⟩
   ·rw[if_pos ⟨by omega,h⟩]at hsucc
    refine rg ?_;conv=>whnf
    refine⟨E,by omega,by omega,?_⟩
    conv=>whnf
    refine⟨by omega,by omega,?_⟩
    conv=>whnf
    refine⟨E,by omega,⟨(old[q.dev.toNat]'qn).root,(old[q.dev.toNat]'qn).cost+(n.ports[(i:Int).toNat]'qn).cost,ranks[q.dev.toNat]'qn,j,i⟩,E,E,?_⟩
    conv=>whnf
    refine⟨qy,?_⟩
    conv=>whnf
    refine⟨by unfold I64;omega,?_⟩
    conv=>whnf
    exact Aq [] hil ⟨⟨E,E,E,E,E,E,E,E,E,E,Y⟩,⟨.inl E,E,.inl (congrArg (Ob.row 5 Dt) hsucc),E,Y⟩,E,E⟩
   ·rw[if_neg (fun hh=>by rw[hh.2]at h;cases h)]at hsucc
    refine rg ?_;conv=>whnf
    refine⟨by unfold I64;omega,?_⟩
    conv=>whnf
    exact Aq [] hil ⟨⟨E,E,E,E,E,E,E,E,E,E,Y⟩,⟨.inl E,E,.inl (congrArg (Ob.row 5 Dt) hsucc),E,Y⟩,E,E⟩
  have hil:i=n.ports.length:=by
   have:¬ i<n.ports.length:=by simpa using h
   omega
  subst hil
  refine rg ?_;conv=>whnf
  refine⟨by unfold I64;omega,?_⟩
  conv=>whnf
  exact Aq [] qn ⟨⟨E,E,E,E,E,E,Y⟩,⟨.inl E,E,.inl (congrArg (Ob.row 5 Dt) hnext),E,Y⟩,E,E⟩
 have hrl:r=n.devices.length+1:=by
  have:¬ (r:Int)≤n.devices.length:=of_decide_eq_false h
  omega
 subst hrl
 refine rg ?_;conv=>whnf
 refine As 1000 E ?_
 refine Bg 18 11 (.agg (Vx n up ranks (.sl 5 Dt (C3 n up ranks (n.devices.length+1))))) E E E ?_
 exact Ac E (.cons .tmp .nil) E E
def Ox (n:Net) (up:List Bool):List Vec:=C3 n up (Cr n) (n.devices.length+1)
theorem Ac6 (n:Net) (up:List Bool):(Ox n up).length=n.devices.length:=Ec ..
theorem Aj8 {n:Net} {up:List Bool} (h:okB n up=true) {d:Int} (h0:0≤d) (h1:d<n.devices.length) :
  (nth (Ox n up) d).root=nth (S1 n up) d∧(nth (Ox n up) d).cost=nth (Tn n up) d∧(nth (Ox n up) d).own=E7 n up (Cr n) (S1 n up) (Tn n up) d:=by
 obtain ⟨hu,hr,hcost⟩:=ok_iff.1 h
 exact Ape (V8 h) hr hcost (En n) h0 h1
theorem Ass (n:Net) (up:List Bool) (hn:n.Fin):Sy.Spec Tryz.prog 133 [Ap n,.sl 1 Ad up] [] (Ad (okB n up)) []:=Ab Γ hm 100 F133 Tryz.ntmps133 rfl fun F hF=>by
 conv=>whnf
 (repeat' (first | (refine⟨fun h=>?_,fun h=>?_⟩<;>(repeat (first | simp only[beq_iff_eq]at h | simp only[beq_eq_false_iff_ne]at h))<;>((refine rg ?_);(conv=>whnf);repeat((refine aF ?_);(refine rg ?_);(conv=>whnf)))) | (refine Ac rfl (.cons .tmp .nil) ?_ rfl) | (refine Ah (Dq n hn) F74 rfl rfl rfl rfl rfl ?_;((refine rg ?_);(conv=>whnf))) | (refine Ah (Alo n hn.ports) F201 rfl rfl rfl rfl rfl ?_;((refine rg ?_);(conv=>whnf)))))
 all_goals (refine congrArg Ad ?_;clear hF;simp_all[okB])
 all_goals omega
theorem Aev (n:Net) (up:List Bool) (hn:n.Fin) (h:okB n up=false):Sy.Spec Tryz.prog 73 [Ap n,.sl 1 Ad up] [] (.tup [.sl 1 Aa [],Aa 2]) []:=Ab Γ hm 100 F73 Tryz.ntmps73 rfl fun F hF=>by
 have hfit:=Ass n up hn
 rw[h]at hfit
 conv=>whnf
 refine Ah hfit F133 E E E E E ?_
 (refine rg ?_;(conv=>whnf);refine aT ?_;refine rg ?_;conv=>whnf)
 refine An 4 1 Aa E ?_
 exact Ac E (.cons .tmp (.cons .tmp .nil)) E E
theorem Alf {n:Net} {up:List Bool} (h:okB n up=true) {i:Nat} (hi:i<n.ports.length) :
  (Cb n up i<0→nth (Ji n up) i=0)∧(∀ j:Nat,Cb n up i=j→nth (Ji n up) i=if (nth (Ox n up) (Bl n i)).own=i then 1 else
   if (nth (Ox n up) (Bl n i)).cost<(nth (Ox n up) (Bl n j)).cost∨((nth (Ox n up) (Bl n i)).cost=(nth (Ox n up) (Bl n j)).cost∧nth (Cr n) (Bl n i)<nth (Cr n) (Bl n j)) then 2 else 3):=by
 obtain ⟨hu,hr,hcost⟩:=ok_iff.1 h
 refine⟨fun hf=>Ale h hi hf,fun j hj=>?_⟩
 have hop:Hop n up i j:=⟨hi,hj⟩
 have hpi:=Cv hr hi
 have hpj:=Cv hr (Ha hr hop)
 obtain ⟨_,k1,k2⟩:=Aj8 h hpi.1 hpi.2
 obtain ⟨_,k3,_⟩:=Aj8 h hpj.1 hpj.2
 rw[Ji,Aaz hr hi,Alg hop,k1,k2,k3]
theorem Ahg (n:Net) (up:List Bool) (hn:n.Fin) (h:okB n up=true):Sy.Spec Tryz.prog 73 [Ap n,.sl 1 Ad up] [] (.tup [.sl 1 Aa (Ji n up),Aa 0]) []:=Ab Γ hm 100 F73 Tryz.ntmps73 rfl fun F hF=>by
 have hfit:=Ass n up hn
 rw[h]at hfit
 obtain ⟨hu,hr,hcost⟩:=ok_iff.1 h
 have hf:=Cy hr
 have hkn:=Aog n up hn hu hr hcost
 have hkl:=Ac6 n up
 have hrk:=En n
 have hrole:=fun i hi=>Alf h (i:=i) hi
 have hrl:=La n up
 rw[show C3 n up (Cr n) (n.devices.length+1)=Ox n up from rfl]at hkn
 generalize Cr n=ranks at *
 generalize Ox n up=best at *
 generalize Ji n up=roles at *
 clear h
 conv=>whnf
 refine Ah hfit F133 E E E E E ?_
 (refine rg ?_;(conv=>whnf);refine aF ?_;refine rg ?_;conv=>whnf)
 refine Ah hkn F134 E E E E E ?_
 refine rg ?_;conv=>whnf
 refine Bg 2 8 (Ap n) E E E ?_
 refine Bm 7 1000 1 Aa E E ?_
 refine At n.ports.length (fun j=>[(2,.ref 8 (Ap n) 0),(6,Ais n up ranks best),(7,.osl 1000),(8,Aa j)]) (fun j=>[(1000,.row 1 Aa (roles.take j))]) []
  ⟨⟨rfl,rfl,rfl,rfl,rfl,rfl,rfl,rfl,trivial⟩,⟨.inl (by simp only[List.take_zero];rfl),rfl,trivial⟩,rfl,rfl⟩ ?_
 intro i hi
 refine rg ?_;conv=>whnf
 refine⟨fun h=>?_,fun h=>?_⟩
 ·have hlt:i<n.ports.length:=by simpa using h
  obtain ⟨hr0,hr1⟩:=hrole i hlt
  have hsucc:roles.take (i+1)=roles.take i++[roles[i]'qn]:=List.take_succ_eq_append_getElem qn
  have hln:(roles.take i).length≤40:=by simp;omega
  rw[Ao (l:=roles) (i:=(i:Int)) qn]at hr0
  rw[Ao (l:=roles) (i:=(i:Int)) qn]at hr1
  simp only[Int.toNat_natCast]at hr0 hr1
  generalize roles.take i=o at *
  have hcall:=Ara n up ranks best i hr hu hlt
  have hfl:=Tf (up:=up) hr hlt
  obtain ⟨f,hf'⟩:∃ f,Cb n up i=f:=⟨_,rfl⟩
  rw[hf']at hfl hcall hr0 hr1
  refine rg ?_;conv=>whnf
  refine Ah hcall F135 E E E E E ?_
  refine rg ?_;conv=>whnf
  refine⟨fun h=>?_,fun h=>?_⟩
  ·have hpos:0≤f:=of_decide_eq_true h
   obtain ⟨j,rfl⟩:∃ j:Nat,f=j:=⟨f.toNat,by omega⟩
   have hjl:=hfl qn
   have hr1:=hr1 j rfl
   have ei:Bl n i=(n.ports[(i:Int).toNat]'qn).dev:=by rw[Bl,Ao qn]
   have ej:Bl n j=(n.ports[(j:Int).toNat]'qn).dev:=by rw[Bl,Ao qn]
   obtain ⟨p,hp⟩:∃ q,n.ports[(i:Int).toNat]'qn=q:=⟨_,rfl⟩
   obtain ⟨q,hq⟩:∃ q,n.ports[(j:Int).toNat]'qn=q:=⟨_,rfl⟩
   have hpi:=Cv hr hlt
   have hpj:=Cv hr (show j<n.ports.length by omega)
   rw[hp]at ei
   rw[hq]at ej
   rw[ei]at hpi
   rw[ej]at hpj
   rw[ei,ej,Ao (l:=best) (i:=p.dev) qn,Ao (l:=best) (i:=q.dev) qn,Ao (l:=ranks) (i:=p.dev) qn,Ao (l:=ranks) (i:=q.dev) qn]at hr1
   refine rg ?_;conv=>whnf
   refine⟨E,by omega,by omega,?_⟩
   rw[hp]
   conv=>whnf
   refine⟨E,by omega,by omega,?_⟩
   rw[hq]
   conv=>whnf
   refine⟨qy,?_⟩
   conv=>whnf
   (repeat' (first | (refine⟨fun h=>?_,fun h=>?_⟩<;>(repeat (first | simp only[decide_eq_true_eq]at h | simp only[decide_eq_false_iff_not]at h | simp only[beq_iff_eq]at h | simp only[beq_eq_false_iff_ne]at h))<;>((first|refine rg ?_|refine rd qy ?_);(conv=>whnf))) | (refine⟨qy,?_⟩;((conv=>whnf);repeat((first|refine aF ?_|refine aT ?_);(refine rg ?_);(conv=>whnf)))) | (refine⟨by (omega),by (omega),?_⟩;((conv=>whnf))) | (refine⟨by (unfold I64;omega),?_⟩;((conv=>whnf))) | (refine Ai (Ae Γ.toTy 110 rfl rfl rfl rfl rfl (.row rfl) (.lit (e:=Aa) (l:=[(1:Int)]) rfl rfl) za (by simp;omega) (by simp;omega)) rfl rfl ?_;((refine rg ?_);(conv=>whnf))) | (refine Ai (Ae Γ.toTy 110 rfl rfl rfl rfl rfl (.row rfl) (.lit (e:=Aa) (l:=[(2:Int)]) rfl rfl) za (by simp;omega) (by simp;omega)) rfl rfl ?_;((refine rg ?_);(conv=>whnf))) | (refine Ai (Ae Γ.toTy 110 rfl rfl rfl rfl rfl (.row rfl) (.lit (e:=Aa) (l:=[(3:Int)]) rfl rfl) za (by simp;omega) (by simp;omega)) rfl rfl ?_;((refine rg ?_);(conv=>whnf))) | refine Aq [(1000,110)] hlt ⟨⟨rfl,rfl,rfl,rfl,rfl,rfl,rfl,rfl,trivial⟩,⟨.inl (congrArg (Ob.row 1 Aa) ?_),rfl,trivial⟩,rfl,rfl⟩))
   all_goals (rw[hsucc,hr1];clear hF hfit hkn hcall hrole;refine congrArg (fun z=>o++[z]) ?_;grind)
  ·have hneg:f<0:=by
    have:¬ 0≤f:=of_decide_eq_false h
    omega
   rw[hr0 hneg]at hsucc
   refine rg ?_;conv=>whnf
   refine Ai (Ae Γ.toTy 110 E E E E E (.row E) (.lit (e:=Aa) (l:=[(0:Int)]) E E) za (by simp;omega) (by simp;omega)) E E ?_
   refine rg ?_;conv=>whnf
   refine⟨by unfold I64;omega,?_⟩
   conv=>whnf
   exact Aq [(1000,110)] hlt ⟨⟨E,E,E,E,E,E,E,E,Y⟩,⟨.inl (congrArg (Ob.row 1 Aa) hsucc),E,Y⟩,E,E⟩
 have hjj:i=n.ports.length:=by
  have:¬ i<n.ports.length:=by simpa using h
  omega
 subst hjj
 rw[List.take_of_length_le qn]
 refine rg ?_;conv=>whnf
 refine As 1000 E ?_
 exact Ac E (.cons .tmp (.cons .tmp .nil)) E E
theorem Sc (n:Net) (up:List Bool) (hn:n.Fin) (h:okB n up=false):Sy.Spec Tryz.prog 34 [Ap n,.sl 1 Ad up] [] (.tup [.sl 1 Ad [],Aa 2]) []:=Ab Γ hm 100 F34 Tryz.ntmps34 rfl fun F hF=>by
 conv=>whnf
 refine Ah (Aev n up hn h) F73 E E E E E ?_
 (refine rg ?_;(conv=>whnf);refine aT ?_;refine rg ?_;conv=>whnf)
 refine An 4 1 Ad E ?_
 exact Ac E (.cons .tmp (.cons .tmp .nil)) E E
theorem Ar0 (roles:List Int) (l:Link):V3 roles l=((nth roles l.a == 1 && nth roles l.b == 2) || (nth roles l.a == 2 && nth roles l.b == 1)):=by
 simp only[V3,inB,List.any_cons,List.any_nil,Bool.or_false]
 rw[Bool.eq_iff_iff]
 simp only[Bool.and_eq_true,Bool.or_eq_true,beq_iff_eq]
 omega
theorem Ua (n:Net) (up:List Bool) (hn:n.Fin) (h:okB n up=true):Sy.Spec Tryz.prog 34 [Ap n,.sl 1 Ad up] [] (.tup [.sl 1 Ad (Apy n up),Aa 0]) []:=Ab Γ hm 100 F34 Tryz.ntmps34 rfl fun F hF=>by
 obtain ⟨hu,hr,hcost⟩:=ok_iff.1 h
 have hf:=Cy hr
 have hro:=Ahg n up hn h
 have hrl:=La n up
 rw[Apy]
 generalize Ji n up=roles at *
 conv=>whnf
 refine Ah hro F73 E E E E E ?_
 (refine rg ?_;(conv=>whnf);refine aF ?_;refine rg ?_;conv=>whnf)
 refine Bg 2 8 (Ap n) E E E ?_
 refine Bm 8 1000 1 Ad E E ?_
 refine At n.links.length (fun j=>[(2,.ref 8 (Ap n) 0),(6,.sl 1 Aa roles),(8,.osl 1000),(9,Aa j)]) (fun j=>[(1000,.row 1 Ad ((n.links.take j).map (V3 roles)))]) []
  ⟨⟨rfl,rfl,rfl,rfl,rfl,rfl,rfl,rfl,trivial⟩,⟨.inl (by simp only[List.take_zero,List.map_nil];rfl),rfl,trivial⟩,rfl,rfl⟩ ?_
 intro j hj
 refine rg ?_;conv=>whnf
 refine⟨fun h=>?_,fun h=>?_⟩
 ·have hlt:j<n.links.length:=by simpa using h
  have he:=Ir hr hlt
  have e1:n.links[(j:Int).toNat]'qn=n.links[j]:=rfl
  have hsucc:(n.links.take (j+1)).map (V3 roles)=(n.links.take j).map (V3 roles)++[V3 roles n.links[j]]:=by
   rw[List.take_succ_eq_append_getElem hlt,List.map_append];rfl
  have hln:((n.links.take j).map (V3 roles)).length≤20:=by simp;omega
  obtain ⟨o,ho'⟩:∃ o,(n.links.take j).map (V3 roles)=o:=⟨_,rfl⟩
  rw[ho']at hsucc hln ⊢
  obtain ⟨l,hl⟩:∃ l,n.links[j]=l:=⟨_,rfl⟩
  rw[hl]at e1 hsucc he
  have hA:0≤l.a∧l.a<roles.length:=by omega
  have hB:0≤l.b∧l.b<roles.length:=by omega
  rw[Ar0,Ao (l:=roles) (i:=l.a) qn,Ao (l:=roles) (i:=l.b) qn]at hsucc
  obtain ⟨x,hx⟩:∃ x,roles[l.a.toNat]'qn=x:=⟨_,rfl⟩
  obtain ⟨y,hy⟩:∃ y,roles[l.b.toNat]'qn=y:=⟨_,rfl⟩
  rw[hx,hy]at hsucc
  refine rg ?_;conv=>whnf
  refine⟨E,by omega,by omega,?_⟩
  rw[e1]
  conv=>whnf
  refine⟨E,by omega,by omega,?_⟩
  rw[hx]
  conv=>whnf
  refine⟨E,by omega,by omega,?_⟩
  rw[e1]
  conv=>whnf
  refine⟨E,by omega,by omega,?_⟩
  rw[hy]
  conv=>whnf
  refine⟨qy,?_⟩
  conv=>whnf
  (repeat' (first | (refine⟨fun h=>?_,fun h=>?_⟩<;>(repeat (first | simp only[beq_iff_eq]at h | simp only[beq_eq_false_iff_ne]at h))<;>((refine rg ?_);(conv=>whnf);repeat((refine aF ?_);(refine rg ?_);(conv=>whnf)))) | (refine⟨by (unfold I64;omega),?_⟩;((conv=>whnf))) | (refine Ai (Ae Γ.toTy 62 rfl rfl rfl rfl rfl (.row rfl) (.lit (e:=Ad) (l:=[true]) rfl rfl) za (by simp;omega) (by simp;omega)) rfl rfl ?_;((refine rg ?_);(conv=>whnf))) | (refine Ai (Ae Γ.toTy 62 rfl rfl rfl rfl rfl (.row rfl) (.lit (e:=Ad) (l:=[false]) rfl rfl) za (by simp;omega) (by simp;omega)) rfl rfl ?_;((refine rg ?_);(conv=>whnf))) | (refine Ai (Ae Γ.toTy 62 rfl rfl rfl rfl rfl (.row rfl) (.lit (e:=Ad) (l:=[y == 1]) rfl rfl) za (by simp;omega) (by simp;omega)) rfl rfl ?_;((refine rg ?_);(conv=>whnf))) | refine Aq [(1000,62)] hlt ⟨⟨rfl,rfl,rfl,rfl,rfl,rfl,rfl,rfl,trivial⟩,⟨.inl (congrArg (Ob.row 1 Ad) ?_),rfl,trivial⟩,rfl,rfl⟩))
  all_goals (rw[hsucc];clear hF hro;refine congrArg (fun z=>o++[z]) ?_;clear hsucc;simp_all)
 have hjj:j=n.links.length:=by
  have:¬ j<n.links.length:=by simpa using h
  omega
 subst hjj
 rw[List.take_length]
 refine rg ?_;conv=>whnf
 refine As 1000 E ?_
 exact Ac E (.cons .tmp (.cons .tmp .nil)) E E
def Ap6 (n:Net) (m:MacM) (q:QueuedM) (l:List SeenM):Obs:=[(0,.box (Im n m.up m.now m.injected m.drops)),(902,.row 1 C7 m.tables),(903,.row 1 I8 m.queues),(5,.box (queL q)),(1000,.row 3 A9 l)]
theorem Ap5 (n:Net) (hn:n.Fin) (hm1:n.Num) (m:MacM) (J D:Int) (hm0:MacOK n m J D) (hD0:0≤D) (hD:D≤900000000000) (x:StepM) :
  Sy.Spec Tryz.prog 38 [.ptr 0 0,Bu x] (Ep n m) (.sl 3 A9 (pickT n m x.domain x.at_).2) (Ep n (pickT n m x.domain x.at_).1):=Ab Γ hm 100 F38 Tryz.ntmps38 rfl fun F hF=>by
 have hres:=pickT.eq_1 n m x.domain x.at_
 generalize pickT n m x.domain x.at_=res at *
 have q1:=Agh n m x (Cz hm0 x.domain)
 have hok:=Tv hm0 x.domain x.at_
 have hpl:(takeM m x.domain x.at_).2.2=true→0≤x.domain∧x.domain.toNat<m.queues.length:=fun h=>by
  unfold takeM at h
  split at h
  ·cases h
  ·rename_i h2
   exact placeB_iff.1 (by cases hx:Al x.domain m.queues.length;exact absurd hx h2;rfl)
 have htl:(takeM m x.domain x.at_).1.tables=m.tables:=by unfold takeM;split<;>rfl
 generalize takeM m x.domain x.at_=r at *
 obtain ⟨m1,q,ok⟩:=r
 have htq:m.queues.length=m.tables.length:=by rw[hm0.ques,hm0.tabs]
 conv=>whnf
 refine Ai (Ak [] E F39 q1 E ⟨E,E,E,Y⟩ E ⟨.inl E,.inl E,.inl E,Y⟩) E E ?_
 refine rg ?_;conv=>whnf
 cases ok
 ·rw[if_pos rfl]at hres
  subst hres
  (refine⟨fun _=>?_,fun h=>False.elim (by simp at h)⟩;refine rg ?_;conv=>whnf)
  refine An 4 3 A9 E ?_
  exact done E (.cons .tmp .nil) [] (Ep n m1) (fun _ h=>h) E E ⟨Y,⟨.inl E,E,.inl E,E,.inl E,E,Y⟩,E,E⟩
 rw[if_neg za]at hres
 have hd:=hpl rfl
 have hd2:0≤x.domain∧x.domain.toNat<m1.tables.length:=by rw[htl,← htq];exact hd
 dsimp only at hres hok
 have hf:∃ e,Sy.Spec Tryz.prog 34 [Ap n,.sl 1 Ad m1.up] [] (.tup [.sl 1 Ad (H5 n m1.up),Aa e]) []:=by
  unfold H5
  split
  ·rename_i h;exact⟨0,Ua n m1.up hn h⟩
  ·rename_i h;exact⟨2,Sc n m1.up hn (by simpa using h)⟩
 obtain ⟨ef,hf⟩:=hf
 have q3:=Ahm n hn hm1 (H5 n m1.up) (tableL m1 x.domain) x.domain q m1.now (Lk hok.1 x.domain) hok.2
 have hb1:=Qc (n:=n) (fw:=H5 n m1.up) (dom:=x.domain) (now:=m1.now) (Lk hok.1 x.domain) hok.2
 have hb2:=Qd (fw:=H5 n m1.up) (t:=tableL m1 x.domain) (dom:=x.domain) (now:=m1.now) hn hm1 hok.2
 have hb3:=K7 hn (H5 n m1.up) (tableL m1 x.domain) x.domain q m1.now
 have hb4:=Wz n (H5 n m1.up) (tableL m1 x.domain) x.domain q m1.now
 rw[Or]at hres
 have hz:=Yr hok.1 hD0 x.domain hb1
 have hdr0:∀ i,0≤m1.drops i∧m1.drops i≤1000000000000:=fun i=>⟨(hok.1.drp i).1,by have:=(hok.1.drp i).2;omega⟩
 generalize bridgeT n (H5 n m1.up) (tableL m1 x.domain) x.domain q m1.now=b at *
 generalize H5 n m1.up=fw at *
 obtain ⟨t,out,e⟩:=b
 have hb2:∀ o∈out,OutOK n o:=hb2
 have hb3:out.length<4294967296:=hb3
 have hb4:By e:=hb4
 have ht0:=tableL.eq_1 m1 x.domain
 rw[Jx hd2.2]at ht0
 generalize tableL m1 x.domain=t0 at *
 subst ht0
 (refine⟨fun h=>False.elim (by simp at h),fun _=>?_⟩;refine rg ?_;conv=>whnf)
 refine Au hf F34 E E E qy E ?_
 refine rd qy ?_;conv=>whnf
 refine⟨qy,?_⟩
 conv=>whnf
 refine⟨hd2.1,hd2.2,?_⟩
 conv=>whnf
 refine⟨E,hd2.2,?_⟩
 conv=>whnf
 refine Au q3 F81 E E E qy E ?_
 refine rd qy ?_;conv=>whnf
 refine⟨qy,?_⟩
 conv=>whnf
 refine⟨fun h=>?_,fun h=>?_⟩
 ·have h2:¬ e=2:=by simpa using h
  clear h
  refine rg ?_;conv=>whnf
  refine⟨hd2.1,hd2.2,?_⟩
  conv=>whnf
  refine⟨E,hd2.2,t,E,E,?_⟩
  conv=>whnf
  refine⟨qy,?_⟩
  conv=>whnf
  refine⟨fun h=>?_,fun h=>?_⟩
  ·have h3:¬ e=0:=by simpa using h
   clear h
   have hpd:Ib m1 x.domain (t,out,e)=Bf (Bv m1 x.domain t) e:=by
    unfold Ib
    rw[if_neg h2,if_pos h3]
   rw[hpd]at hres hz
   subst hres
   have hbe:=hdr0 e.toNat
   have hg:Hr ⟨.int .i64,1,[.int .i64 0]⟩ (Im n (Bv m1 x.domain t).up (Bv m1 x.domain t).now (Bv m1 x.domain t).injected (Bv m1 x.domain t).drops) (0+13+e.toNat * 1)=_:=Jg n (Bv m1 x.domain t).up (Bv m1 x.domain t).now (Bv m1 x.domain t).injected (Bv m1 x.domain t).drops e.toNat (by have:=hb4.2;omega)
   have hgl:=K4 (Jg n (Bv m1 x.domain t).up (Bv m1 x.domain t).now (Bv m1 x.domain t).injected (Bv m1 x.domain t).drops e.toNat (by have:=hb4.2;omega))
   have hst2:setAt (Im n (Bv m1 x.domain t).up (Bv m1 x.domain t).now (Bv m1 x.domain t).injected (Bv m1 x.domain t).drops) (0+13+e.toNat * 1) [.val (.int .i64 ((Bv m1 x.domain t).drops e.toNat+1))]=Im n (Bv m1 x.domain t).up (Bv m1 x.domain t).now (Bv m1 x.domain t).injected (Bf (Bv m1 x.domain t) e).drops:=by rw[L2 n (Bv m1 x.domain t) e,Ln]
   have hble:Nat.ble (0+13+e.toNat * 1+1) (Im n (Bv m1 x.domain t).up (Bv m1 x.domain t).now (Bv m1 x.domain t).injected (Bv m1 x.domain t).drops).length=true:=Nat.ble_eq_true_of_le hgl
   refine rg ?_;conv=>whnf
   refine⟨hb4.1,by have:=hb4.2;show e.toNat<64;omega,?_⟩
   conv=>whnf
   refine Aj5 ?_ hg
   conv=>whnf
   refine⟨(show I64 (m1.drops e.toNat+1) by unfold I64;omega),?_⟩
   conv=>whnf
   refine⟨hb4.1,by have:=hb4.2;show e.toNat<64;omega,?_⟩
   conv=>whnf
   refine Xh (Akh hst2 ?_) hble
   conv=>whnf
   refine⟨qy,?_⟩
   conv=>whnf
   have hdr:Hn (Bf (Bv m1 x.domain t) e):=fun i=>⟨(hz.drp i).1,by have:=(hz.drp i).2;omega⟩
   refine Bm 12 1000 3 A9 E E ?_
   refine At out.length (fun j=>[(0,.ptr 0 0),(5,.ptr 5 0),(10,.sl 9 Bi out),(12,.osl 1000),(13,Aa j)]) (fun j=>Ap6 n (Ba n (Bf (Bv m1 x.domain t) e) q.origin (out.take j)).1 q (Ba n (Bf (Bv m1 x.domain t) e) q.origin (out.take j)).2) [] ⟨⟨E,E,E,E,E,E,E,E,E,E,Y⟩,⟨.inl E,E,.inl E,E,.inl E,E,.inl E,E,.inl E,E,Y⟩,E,E⟩ ?_
   intro j hj
   refine rg ?_;conv=>whnf
   refine⟨fun h=>?_,fun h=>?_⟩
   ·have hlt:j<out.length:=by have:=of_decide_eq_true h;omega
    have hj0:((j:Nat):Int).toNat<out.length:=by simpa using hlt
    obtain ⟨o,hoo⟩:∃ o,out[j]=o:=⟨_,rfl⟩
    have e1:out[((j:Nat):Int).toNat]'hj0=o:=hoo
    have hs:=Iu n (Bf (Bv m1 x.domain t) e) q.origin out j hlt
    rw[hoo]at hs
    have hjo:=Jf hn q.origin (out.take j) hz qn (fun x hx=>hb2 x (List.mem_of_mem_take hx))
    have hlen:(out.take j).length=j:=by rw[List.length_take];omega
    rw[hlen]at hjo
    have hsl:=Hz n q.origin (out.take j) (Bf (Bv m1 x.domain t) e)
    rw[hlen]at hsl
    have q5:=Adj n hn hm1 (Ba n (Bf (Bv m1 x.domain t) e) q.origin (out.take j)).1 J _ hjo qn o (hb2 o (by rw[← hoo];exact List.getElem_mem hlt)) q.origin
    have hfw:=It n (Ba n (Bf (Bv m1 x.domain t) e) q.origin (out.take j)).1 o q.origin
    clear h
    refine rg ?_;conv=>whnf
    refine⟨E,by omega,hj0,?_⟩
    rw[e1]
    conv=>whnf
    refine Bn (Ak [] E F82 q5 E ⟨E,E,E,Y⟩ E ⟨.inl E,.inl E,.inl E,Y⟩) qy E ?_
    refine rd qy ?_;conv=>whnf
    refine Bn (Ae Γ.toTy 96 E E E E E (.row E) .sl za qn qn) qy E ?_
    refine rd qy ?_;conv=>whnf
    refine⟨qy,?_⟩
    conv=>whnf
    refine⟨by unfold I64;omega,?_⟩
    conv=>whnf
    have g1:(Ba n (Bf (Bv m1 x.domain t) e) q.origin (out.take (j+1))).1=(goesM n (Ba n (Bf (Bv m1 x.domain t) e) q.origin (out.take j)).1 o q.origin).1:=by rw[hs]
    have g2:(Ba n (Bf (Bv m1 x.domain t) e) q.origin (out.take (j+1))).2=(Ba n (Bf (Bv m1 x.domain t) e) q.origin (out.take j)).2++(goesM n (Ba n (Bf (Bv m1 x.domain t) e) q.origin (out.take j)).1 o q.origin).2:=by rw[hs]
    refine Aq [(1000,96)] hlt ⟨⟨E,E,E,E,E,E,E,E,E,E,Y⟩,?_,E,E⟩
    dsimp only
    rw[g1,g2]
    exact⟨.inl E,E,.inl E,E,.inl E,E,.inl E,E,.inl E,E,Y⟩
   ·have hjj:j=out.length:=by have:=of_decide_eq_false h;omega
    subst hjj
    rw[List.take_length]
    clear h
    refine rg ?_;conv=>whnf
    refine As 1000 E ?_
    exact done E (.cons .tmp .nil) [] (Ep n (Ba n (Bf (Bv m1 x.domain t) e) q.origin out).1) (fun _ h=>h) E E ⟨Y,⟨.inl E,E,.inl E,E,.inl E,E,Y⟩,E,E⟩
  ·have h3:e=0:=by simpa using h
   clear h
   have hpd:Ib m1 x.domain (t,out,e)=Bv m1 x.domain t:=by
    unfold Ib
    rw[if_neg h2,if_neg (fun h=>h h3)]
   rw[hpd]at hres hz
   subst hres
   refine rg ?_;conv=>whnf
   have hdr:Hn (Bv m1 x.domain t):=fun i=>⟨(hz.drp i).1,by have:=(hz.drp i).2;omega⟩
   refine Bm 12 1000 3 A9 E E ?_
   refine At out.length (fun j=>[(0,.ptr 0 0),(5,.ptr 5 0),(10,.sl 9 Bi out),(12,.osl 1000),(13,Aa j)]) (fun j=>Ap6 n (Ba n (Bv m1 x.domain t) q.origin (out.take j)).1 q (Ba n (Bv m1 x.domain t) q.origin (out.take j)).2) [] ⟨⟨E,E,E,E,E,E,E,E,E,E,Y⟩,⟨.inl E,E,.inl E,E,.inl E,E,.inl E,E,.inl E,E,Y⟩,E,E⟩ ?_
   intro j hj
   refine rg ?_;conv=>whnf
   refine⟨fun h=>?_,fun h=>?_⟩
   ·have hlt:j<out.length:=by have:=of_decide_eq_true h;omega
    have hj0:((j:Nat):Int).toNat<out.length:=by simpa using hlt
    obtain ⟨o,hoo⟩:∃ o,out[j]=o:=⟨_,rfl⟩
    have e1:out[((j:Nat):Int).toNat]'hj0=o:=hoo
    have hs:=Iu n (Bv m1 x.domain t) q.origin out j hlt
    rw[hoo]at hs
    have hjo:=Jf hn q.origin (out.take j) hz qn (fun x hx=>hb2 x (List.mem_of_mem_take hx))
    have hlen:(out.take j).length=j:=by rw[List.length_take];omega
    rw[hlen]at hjo
    have hsl:=Hz n q.origin (out.take j) (Bv m1 x.domain t)
    rw[hlen]at hsl
    have q5:=Adj n hn hm1 (Ba n (Bv m1 x.domain t) q.origin (out.take j)).1 J _ hjo qn o (hb2 o (by rw[← hoo];exact List.getElem_mem hlt)) q.origin
    have hfw:=It n (Ba n (Bv m1 x.domain t) q.origin (out.take j)).1 o q.origin
    clear h
    refine rg ?_;conv=>whnf
    refine⟨E,by omega,hj0,?_⟩
    rw[e1]
    conv=>whnf
    refine Bn (Ak [] E F82 q5 E ⟨E,E,E,Y⟩ E ⟨.inl E,.inl E,.inl E,Y⟩) qy E ?_
    refine rd qy ?_;conv=>whnf
    refine Bn (Ae Γ.toTy 96 E E E E E (.row E) .sl za qn qn) qy E ?_
    refine rd qy ?_;conv=>whnf
    refine⟨qy,?_⟩
    conv=>whnf
    refine⟨by unfold I64;omega,?_⟩
    conv=>whnf
    have g1:(Ba n (Bv m1 x.domain t) q.origin (out.take (j+1))).1=(goesM n (Ba n (Bv m1 x.domain t) q.origin (out.take j)).1 o q.origin).1:=by rw[hs]
    have g2:(Ba n (Bv m1 x.domain t) q.origin (out.take (j+1))).2=(Ba n (Bv m1 x.domain t) q.origin (out.take j)).2++(goesM n (Ba n (Bv m1 x.domain t) q.origin (out.take j)).1 o q.origin).2:=by rw[hs]
    refine Aq [(1000,96)] hlt ⟨⟨E,E,E,E,E,E,E,E,E,E,Y⟩,?_,E,E⟩
    dsimp only
    rw[g1,g2]
    exact⟨.inl E,E,.inl E,E,.inl E,E,.inl E,E,.inl E,E,Y⟩
   ·have hjj:j=out.length:=by have:=of_decide_eq_false h;omega
    subst hjj
    rw[List.take_length]
    clear h
    refine rg ?_;conv=>whnf
    refine As 1000 E ?_
    exact done E (.cons .tmp .nil) [] (Ep n (Ba n (Bv m1 x.domain t) q.origin out).1) (fun _ h=>h) E E ⟨Y,⟨.inl E,E,.inl E,E,.inl E,E,Y⟩,E,E⟩
 ·have h2:e=2:=by simpa using h
  clear h
  have hpd:Ib m1 x.domain (t,out,e)=Bf m1 e:=by
   unfold Ib
   rw[if_pos h2,h2]
  rw[hpd]at hres hz
  subst hres
  refine rg ?_;conv=>whnf
  refine⟨fun _=>?_,fun h=>False.elim (by rw[h2]at h;simp at h)⟩
  have hbe:=hdr0 e.toNat
  have hg:Hr ⟨.int .i64,1,[.int .i64 0]⟩ (Im n (m1).up (m1).now (m1).injected (m1).drops) (0+13+e.toNat * 1)=_:=Jg n (m1).up (m1).now (m1).injected (m1).drops e.toNat (by have:=hb4.2;omega)
  have hgl:=K4 (Jg n (m1).up (m1).now (m1).injected (m1).drops e.toNat (by have:=hb4.2;omega))
  have hst2:setAt (Im n (m1).up (m1).now (m1).injected (m1).drops) (0+13+e.toNat * 1) [.val (.int .i64 ((m1).drops e.toNat+1))]=Im n (m1).up (m1).now (m1).injected (Bf (m1) e).drops:=by rw[L2 n (m1) e,Ln]
  have hble:Nat.ble (0+13+e.toNat * 1+1) (Im n (m1).up (m1).now (m1).injected (m1).drops).length=true:=Nat.ble_eq_true_of_le hgl
  refine rg ?_;conv=>whnf
  refine⟨hb4.1,by have:=hb4.2;show e.toNat<64;omega,?_⟩
  conv=>whnf
  refine Aj5 ?_ hg
  conv=>whnf
  refine⟨(show I64 (m1.drops e.toNat+1) by unfold I64;omega),?_⟩
  conv=>whnf
  refine⟨hb4.1,by have:=hb4.2;show e.toNat<64;omega,?_⟩
  conv=>whnf
  refine Xh (Akh hst2 ?_) hble
  conv=>whnf
  refine⟨qy,?_⟩
  conv=>whnf
  have hdr:Hn (Bf m1 e):=fun i=>⟨(hz.drp i).1,by have:=(hz.drp i).2;omega⟩
  refine Bm 12 1000 3 A9 E E ?_
  refine At out.length (fun j=>[(0,.ptr 0 0),(5,.ptr 5 0),(10,.sl 9 Bi out),(12,.osl 1000),(13,Aa j)]) (fun j=>Ap6 n (Ba n (Bf m1 e) q.origin (out.take j)).1 q (Ba n (Bf m1 e) q.origin (out.take j)).2) [] ⟨⟨E,E,E,E,E,E,E,E,E,E,Y⟩,⟨.inl E,E,.inl E,E,.inl E,E,.inl E,E,.inl E,E,Y⟩,E,E⟩ ?_
  intro j hj
  refine rg ?_;conv=>whnf
  refine⟨fun h=>?_,fun h=>?_⟩
  ·have hlt:j<out.length:=by have:=of_decide_eq_true h;omega
   have hj0:((j:Nat):Int).toNat<out.length:=by simpa using hlt
   obtain ⟨o,hoo⟩:∃ o,out[j]=o:=⟨_,rfl⟩
   have e1:out[((j:Nat):Int).toNat]'hj0=o:=hoo
   have hs:=Iu n (Bf m1 e) q.origin out j hlt
   rw[hoo]at hs
   have hjo:=Jf hn q.origin (out.take j) hz qn (fun x hx=>hb2 x (List.mem_of_mem_take hx))
   have hlen:(out.take j).length=j:=by rw[List.length_take];omega
   rw[hlen]at hjo
   have hsl:=Hz n q.origin (out.take j) (Bf m1 e)
   rw[hlen]at hsl
   have q5:=Adj n hn hm1 (Ba n (Bf m1 e) q.origin (out.take j)).1 J _ hjo qn o (hb2 o (by rw[← hoo];exact List.getElem_mem hlt)) q.origin
   have hfw:=It n (Ba n (Bf m1 e) q.origin (out.take j)).1 o q.origin
   clear h
   refine rg ?_;conv=>whnf
   refine⟨E,by omega,hj0,?_⟩
   rw[e1]
   conv=>whnf
   refine Bn (Ak [] E F82 q5 E ⟨E,E,E,Y⟩ E ⟨.inl E,.inl E,.inl E,Y⟩) qy E ?_
   refine rd qy ?_;conv=>whnf
   refine Bn (Ae Γ.toTy 96 E E E E E (.row E) .sl za qn qn) qy E ?_
   refine rd qy ?_;conv=>whnf
   refine⟨qy,?_⟩
   conv=>whnf
   refine⟨by unfold I64;omega,?_⟩
   conv=>whnf
   have g1:(Ba n (Bf m1 e) q.origin (out.take (j+1))).1=(goesM n (Ba n (Bf m1 e) q.origin (out.take j)).1 o q.origin).1:=by rw[hs]
   have g2:(Ba n (Bf m1 e) q.origin (out.take (j+1))).2=(Ba n (Bf m1 e) q.origin (out.take j)).2++(goesM n (Ba n (Bf m1 e) q.origin (out.take j)).1 o q.origin).2:=by rw[hs]
   refine Aq [(1000,96)] hlt ⟨⟨E,E,E,E,E,E,E,E,E,E,Y⟩,?_,E,E⟩
   dsimp only
   rw[g1,g2]
   exact⟨.inl E,E,.inl E,E,.inl E,E,.inl E,E,.inl E,E,Y⟩
  ·have hjj:j=out.length:=by have:=of_decide_eq_false h;omega
   subst hjj
   rw[List.take_length]
   clear h
   refine rg ?_;conv=>whnf
   refine As 1000 E ?_
   exact done E (.cons .tmp .nil) [] (Ep n (Ba n (Bf m1 e) q.origin out).1) (fun _ h=>h) E E ⟨Y,⟨.inl E,E,.inl E,E,.inl E,E,Y⟩,E,E⟩
def Asu (n:Net) (m:MacM) (now:Int) (j:Nat):Obs:=[(0,.box (Im n m.up now m.injected m.drops)),(902,.row 1 C7 (Li m.tables now j)),(903,.row 1 I8 m.queues)]
theorem Ap8 (n:Net) (hn:n.Fin) (hm1:n.Num) (hrt:Ag n=true) (m:MacM) (J D:Int) (hm0:MacOK n m J D) (hJ:J<900000000000) (hD0:0≤D) (hD:D≤900000000000) (x:StepM) (hb:x.bytes.length<100000) :
  Sy.Spec Tryz.prog 15 [.ptr 0 0,Bu x] (Ep n m) (.sl 3 A9 (doT n m x).2) (Ep n (doT n m x).1):=Ab Γ hm 100 F15 Tryz.ntmps15 rfl fun F hF=>by
 have hres:=doT.eq_1 n m x
 generalize doT n m x=res at *
 have hls:=hn.links
 unfold Ar at hls
 conv=>whnf
 refine⟨fun h=>?_,fun h=>?_⟩
 ·have h1:x.kind=1:=by simpa using h
  rw[if_pos h1]at hres
  have hij:=injectT.eq_1 n m x.port x.bytes
  generalize injectT n m x.port x.bytes=ri at *
  subst hres
  clear h
  have q0:=A6 x.port n.ports.length
  have hpl:=placeB_iff (d:=x.port) (k:=n.ports.length)
  generalize Al x.port n.ports.length=pb at *
  refine rg ?_;conv=>whnf
  refine Au q0 F35 E E E qy E ?_
  cases pb
  ·rw[if_pos (.inl rfl)]at hij
   subst hij
   (refine rd qy ?_;(conv=>whnf);refine aF ?_;refine rd qy ?_;conv=>whnf)
   refine⟨qy,?_⟩
   ((conv=>whnf);refine aF ?_;refine rg ?_;conv=>whnf)
   (skip)
   refine An 4 3 A9 E ?_
   exact done E (.cons .tmp .nil) [] (Ep n ri) (fun _ h=>h) E E ⟨Y,⟨.inl E,E,.inl E,E,.inl E,E,Y⟩,E,E⟩
  have hp:=hpl.1 rfl
  have hlk:=Dy hrt hp.2
  rw[Ao hp.2]at hij
  obtain ⟨p,hpp⟩:∃ p,n.ports[x.port.toNat]'hp.2=p:=⟨_,rfl⟩
  rw[hpp]at hij hlk
  have hinj:=hm0.inj
  have hok:MacOK n ⟨m.up,m.tables,m.queues,m.now,m.injected+1,m.drops⟩ (J+1) D:=⟨hm0.up,hm0.tabs,hm0.ques,hm0.tab,hm0.que,hm0.now,⟨by dsimp only;omega,by dsimp only;omega⟩,hm0.drp⟩
  have hdr:Hn ⟨m.up,m.tables,m.queues,m.now,m.injected+1,m.drops⟩:=fun i=>⟨(hm0.drp i).1,by have:=(hm0.drp i).2;dsimp only at *;omega⟩
  have he:=Th n x.port x.bytes
  have hdom:=Ti (n:=n) (port:=x.port) (b:=x.bytes)
  have q1:=Aew n hn x.port x.bytes hb
  have hfr:=Q0 n x.port x.bytes
  generalize enterT n x.port x.bytes=r at *
  have q2:=U5 n ⟨m.up,m.tables,m.queues,m.now,m.injected+1,m.drops⟩ r.1 ⟨x.port,0,m.injected+1,r.2.1⟩ r.2.2 ⟨he.1,by have:=he.2;omega⟩ (fun h=>by
   have:=hdom h
   exact⟨this.1,by show r.1.toNat<m.queues.length;rw[hm0.ques];exact this.2⟩) hdr (Cz hok _) (Dn hfr _ ⟨by omega,by have:=hn.ports;unfold Ar at this;omega⟩ qz)
  (refine rd qy ?_;(conv=>whnf);refine aT ?_;refine rd qy ?_;conv=>whnf)
  refine⟨E,hp.1,hp.2,?_⟩
  rw[hpp]
  conv=>whnf
  refine⟨qy,?_⟩
  conv=>whnf
  refine⟨fun h=>?_,fun h=>?_⟩
  ·have h2:p.link=-1:=by simpa using h
   rw[if_neg (by simp;omega)]at hij
   subst hij
   clear h
   refine rg ?_;conv=>whnf
   refine⟨by unfold I64;omega,?_⟩
   conv=>whnf
   refine Au q1 F36 E E E qy E ?_
   refine rd qy ?_;conv=>whnf
   refine⟨qy,?_⟩
   conv=>whnf
   refine Bn (Ak [] E F37 q2 E ⟨E,E,E,Y⟩ E ⟨.inl E,.inl E,.inl E,Y⟩) qy E ?_
   refine rd qy ?_;conv=>whnf
   refine⟨qy,?_⟩
   conv=>whnf
   refine An 4 3 A9 E ?_
   exact done E (.cons .tmp .nil) [] (Ep n (comeM _ _ _ _)) (fun _ h=>h) E E ⟨Y,⟨.inl E,E,.inl E,E,.inl E,E,Y⟩,E,E⟩
  ·have h2:¬ p.link=-1:=by simpa using h
   rw[if_pos (.inr qn)]at hij
   subst hij
   refine rg ?_;conv=>whnf
   refine An 4 3 A9 E ?_
   exact done E (.cons .tmp .nil) [] (Ep n ri) (fun _ h=>h) E E ⟨Y,⟨.inl E,E,.inl E,E,.inl E,E,Y⟩,E,E⟩
 have h1:¬ x.kind=1:=by simpa using h
 rw[if_neg h1]at hres
 clear h
 refine rg ?_;conv=>whnf
 refine⟨fun h=>?_,fun h=>?_⟩
 ·have h1:x.kind=2:=by simpa using h
  rw[if_pos h1]at hres
  subst hres
  have q1:=Ap5 n hn hm1 m J D hm0 hD0 hD x
  refine rg ?_;conv=>whnf
  refine Ai (Ak [] E F38 q1 E ⟨E,E,E,Y⟩ E ⟨.inl E,.inl E,.inl E,Y⟩) E E ?_
  refine rg ?_;conv=>whnf
  exact done E (.cons .tmp .nil) [] (Ep n (pickT n m x.domain x.at_).1) (fun _ h=>h) E E ⟨Y,⟨.inl E,E,.inl E,E,.inl E,E,Y⟩,E,E⟩
 have h1:¬ x.kind=2:=by simpa using h
 rw[if_neg h1]at hres
 clear h
 refine rg ?_;conv=>whnf
 refine⟨fun h=>?_,fun h=>?_⟩
 ·have h1:x.kind=3:=by simpa using h
  rw[if_pos h1]at hres
  subst hres
  have q1:=Agh n m x (Cz hm0 _)
  refine rg ?_;conv=>whnf
  refine Ai (Ak [] E F39 q1 E ⟨E,E,E,Y⟩ E ⟨.inl E,.inl E,.inl E,Y⟩) E E ?_
  refine rg ?_;conv=>whnf
  refine An 4 3 A9 E ?_
  exact done E (.cons .tmp .nil) [] (Ep n (takeM m x.domain x.at_).1) (fun _ h=>h) E E ⟨Y,⟨.inl E,E,.inl E,E,.inl E,E,Y⟩,E,E⟩
 have h1:¬ x.kind=3:=by simpa using h
 rw[if_neg h1]at hres
 clear h
 refine rg ?_;conv=>whnf
 refine⟨fun h=>?_,fun h=>?_⟩
 ·have h1:x.kind=4:=by simpa using h
  rw[if_pos h1]at hres
  have hnow:=hm0.now
  have htl:m.tables.length<2147483648:=by rw[hm0.tabs];exact hn.domains
  have hto:=hm0.tab
  have hti:∀ nw,min (m.now+1) 1099511627776=nw→My m=⟨m.up,Li m.tables nw m.tables.length,m.queues,nw,m.injected,m.drops⟩:=fun nw this=>by
   unfold My Li
   rw[this,List.take_length,List.drop_length,List.append_nil]
  clear h
  refine rg ?_;conv=>whnf
  refine⟨fun h=>?_,fun h=>?_⟩
  ·have h2:m.now<1099511627776:=of_decide_eq_true h
   rw[hti (m.now+1) qn]at hres
   subst hres
   clear h
   refine rg ?_;conv=>whnf
   refine⟨by unfold I64;omega,?_⟩
   conv=>whnf
   refine At m.tables.length (fun j=>[(0,.ptr 0 0),(8,Aa j)]) (fun j=>Asu n m (m.now+1) j) [] ⟨⟨E,E,E,E,Y⟩,⟨.inl E,E,.inl E,E,.inl E,E,Y⟩,E,E⟩ ?_
   intro j hj
   have hal:=Qh m.tables (m.now+1) j
   refine rg ?_;conv=>whnf
   refine⟨fun h=>?_,fun h=>?_⟩
   ·have hlt:j<m.tables.length:=by have:=of_decide_eq_true h;omega
    have hj0:((j:Nat):Int).toNat<(Li m.tables (m.now+1) j).length:=by rw[hal];simpa using hlt
    obtain ⟨t,hoo⟩:∃ t,m.tables[j]=t:=⟨_,rfl⟩
    have e1:(Li m.tables (m.now+1) j)[((j:Nat):Int).toNat]'hj0=t:=(Zy m.tables (m.now+1) j hlt (by rw[hal];exact hlt)).trans hoo
    have hs:=Vj m.tables (m.now+1) j hlt
    rw[hoo]at hs
    have ht:=hto t (by rw[← hoo];exact List.getElem_mem hlt)
    clear h
    refine rg ?_;conv=>whnf
    refine⟨by omega,hj0,?_⟩
    conv=>whnf
    refine⟨E,hj0,?_⟩
    rw[e1]
    conv=>whnf
    refine Au (Aa1 t (m.now+1) ht.short ht.mac) F40 E E E qy E ?_
    refine rd qy ?_;conv=>whnf
    refine⟨by omega,hj0,?_⟩
    conv=>whnf
    refine⟨E,hj0,ageT t (m.now+1),E,E,?_⟩
    conv=>whnf
    refine⟨qy,?_⟩
    conv=>whnf
    refine⟨by unfold I64;omega,?_⟩
    conv=>whnf
    exact Aq [] hlt ⟨⟨E,E,E,E,Y⟩,⟨.inl E,E,.inl (congrArg (Ob.row 1 C7) hs.symm),E,.inl E,E,Y⟩,E,E⟩
   ·have hjj:j=m.tables.length:=by have:=of_decide_eq_false h;omega
    subst hjj
    clear h
    refine rg ?_;conv=>whnf
    refine An 4 3 A9 E ?_
    exact done E (.cons .tmp .nil) [] (Ep n ⟨m.up,Li m.tables (m.now+1) m.tables.length,m.queues,(m.now+1),m.injected,m.drops⟩) (fun _ h=>h) E E ⟨Y,⟨.inl E,E,.inl E,E,.inl E,E,Y⟩,E,E⟩
  ·have h2:¬ m.now<1099511627776:=of_decide_eq_false h
   rw[hti m.now qn]at hres
   subst hres
   clear h
   refine rg ?_;conv=>whnf
   refine At m.tables.length (fun j=>[(0,.ptr 0 0),(8,Aa j)]) (fun j=>Asu n m (m.now) j) [] ⟨⟨E,E,E,E,Y⟩,⟨.inl E,E,.inl E,E,.inl E,E,Y⟩,E,E⟩ ?_
   intro j hj
   have hal:=Qh m.tables (m.now) j
   refine rg ?_;conv=>whnf
   refine⟨fun h=>?_,fun h=>?_⟩
   ·have hlt:j<m.tables.length:=by have:=of_decide_eq_true h;omega
    have hj0:((j:Nat):Int).toNat<(Li m.tables (m.now) j).length:=by rw[hal];simpa using hlt
    obtain ⟨t,hoo⟩:∃ t,m.tables[j]=t:=⟨_,rfl⟩
    have e1:(Li m.tables (m.now) j)[((j:Nat):Int).toNat]'hj0=t:=(Zy m.tables (m.now) j hlt (by rw[hal];exact hlt)).trans hoo
    have hs:=Vj m.tables (m.now) j hlt
    rw[hoo]at hs
    have ht:=hto t (by rw[← hoo];exact List.getElem_mem hlt)
    clear h
    refine rg ?_;conv=>whnf
    refine⟨by omega,hj0,?_⟩
    conv=>whnf
    refine⟨E,hj0,?_⟩
    rw[e1]
    conv=>whnf
    refine Au (Aa1 t (m.now) ht.short ht.mac) F40 E E E qy E ?_
    refine rd qy ?_;conv=>whnf
    refine⟨by omega,hj0,?_⟩
    conv=>whnf
    refine⟨E,hj0,ageT t (m.now),E,E,?_⟩
    conv=>whnf
    refine⟨qy,?_⟩
    conv=>whnf
    refine⟨by unfold I64;omega,?_⟩
    conv=>whnf
    exact Aq [] hlt ⟨⟨E,E,E,E,Y⟩,⟨.inl E,E,.inl (congrArg (Ob.row 1 C7) hs.symm),E,.inl E,E,Y⟩,E,E⟩
   ·have hjj:j=m.tables.length:=by have:=of_decide_eq_false h;omega
    subst hjj
    clear h
    refine rg ?_;conv=>whnf
    refine An 4 3 A9 E ?_
    exact done E (.cons .tmp .nil) [] (Ep n ⟨m.up,Li m.tables (m.now) m.tables.length,m.queues,(m.now),m.injected,m.drops⟩) (fun _ h=>h) E E ⟨Y,⟨.inl E,E,.inl E,E,.inl E,E,Y⟩,E,E⟩
 have h1:¬ x.kind=4:=by simpa using h
 rw[if_neg h1]at hres
 clear h
 refine rg ?_;conv=>whnf
 refine⟨fun h=>?_,fun h=>?_⟩
 ·have h1:x.kind=5:=by simpa using h
  rw[if_pos h1]at hres
  clear h
  refine rg ?_;conv=>whnf
  refine⟨qy,?_⟩
  conv=>whnf
  refine⟨fun h=>?_,fun h=>?_⟩
  ·have h2:x.up.length=n.links.length:=by have:=of_decide_eq_true h;omega
   rw[if_pos h2]at hres
   subst hres
   clear h
   refine rg ?_;conv=>whnf
   refine Ai (Ae Γ.toTy 134 E E E E E (.lit (e:=Ad) (l:=[]) E E) .sl za (by simp;omega) (by simp;omega)) E E ?_
   refine As 134 E ?_
   refine rg ?_;conv=>whnf
   refine An 4 3 A9 E ?_
   exact done E (.cons .tmp .nil) [] (Ep n (upT m x.up)) (fun _ h=>h) E E ⟨Y,⟨.inl E,E,.inl E,E,.inl E,E,Y⟩,E,E⟩
  ·have h2:¬ x.up.length=n.links.length:=by have:=of_decide_eq_false h;omega
   rw[if_neg h2]at hres
   subst hres
   clear h
   refine rg ?_;conv=>whnf
   refine An 4 3 A9 E ?_
   exact done E (.cons .tmp .nil) [] (Ep n m) (fun _ h=>h) E E ⟨Y,⟨.inl E,E,.inl E,E,.inl E,E,Y⟩,E,E⟩
 have h1:¬ x.kind=5:=by simpa using h
 rw[if_neg h1]at hres
 subst hres
 clear h
 refine rg ?_;conv=>whnf
 refine An 4 3 A9 E ?_
 exact done E (.cons .tmp .nil) [] (Ep n m) (fun _ h=>h) E E ⟨Y,⟨.inl E,E,.inl E,E,.inl E,E,Y⟩,E,E⟩
def docC (n:Net) (c8 c9 c10:SV) (now inj:Int) (d:Nat→Int):List SV :=
 [.sl 5 Bt n.devices,.sl 7 Bj n.ports,.sl 3 Cu n.links,.sl 6 A1 n.domains,.sl 4 Br n.statics,.sl 4 Ca n.floods,.sl 5 C6 n.vrfs,.sl 5 Du n.irbs,c8,c9,c10,.val (.int .i64 now),.val (.int .i64 inj),
 .val (.int .i64 (d 0)),.val (.int .i64 (d 1)),.val (.int .i64 (d 2)),.val (.int .i64 (d 3)),.val (.int .i64 (d 4)),.val (.int .i64 (d 5)),.val (.int .i64 (d 6)),.val (.int .i64 (d 7)),.val (.int .i64 (d 8)),.val (.int .i64 (d 9)),.val (.int .i64 (d 10)),.val (.int .i64 (d 11)),.val (.int .i64 (d 12)),.val (.int .i64 (d 13)),.val (.int .i64 (d 14)),.val (.int .i64 (d 15)),.val (.int .i64 (d 16)),.val (.int .i64 (d 17)),.val (.int .i64 (d 18)),.val (.int .i64 (d 19)),.val (.int .i64 (d 20)),.val (.int .i64 (d 21)),.val (.int .i64 (d 22)),.val (.int .i64 (d 23)),.val (.int .i64 (d 24)),.val (.int .i64 (d 25)),.val (.int .i64 (d 26)),.val (.int .i64 (d 27)),.val (.int .i64 (d 28)),.val (.int .i64 (d 29)),.val (.int .i64 (d 30)),.val (.int .i64 (d 31)),.val (.int .i64 (d 32)),.val (.int .i64 (d 33)),.val (.int .i64 (d 34)),.val (.int .i64 (d 35)),.val (.int .i64 (d 36)),.val (.int .i64 (d 37)),.val (.int .i64 (d 38)),.val (.int .i64 (d 39)),.val (.int .i64 (d 40)),.val (.int .i64 (d 41)),.val (.int .i64 (d 42)),.val (.int .i64 (d 43)),.val (.int .i64 (d 44)),.val (.int .i64 (d 45)),.val (.int .i64 (d 46)),.val (.int .i64 (d 47)),.val (.int .i64 (d 48)),.val (.int .i64 (d 49)),.val (.int .i64 (d 50)),.val (.int .i64 (d 51)),.val (.int .i64 (d 52)),.val (.int .i64 (d 53)),.val (.int .i64 (d 54)),.val (.int .i64 (d 55)),.val (.int .i64 (d 56)),.val (.int .i64 (d 57)),.val (.int .i64 (d 58)),.val (.int .i64 (d 59)),.val (.int .i64 (d 60)),.val (.int .i64 (d 61)),.val (.int .i64 (d 62)),.val (.int .i64 (d 63))]
def nilC:SV:=.val (.slice none 0 0)
def Asv (n:Net) (j:Nat):Obs:=[(1,.box (Z8 n)),(10,.box (docC n (.osl 1000) nilC nilC 0 0 (fun _=>0))),(1000,.row 1 Ad (List.replicate j true))]
theorem Ajd (n:Net) (hn:n.Fin) (hb:okB n (M7 n)=false) :
  Sy.Spec Tryz.prog 14 [Ap n] [] (.tup [.val (.pointer none),Aa 2]) []:=Ab Γ hm 100 F14 Tryz.ntmps14 rfl fun F hF=>by
 have hls:=hn.links
 unfold Ar at hls
 have q2:=Sc n (M7 n) hn hb
 unfold M7 at q2
 conv=>whnf
 refine Qj 10 8 1000 1 Ad E E E E ?_
 refine At n.links.length (fun j=>[(1,.ptr 1 0),(4,.ptr 10 0),(5,Aa j)]) (fun j=>Asv n j) [] ⟨⟨E,E,E,E,E,E,Y⟩,⟨.inl E,E,.inl E,E,.inl E,E,Y⟩,E,E⟩ ?_
 intro j hj
 refine rg ?_;conv=>whnf
 refine⟨fun h=>?_,fun h=>?_⟩
 ·have hlt:j<n.links.length:=by have:=of_decide_eq_true h;omega
  have hs:List.replicate (j+1) true=List.replicate j true++[true]:=by rw[List.replicate_succ']
  clear h
  refine rg ?_;conv=>whnf
  refine Ai (Ae Γ.toTy 24 E E E E E (.row E) (.lit (e:=Ad) (l:=[true]) E E) za (by simp;omega) (by simp;omega)) E E ?_
  refine rg ?_;conv=>whnf
  refine⟨by unfold I64;omega,?_⟩
  conv=>whnf
  exact Aq [(1000,24)] hlt ⟨⟨E,E,E,E,E,E,Y⟩,⟨.inl E,E,.inl E,E,.inl (congrArg (Ob.row 1 Ad) hs),E,Y⟩,E,E⟩
 have hjj:j=n.links.length:=by have:=of_decide_eq_false h;omega
 subst hjj
 clear h
 refine As 1000 E ?_
 refine rg ?_;conv=>whnf
 refine Au q2 F34 E E E qy E ?_
 refine rd qy ?_;conv=>whnf
 refine⟨qy,?_⟩
 ((conv=>whnf);refine aT ?_;refine rg ?_;conv=>whnf)
 exact Ac E (.cons .tmp (.cons .tmp .nil)) E E
theorem Ar5 (n:Net) (hn:n.Fin) (hb:okB n (M7 n)=true) :
  Sy.Spec Tryz.prog 14 [Ap n] [] (.tup [.ptr 0 0,Aa 0]) (Ep n (newT n)):=Ab Γ hm 100 F14 Tryz.ntmps14 rfl fun F hF=>by
 have hls:=hn.links
 have hds:=hn.domains
 unfold Ar at hls hds
 have q2:=Ua n (M7 n) hn hb
 unfold M7 at q2
 have hnt:=newT.eq_1 n
 generalize newT n=m at *
 conv=>whnf
 refine Qj 10 8 1000 1 Ad E E E E ?_
 refine At n.links.length (fun j=>[(1,.ptr 1 0),(4,.ptr 10 0),(5,Aa j)]) (fun j=>Asv n j) [] ⟨⟨E,E,E,E,E,E,Y⟩,⟨.inl E,E,.inl E,E,.inl E,E,Y⟩,E,E⟩ ?_
 intro j hj
 refine rg ?_;conv=>whnf
 refine⟨fun h=>?_,fun h=>?_⟩
 ·have hlt:j<n.links.length:=by have:=of_decide_eq_true h;omega
  have hs:List.replicate (j+1) true=List.replicate j true++[true]:=by rw[List.replicate_succ']
  clear h
  refine rg ?_;conv=>whnf
  refine Ai (Ae Γ.toTy 24 E E E E E (.row E) (.lit (e:=Ad) (l:=[true]) E E) za (by simp;omega) (by simp;omega)) E E ?_
  refine rg ?_;conv=>whnf
  refine⟨by unfold I64;omega,?_⟩
  conv=>whnf
  exact Aq [(1000,24)] hlt ⟨⟨E,E,E,E,E,E,Y⟩,⟨.inl E,E,.inl E,E,.inl (congrArg (Ob.row 1 Ad) hs),E,Y⟩,E,E⟩
 have hjj:j=n.links.length:=by have:=of_decide_eq_false h;omega
 subst hjj
 clear h
 refine As 1000 E ?_
 refine rg ?_;conv=>whnf
 refine Au q2 F34 E E E qy E ?_
 refine rd qy ?_;conv=>whnf
 refine⟨qy,?_⟩
 ((conv=>whnf);refine aF ?_;refine rg ?_;conv=>whnf)
 refine Ai (B1 Γ.toTy (d:=42) (n:=n.domains.length) (fun _:Unit=>.val (.slice none 0 0)) () E E E E E E E E qn qn E E E) E E ?_
 refine rg ?_;conv=>whnf
 refine Ai (B1 Γ.toTy (d:=49) (n:=n.domains.length) (fun _:Unit=>.val (.slice none 0 0)) () E E E E E E E E qn qn E E E) E E ?_
 refine rg ?_;conv=>whnf
 refine Vg 42 (e':=C7) (l':=List.replicate n.domains.length []) E za (fun M w i h1 h2 v hv=>?_) ?_
 ·rw[List.getElem_replicate]
  simp only[RdD]at hv
  exact Mv hv
 refine Vg 49 (e':=I8) (l':=List.replicate n.domains.length []) E za (fun M w i h1 h2 v hv=>?_) ?_
 ·rw[List.getElem_replicate]
  simp only[RdD]at hv
  exact Mv hv
 subst hnt
 exact done E (.cons .tmp (.cons .tmp .nil)) [(0,10),(902,42),(903,49)] (Ep n ⟨List.replicate n.links.length true,List.replicate n.domains.length [],List.replicate n.domains.length [],0,0,fun _=>0⟩) (fun _ h=>h) E E ⟨Y,⟨.inl E,E,.inl E,E,.inl E,E,Y⟩,E,E⟩
theorem any_at3 {α:Type} {p:α→Bool} {l:List α} {j:Nat} (hj:j<l.length) (h:p l[j]=true):l.any p=true:=List.any_eq_true.2 ⟨_,List.getElem_mem hj,h⟩
theorem Ab3 {α:Type} {p:α→Bool} {l:List α} {j:Nat} (hI:Dd (fun _ x=>!(p x)) l j) (hj:l.length≤j):l.any p=false:=by
 rw[List.any_eq_false]
 intro x hx
 obtain ⟨i,hi,rfl⟩:=List.getElem_of_mem hx
 have:=hI i hi qn
 simpa using this
def Je (x:StepM):Bool:=decide (2000<x.bytes.length) || decide (60<x.up.length)
def great33B (l:List StepM):Bool:=decide (60<l.length) || l.any Je
theorem Apr (l:List StepM):Sy.Spec Tryz.prog 11 [.sl 6 Bu l] [] (Ad (great33B l)) []:=Ab Γ hm 100 F11 Tryz.ntmps11 rfl fun F hF=>by
 have hres:=great33B.eq_1 l
 generalize great33B l=res at *
 conv=>whnf
 refine⟨fun h=>?_,fun h=>?_⟩
 ·rw[decide_eq_true (by have:=of_decide_eq_true h;omega),Bool.true_or]at hres
  subst hres
  refine rg ?_;conv=>whnf
  exact Ac E (.cons .tmp .nil) E E
 have hl:l.length≤60:=by have:=of_decide_eq_false h;omega
 rw[decide_eq_false qn,Bool.false_or]at hres
 refine rg ?_;conv=>whnf
 refine A2 l.length (fun j=>Dd (fun _ x=>!(Je x)) l j) (fun j=>[(0,.sl 6 Bu l),(3,Aa j)]) (fun _=>[]) [] (A5 _ _) ⟨⟨E,E,E,E,Y⟩,Y,E,E⟩ ?_
 intro j hj hI
 refine rg ?_;conv=>whnf
 refine⟨fun h=>?_,fun h=>?_⟩
 ·have hlt:j<l.length:=by have:=of_decide_eq_true h;omega
  have hj0:((j:Nat):Int).toNat<l.length:=by simpa using hlt
  have hat:=fun h=>@any_at3 _ Je l j hlt h
  have hnx:=fun h=>A3 (p:=fun _ x=>!(Je x)) hI hlt h
  obtain ⟨x,hx⟩:∃ x,l[((j:Nat):Int).toNat]'hj0=x:=⟨_,rfl⟩
  have hx':l[j]=x:=hx
  rw[hx']at hat hnx
  refine rg ?_;conv=>whnf
  refine⟨E,by omega,hj0,?_⟩
  rw[hx]
  conv=>whnf
  refine⟨fun h=>?_,fun h=>?_⟩
  ·rw[hat (by rw[Je,decide_eq_true (by have:=of_decide_eq_true h;omega),Bool.true_or])]at hres
   subst hres
   (refine rg ?_;(conv=>whnf);refine aT ?_;refine rg ?_;conv=>whnf)
   exact Ac E (.cons .tmp .nil) E E
  have h1:=of_decide_eq_false h
  refine rg ?_;conv=>whnf
  refine⟨E,by omega,hj0,?_⟩
  rw[hx]
  conv=>whnf
  refine⟨fun h=>?_,fun h=>?_⟩
  ·rw[hat (by rw[Je,decide_eq_true (by have:=of_decide_eq_true h;omega:60<x.up.length),Bool.or_true])]at hres
   subst hres
   refine rg ?_;conv=>whnf
   exact Ac E (.cons .tmp .nil) E E
  have h2:=of_decide_eq_false h
  refine rg ?_;conv=>whnf
  refine⟨by unfold I64;omega,?_⟩
  conv=>whnf
  exact Aw [] hI qn (hnx (by rw[Je,decide_eq_false qn,decide_eq_false qn];rfl)) ⟨⟨E,E,E,E,Y⟩,Y,E,E⟩
 ·have hje:j=l.length:=by have:=of_decide_eq_false h;omega
  subst hje
  rw[Ab3 hI (Nat.le_refl _)]at hres
  subst hres
  refine rg ?_;conv=>whnf
  exact Ac E (.cons .tmp .nil) E E
theorem Aaf {l:List StepM} (h:great33B l=false):l.length≤60∧∀ x∈l,x.bytes.length≤2000∧x.up.length≤60:=by
 simp only[great33B,Je,Bool.or_eq_false_iff,decide_eq_false_iff_not,List.any_eq_false,Bool.or_eq_true,decide_eq_true_eq]at h
 refine⟨by omega,fun x hx=>?_⟩
 have:=h.2 x hx
 omega
end Go.Sy.YtmelpejjondedaaGreat
namespace Go.Sy
open Go.ChangeShapes Go.WideShapes Go.ChangeAt Go.RowKit
section
variable {H:Type} (enc:TypeId × Value→H) (P:Program) (W:World)
def Op1 (t:TypeId) {α:Type} (e:α→SV) (p:α→Prop):Prop :=
 ∀ n c y,DataW.trod enc P W 0 (fun _=>true) true n t [c]=some y→∃ x,p x∧Rd κ0 W (e x) c∧c.oneCell'=true
def OpN (t:TypeId) {α:Type} (e:α→SV) (p:α→Prop) (sz:Nat):Prop :=
 ∀ n cs y,DataW.trod enc P W 0 (fun _=>true) true n t cs=some y→∃ x,p x∧cs.length=sz∧Ones cs∧RdL κ0 W (cellsOf (e x)) cs
variable {enc P W}
theorem B7 {t:TypeId} {k:IntKind} (ht:P.underlying t=some (.int k)):Op1 enc P W t (fun z=>.val (.int k z)) (fun z=>(Lit.int k z).wf=true):=fun n c y h=>by
 obtain ⟨z,e,_,hw⟩:=DataW.trod_int ht h
 have e:c=.int k z:=by simpa using e
 subst e
 exact⟨z,hw,by simp[Rd],E⟩
theorem Ah9 {t:TypeId} (ht:P.underlying t=some .string):Op1 enc P W t Aau (fun s=>s.size≤maxLen):=fun n c y h=>by
 obtain ⟨z,e,_,hw⟩:=DataW.trod_string ht h
 have e:c=.string z:=by simpa using e
 subst e
 exact⟨z,hw,by simp[Aau,Rd],E⟩
theorem Acy {t:TypeId} {k:IntKind} (ht:P.underlying t=some (.int k)):OpN enc P W t (fun z=>.val (.int k z)) (fun z=>(Lit.int k z).wf=true) 1:=fun n cs y h=>by
 obtain ⟨z,rfl,_,hw⟩:=DataW.trod_int ht h
 refine⟨z,hw,E,fun c hc=>by simp at hc;subst hc;rfl,?_⟩
 simp[cellsOf,RdL,Rd]
theorem Aov {t:TypeId} (ht:P.underlying t=some .bool):OpN enc P W t Ad (fun _=>True) 1:=fun n cs y h=>by
 obtain ⟨z,rfl,_⟩:=DataW.trod_bool ht h
 refine⟨z,Y,E,fun c hc=>by simp at hc;subst hc;rfl,?_⟩
 simp[Ad,cellsOf,RdL,Rd]
theorem Ab1 {base:Nat} {a:Addr} {n:Nat} {cs:List Value} (h:W.cells? base a n=some cs):cs.length=n∧∀ j (_:j<n),W.cell? (a.add j)=cs[j]?:=by
 unfold World.cells? at h
 split at h
 ·refine⟨by simpa using mapM_some_length h,fun j hj=>?_⟩
  exact mapM_some_get h j j (by simp[hj])
 ·cases h
theorem Df {t et:TypeId} {α:Type} {e:α→SV} {p:α→Prop} {sz:Nat} (ht:P.underlying t=some (.slice et)) (hsz:P.cellsOf et=sz) (h0:0<sz) (hb:∀ x,(e x).boxed=true) (hd:∀ x,(e x).data=true) (hO:OpN enc P W et e p sz) :
  Op1 enc P W t (fun l:List α=>.sl sz e l) (fun l=>(∀ x∈l,p x)∧l.length≤maxLen):=fun n c y h=>by
 rcases DataW.trod_slice ht h with ⟨hcs,_⟩ | ⟨a,len,cap,elems,rest,m,rfl,hcs,_,_,hlc,hcm,hel,hget,_⟩
 ·have hc:c=.slice none 0 0:=by simpa using hcs
  subst hc
  refine⟨[],⟨by simp,Nat.zero_le _⟩,?_,E⟩
  simp only[Rd,RdD]
  exact .inl ⟨Y,none,0,E⟩
 ·have hc:c=.slice (some a) len cap:=by simpa using hcs
  subst hc
  rw[hsz]at hget
  have hall:∀ i:Fin len,∃ x,p x∧∃ cs,W.cells? 0 (a.add (i * sz)) sz=some cs∧cs.length=sz∧Ones cs∧RdL κ0 W (cellsOf (e x)) cs:=fun i=>by
   have h1:=hget i.1 i.2
   rw[List.getElem?_eq_getElem qn]at h1
   obtain ⟨cs,h2,h3⟩:=Option.bind_eq_some_iff.1 h1
   obtain ⟨x,h4,h5,h6,h7⟩:=hO _ _ _ h3
   exact⟨x,h4,cs,h2,h5,h6,h7⟩
  let xs:Fin len→α:=fun i=>Classical.choose (hall i)
  have hxs:∀ i,p (xs i)∧∃ cs,W.cells? 0 (a.add (i.1 * sz)) sz=some cs∧cs.length=sz∧Ones cs∧RdL κ0 W (cellsOf (e (xs i))) cs:=fun i=>Classical.choose_spec (hall i)
  refine⟨List.ofFn xs,⟨fun x hx=>?_,by simp;omega⟩,?_,E⟩
  ·obtain ⟨i,rfl⟩:=List.mem_ofFn.1 hx
   exact(hxs i).1
  ·simp only[Rd,RdD]
   by_cases hl:len=0
   ·subst hl
    exact .inl ⟨by simp,_,_,E⟩
   ·have hcell:∀ i:Fin len,∀ j,j<sz→∃ v,W.cell? ((a.add (i.1 * sz)).add j)=some v:=fun i j hj=>by
     obtain ⟨_,cs,h1,h2,_⟩:=hxs i
     have:=(Ab1 h1).2 j hj
     rw[List.getElem?_eq_getElem qn]at this
     exact⟨_,this⟩
    obtain ⟨b,off,spot⟩:=a
    have hspot:spot=none:=by
     obtain ⟨v,hv⟩:=hcell ⟨0,by omega⟩ 0 h0
     simpa [Addr.add] using World.cell?_spot hv
    subst hspot
    have hadd:∀ i j,((⟨b,off,none⟩:Addr).add i).add j=⟨b,off+i+j,none⟩:=fun i j=>by rw[Addr.add_lit,Addr.add_lit]
    refine .inr ⟨b,off,cap,by simp,by simpa using hlc,?_,?_,fun i hi=>?_⟩
    ·rintro (⟨k,hk⟩ | hk)
     ·cases hk
     ·exact hk
    ·obtain ⟨v,hv⟩:=hcell ⟨0,by omega⟩ 0 h0
     rw[hadd]at hv
     rcases Nat.lt_or_ge b W.heap.size with h | h
     ·exact h
     ·simp[World.cell?,Array.getElem?_eq_none h]at hv
    ·simp only[List.length_ofFn]at hi
     obtain ⟨_,cs,h1,h2,h3,h4⟩:=hxs ⟨i,hi⟩
     obtain ⟨u,g1,g2⟩:=Rd.of_cells (hb _) h3 h4
     refine⟨u,?_,?_,by rw[g2];exact h3,fun j hj=>?_⟩
     ·rw[List.getElem_ofFn]
      exact Rd.data _ _ (hd _) g1
     ·have:u.cells.toList.length=sz:=by rw[g2,h2]
      simpa using this
     ·have:=(Ab1 h1).2 j hj
      rw[hadd]at this
      rw[this,← g2]
      simp
end
end Go.Sy
